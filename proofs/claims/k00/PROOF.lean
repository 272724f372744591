import PyProof.Rows.All
import Wide.All
import OpenK.AllK
import Wide.FinOn
import PySem.Challenge.RW_recastform_k00_documents_checked
import HandS.ForMost
import HandS.Exc
import HandS.TryOnly
import HandS.ExcOwn
import HandS.TryMany
import HandS.HotCalls
import HandS.ExcCtx
import HandS.Star
import HandS.Style
import HandS.Deep
import HandS.TupAny
import HandS.Codes
import HandS.Conv
import HandS.Small
import HandS.Walk
import HandS.Zip
import KE.SortData
import KE.DatumIndex
import HandS.TupMul
import KE.DataCmp
import KE.OsSetLaws
import HandS.TupSets
import KE.KeyNested
import PyProof.Transfer
import HandS.DictComp
import HandS.DictTup
import HandS.Ends
import HandS.Defaults
import HandS.Head0
import HandS.Head1
import HandS.Head2
import HandS.HeadEnd
import HandS.HeadHook1
import HandS.HeadHook2
import HandS.ExcIs
set_option Elab.async false
section
/-! Ev: a small core language for the defs of the program and its laws, and a total evaluator in plain Lean.
    Values D are data (immutable) or places of a heap of mutable boxes and instances. -/
set_option autoImplicit false
namespace Ev

inductive D where
  | non | bl (b : Bool) | int (i : Int) | str (s : List Nat)
  | tup (xs : List D) | lst (xs : List D)
  | loc (n : Nat) | fn (f : Nat)
  /-- the list that the law is handed: it is only cut -/
  | scr (xs : List D)
  /-- the text that repr gives of data -/
  | rep (x : D)
  deriving Inhabited

mutual
def D.beq : D → D → Bool
  | .non, .non => true
  | .bl a, .bl b => a == b
  | .int a, .int b => decide (a = b)
  | .str a, .str b => decide (a = b)
  | .tup a, .tup b => D.beqs a b
  | .lst a, .lst b => D.beqs a b
  | .loc a, .loc b => decide (a = b)
  | .fn a, .fn b => decide (a = b)
  | .rep a, .rep b => D.beq a b
  | .scr a, .scr b => D.beqs a b
  | _, _ => false
def D.beqs : List D → List D → Bool
  | [], [] => true
  | a :: as, b :: bs => D.beq a b && D.beqs as bs
  | _, _ => false
end

mutual
/-- Python's == of data -/
def D.eqv : D → D → Bool
  | .non, .non => true
  | .bl a, .bl b => a == b
  | .bl a, .int j => decide ((if a then 1 else 0) = j)
  | .int i, .bl b => decide (i = (if b then 1 else 0))
  | .int a, .int b => decide (a = b)
  | .str a, .str b => decide (a = b)
  | .tup a, .tup b => D.eqvs a b
  | .lst a, .lst b => D.eqvs a b
  | _, _ => false
def D.eqvs : List D → List D → Bool
  | [], [] => true
  | a :: as, b :: bs => D.eqv a b && D.eqvs as bs
  | _, _ => false
end

mutual
/-- plain data: no place, no def in it -/
def D.pure : D → Bool
  | .tup xs => D.pures xs
  | .lst xs => D.pures xs
  | .loc _ => false
  | .fn _ => false
  | .scr _ => false
  | .rep _ => false
  | _ => true
def D.pures : List D → Bool
  | [] => true
  | x :: xs => D.pure x && D.pures xs
end

mutual
/-- each place in it is below n -/
def D.okB (n : Nat) : D → Bool
  | .tup xs => D.okBs n xs
  | .lst xs => D.okBs n xs
  | .loc m => decide (m < n)
  | .scr xs => D.okBs n xs
  | _ => true
def D.okBs (n : Nat) : List D → Bool
  | [] => true
  | x :: xs => D.okB n x && D.okBs n xs
end

mutual
def D.dep : D → Nat
  | .tup xs => D.deps xs + 1
  | .lst xs => D.deps xs + 1
  | _ => 0
def D.deps : List D → Nat
  | [] => 0
  | x :: xs => max (D.dep x) (D.deps xs)
end

/-- what stands at a place -/
inductive Ob where
  | box (d : D) | ins (c : Nat) (fs : List (Nat × D)) | gone
  deriving Inhabited
abbrev Mem := List Ob

mutual
/-- boxes within data replaced by what they hold -/
def D.fullW (g : Nat → Option D) : D → Option D
  | .tup xs => (D.fullWs g xs).map .tup
  | .lst xs => (D.fullWs g xs).map .lst
  | .loc n => g n
  | .fn _ => none
  | .scr _ => none
  | .rep _ => none
  | d => some d
def D.fullWs (g : Nat → Option D) : List D → Option (List D)
  | [] => some []
  | x :: xs => match D.fullW g x, D.fullWs g xs with
    | some y, some ys => some (y :: ys)
    | _, _ => none
end
def full (h : Mem) : Nat → D → Option D
  | 0, d => D.fullW (fun _ => none) d
  | n + 1, d => D.fullW (fun m => match h[m]? with | some (.box c) => full h n c | _ => none) d
/-- what a place holds, if it is a box; else the value itself -/
def shal (h : Mem) : D → D
  | .loc n => match h[n]? with | some (.box c) => c | _ => .loc n
  | d => d

inductive R where
  | ok (d : D) (h : Mem) | exc (c : Nat) (x : D) (h : Mem) | stuck
abbrev Fr := List (Option D)
inductive RS where
  | nx (f : Fr) (h : Mem) | bk (f : Fr) (h : Mem) | ct (f : Fr) (h : Mem) | rt (d : D) (h : Mem)
  | exc (c : Nat) (x : D) (f : Fr) (h : Mem) | stuck
inductive RL where
  | ok (ds : List D) (h : Mem) | exc (c : Nat) (x : D) (h : Mem) | stuck
inductive RB where
  | ok (b : Bool) (h : Mem) | exc (c : Nat) (x : D) (h : Mem) | stuck

inductive Bop where | add | sub | mul | fdiv | mod | pow
inductive Cop where | lt | le | gt | ge | eq | ne | is_ | isnot | in_ | notin
/-- built-in functions -/
inductive Bi where | len | abs | int_ | str_ | repr | sum | max1 | max2 | min1 | min2 | all | any | tuple_ | lenset | join
/-- built-in methods that change a box, or read -/
inductive Mt where | append | extend | pop0 | pop1 | index | count

mutual
inductive CE where
  | c (d : D) | v (i : Nat) | g (i : Nat) | f (i : Nat)
  | bin (o : Bop) (a b : CE) | neg (a : CE)
  | cmp (o : Cop) (a b : CE) | chn (o p : Cop) (a b c : CE)
  | and (es : CEs) | or (es : CEs) | not (a : CE) | ite (t : CT) (a b : CE)
  | tup (es : CEs) | fr (e : FE) | nw (e : FE)
  | ix (a b : CE) | sl (a : CE) (lo hi : CO)
  | call (f : Nat) (es : CEs) | callv (g : CE) (es : CEs)
  | bi (b : Bi) (es : CEs) | mt (m : Mt) (o : CE) (es : CEs)
  | frz (a : CE)
inductive CO where | no | so (a : CE)
inductive CT where | e (a : CE) | and (ts : CTs) | or (ts : CTs) | not (t : CT) | yes
inductive CTs where | nil | cons (t : CT) (ts : CTs)
inductive FE where
  | lst (es : CEs) | lc (e : CE) (t : Tg) (s : Src) (c : CT) | sorted (a : CE) | sortset (a : CE) | sortdict (e : CE) (t : Tg) (s : Src) (c : CT) | list_ (a : CE) | rev (a : CE)
  | rep (a b : CE)
inductive CEs where | nil | cons (e : CE) (es : CEs) | star (e : CE) (es : CEs)
inductive Src where | it (e : CE) | rng (es : CEs) | enum (e : CE) | zip (es : CEs)
inductive Tg where | nm (i : Nat) | tp (ts : Tgs)
inductive Tgs where | nil | cons (t : Tg) (ts : Tgs)
end
/-- a handler's suite -/
inductive Su where | ret (d : D) | err (f : Nat) | asg (i : Nat) (d : D)
mutual
inductive CS where
  | asg (t : Tg) (e : CE) | par (i j : Nat) (a b : CE) | setix (o i e : CE) | aug (i : Nat) (o : Bop) (e : CE)
  | expr (e : CE) | ret (e : CE) | retn | ite (t : CT) (a b : CSs) | for_ (t : Tg) (s : Src) (b : CSs)
  | while_ (t : CT) (b : CSs) | raise (c : Nat) (m : List Nat) | pass | brk | cont
  | try_ (b : CSs) (cs : List Nat) (s : Su)
inductive CSs where | nil | cons (s : CS) (ss : CSs) | fz (i : Nat) (ss : CSs)
end

structure Def where
  np : Nat
  ns : Nat
  gc : Bool
  body : CSs

/-! ### pure operations -/
def LIM : Nat := 1000000
def isInfix1 (c : Nat) (y : List Nat) : Bool := decide (c ∈ y)

mutual
def D.toks : D → List (Int ⊕ List Nat)
  | .bl b => [.inl (if b = true then 1 else 0)]
  | .int n => [.inl n]
  | .str x => [.inr x]
  | .tup xs => D.tokss xs
  | .lst xs => D.tokss xs
  | _ => []
def D.tokss : List D → List (Int ⊕ List Nat)
  | [] => [.inl 0]
  | x :: xs => .inl 1 :: (D.toks x ++ D.tokss xs)
end
def lexNat : List Nat → List Nat → Bool
  | [], [] => false
  | [], _ :: _ => true
  | _ :: _, [] => false
  | a :: as, b :: bs => if a = b then lexNat as bs else decide (a < b)
def tokLt : (Int ⊕ List Nat) → (Int ⊕ List Nat) → Bool
  | .inl a, .inl b => decide (a < b)
  | .inr a, .inr b => lexNat a b
  | .inl _, .inr _ => true
  | .inr _, .inl _ => false
def tokEq : (Int ⊕ List Nat) → (Int ⊕ List Nat) → Bool
  | .inl a, .inl b => decide (a = b)
  | .inr a, .inr b => decide (a = b)
  | _, _ => false
def lexTok : List (Int ⊕ List Nat) → List (Int ⊕ List Nat) → Bool
  | [], [] => false
  | [], _ :: _ => true
  | _ :: _, [] => false
  | a :: as, b :: bs => if tokEq a b then lexTok as bs else tokLt a b
/-- Python's < of data that are alike -/
def D.lt (a b : D) : Bool := lexTok a.toks b.toks
mutual
def D.alike : D → D → Bool
  | .non, .non => true
  | .bl _, .bl _ => true
  | .int _, .int _ => true
  | .str _, .str _ => true
  | .lst xs, .lst ys => D.alikes xs ys
  | .tup xs, .tup ys => D.alikes xs ys
  | _, _ => false
def D.alikes : List D → List D → Bool
  | x :: xs, y :: ys => D.alike x y && D.alikes xs ys
  | [], _ => true
  | _ :: _, [] => true
end

/-- a row: a tuple or a list -/
def D.rowB : D → Bool
  | .tup _ => true
  | .lst _ => true
  | _ => false
mutual
/-- what may be in a set: no list in it -/
def D.keyB : D → Bool
  | .tup xs => D.keyBs xs
  | .lst _ => false
  | .loc _ => false
  | .fn _ => false
  | .scr _ => false
  | .rep _ => false
  | _ => true
def D.keyBs : List D → Bool
  | [] => true
  | x :: xs => D.keyB x && D.keyBs xs
end
def D.isTup : D → Bool
  | .tup (_ :: _) => true
  | _ => false

def binop : Bop → D → D → Option D
  | .add, .int a, .int b => some (.int (a + b))
  | .add, .str a, .str b => if a.length + b.length ≤ LIM then some (.str (a ++ b)) else none
  | .add, .tup a, .tup b => if a.length + b.length ≤ LIM then some (.tup (a ++ b)) else none
  | .add, .lst a, .lst b => if a.length + b.length ≤ LIM then some (.lst (a ++ b)) else none
  | .sub, .int a, .int b => some (.int (a - b))
  | .mul, .int a, .int b => if (-(2 ^ 64) < a ∧ a < 2 ^ 64) ∨ (-(2 ^ 64) < b ∧ b < 2 ^ 64) then some (.int (a * b)) else none
  | .mul, .tup a, .int k => if 1 ≤ k ∧ k ≤ 1000 ∧ a.length ≤ 1000 ∧ 0 < a.length then some (.tup (List.replicate k.toNat a).flatten) else none
  | .fdiv, .int a, .int b => if 0 < b ∧ b < 1073741824 then some (.int (a / b)) else none
  | .mod, .int a, .int b => if 0 < b then some (.int (a % b)) else none
  | .pow, .int a, .int b => if 0 ≤ b ∧ b ≤ 1000 ∧ a.natAbs < 2 ^ 64 then some (.int (a ^ b.toNat)) else none
  | _, _, _ => none

def cmpop (h : Mem) : Cop → D → D → Option Bool
  | .lt, .int a, .int b => some (decide (a < b))
  | .le, .int a, .int b => some (decide (a ≤ b))
  | .gt, .int a, .int b => some (decide (b < a))
  | .ge, .int a, .int b => some (decide (b ≤ a))
  | .lt, .str a, .str b => some (lexNat a b)
  | .eq, .rep a, .rep b => if a.beq b then some true else none
  | .ne, .rep a, .rep b => if a.beq b then some false else none
  | .eq, a, b => match full h 3 a, full h 3 b with
    | some x, some y => if x.dep ≤ 64 ∧ y.dep ≤ 64 then some (x.eqv y) else none
    | _, _ => none
  | .ne, a, b => match full h 3 a, full h 3 b with
    | some x, some y => if x.dep ≤ 64 ∧ y.dep ≤ 64 then some (!x.eqv y) else none
    | _, _ => none
  | .is_, .non, .non => some true
  | .is_, .loc _, .non => some false
  | .is_, a, .non => if a.pure then some false else none
  | .isnot, .non, .non => some false
  | .isnot, .loc _, .non => some true
  | .isnot, a, .non => if a.pure then some true else none
  | .in_, .str a, .str b => match a with | [c] => some (decide (c ∈ b)) | _ => none
  | .notin, .str a, .str b => match a with | [c] => some (!decide (c ∈ b)) | _ => none
  | .in_, a, b => match shal h b with
    | .tup ds => if a.pure && D.pures ds && decide (a.dep ≤ 60) && decide (D.deps ds ≤ 60) then some (ds.any fun z => z.eqv a) else none
    | .lst ds => if a.pure && D.pures ds && decide (a.dep ≤ 60) && decide (D.deps ds ≤ 60) then some (ds.any fun z => z.eqv a) else none
    | _ => none
  | .notin, a, b => match shal h b with
    | .tup ds => if a.pure && D.pures ds && decide (a.dep ≤ 60) && decide (D.deps ds ≤ 60) then some (!ds.any fun z => z.eqv a) else none
    | .lst ds => if a.pure && D.pures ds && decide (a.dep ≤ 60) && decide (D.deps ds ≤ 60) then some (!ds.any fun z => z.eqv a) else none
    | _ => none
  | .lt, a, b => if a.pure && b.pure && a.alike b && a.rowB && decide (a.dep ≤ 60) && decide (b.dep ≤ 60) then some (a.lt b) else none
  | _, _, _ => none

/-- the place that an index leads to -/
def ixN (n : Nat) (i : Int) : Option Nat :=
  if 0 ≤ i then (if i < n then some i.toNat else none) else if -(n : Int) ≤ i then some (i + n).toNat else none
def atI {α : Type} (xs : List α) (i : Int) : Option α := (ixN xs.length i).bind fun j => xs[j]?
def sIx (n d : Nat) : Option Int → Nat
  | none => d
  | some i => if 0 ≤ i then min i.toNat n else (i + n).toNat
def cut {α : Type} (xs : List α) (lo hi : Option Int) : List α :=
  (xs.drop (sIx xs.length 0 lo)).take (sIx xs.length xs.length hi - sIx xs.length 0 lo)

def item : D → D → Option D
  | .tup xs, .int i => atI xs i
  | .lst xs, .int i => atI xs i
  | .str xs, .int i => if xs.length ≤ LIM then (atI xs i).map fun c => .str [c] else none
  | _, _ => none
def slice (d : D) (lo hi : Option Int) : Option D :=
  match d with
  | .tup xs => some (.tup (cut xs lo hi))
  | .lst xs => some (.lst (cut xs lo hi))
  | .scr xs => some (.lst (cut xs lo hi))
  | .str xs => if xs.length ≤ LIM then some (.str (cut xs lo hi)) else none
  | _ => none

def intsD : List D → Option (List Int)
  | [] => some []
  | .int i :: r => (intsD r).map (i :: ·)
  | _ :: _ => none
def bools : List D → Option (List Bool)
  | [] => some []
  | .bl b :: r => (bools r).map (b :: ·)
  | _ :: _ => none
def strsD : List D → Option (List (List Nat))
  | [] => some []
  | .str s :: r => (strsD r).map (s :: ·)
  | _ :: _ => none
def digits (i : Int) : List Nat := (toString i).toList.map Char.toNat
def maxI : List Int → Int
  | [] => 0
  | [a] => a
  | a :: r => max a (maxI r)
def minI : List Int → Int
  | [] => 0
  | [a] => a
  | a :: r => min a (minI r)
/-- each thing once, as it comes first -/
def dedup : List D → List D → List D
  | acc, [] => acc
  | acc, x :: xs => if acc.any (fun z => z.eqv x) then dedup acc xs else dedup (acc ++ [x]) xs
def sortD (xs : List D) : List D := xs.mergeSort fun a b => !b.lt a
/-- a list whose set may be sorted -/
def canSet (xs : List D) : Bool :=
  D.pures xs && D.keyBs xs && decide (D.deps xs ≤ 8) && decide (xs.length < 64) && xs.all (fun a => xs.all fun b => a.alike b) && xs.all D.isTup
def canSort (xs : List D) : Bool :=
  D.pures xs && decide (D.deps xs ≤ 60) && xs.all (fun a => xs.all fun b => a.alike b) &&
    (xs.all (fun a => match a with | .tup (_ :: _) => true | _ => false) || xs.all (fun a => match a with | .int _ => true | .str _ => true | _ => false))
def joinS (sep : List Nat) : List (List Nat) → List Nat
  | [] => []
  | [x] => x
  | x :: r => x ++ sep ++ joinS sep r

/-! ### the texts of data (repr) -/
mutual
/-- an upper bound of the length of the repr, where it can be told -/
def D.wt : D → Nat
  | .non => 5
  | .bl _ => 6
  | .int i => i.natAbs.log2 + 3
  | .str s => 10 * s.length + 3
  | .tup xs => D.wts xs + 4
  | .lst xs => D.wts xs + 4
  | _ => 0
def D.wts : List D → Nat
  | [] => 0
  | x :: xs => D.wt x + 2 + D.wts xs
end
mutual
/-- numbers of less than 1,900 bits, signs below 2^32 -/
def D.fine : D → Bool
  | .int i => decide (i.natAbs.log2 < 1900)
  | .tup xs => D.fines xs
  | .lst xs => D.fines xs
  | .loc _ => false
  | .fn _ => false
  | .scr _ => false
  | .rep _ => false
  | _ => true
def D.fines : List D → Bool
  | [] => true
  | x :: xs => D.fine x && D.fines xs
end

structure Cx where
  call : Nat → List D → Mem → R
  glob : Nat → Option D
  errT : Nat → Nat → Option D
  nx : Nat

def biF (b : Bi) (ds : List D) (h : Mem) : Option D :=
  match b, ds with
  | .len, [d] => match shal h d with
    | .tup xs => some (.int xs.length)
    | .lst xs => some (.int xs.length)
    | .str s => if s.length ≤ LIM then some (.int s.length) else none
    | _ => none
  | .abs, [.int i] => some (.int (if i < 0 then -i else i))
  | .int_, [.int i] => some (.int i)
  | .int_, [.bl k] => some (.int (if k then 1 else 0))
  | .str_, [.int i] => if i.natAbs.log2 < 1900 then some (.str (digits i)) else none
  | .repr, [d] => match full h 3 d with
    | some (.tup xs) => if (D.tup xs).dep ≤ 64 ∧ (D.tup xs).wt ≤ 1000000 ∧ (D.tup xs).fine then some (.rep (.tup xs)) else none
    | some (.lst xs) => if (D.lst xs).dep ≤ 64 ∧ (D.lst xs).wt ≤ 1000000 ∧ (D.lst xs).fine then some (.rep (.lst xs)) else none
    | _ => none
  | .sum, [d] => match shal h d with
    | .lst xs => (intsD xs).map fun l => .int l.sum
    | _ => none
  | .max1, [d] => match shal h d with
    | .lst (x :: xs) => (intsD (x :: xs)).map fun l => .int (maxI l)
    | _ => none
  | .min1, [d] => match shal h d with
    | .lst (x :: xs) => (intsD (x :: xs)).map fun l => .int (minI l)
    | _ => none
  | .max2, [.int a, .int b] => some (.int (if b > a then b else a))
  | .min2, [.int a, .int b] => some (.int (if b < a then b else a))
  | .all, [d] => match shal h d with
    | .lst xs => (bools xs).map fun l => .bl (l.all id)
    | _ => none
  | .any, [d] => match shal h d with
    | .lst xs => (bools xs).map fun l => .bl (l.any id)
    | _ => none
  | .tuple_, [d] => match shal h d with
    | .tup xs => some (.tup xs)
    | .lst xs => some (.tup xs)
    | _ => none
  | .lenset, [d] => match shal h d with
    | .lst xs => if xs.length ≤ 4000 then (intsD xs).map fun l => .int l.eraseDups.length else none
    | _ => none
  | .join, [.str s, d] => match shal h d with
    | .lst xs => (strsD xs).bind fun l => if (l.map List.length).sum + l.length * s.length ≤ LIM then some (.str (joinS s l)) else none
    | _ => none
  | _, _ => none

/-- methods that change a box -/
def mtb (m : Mt) (o : D) (ds : List D) (h : Mem) : Option (D × Mem) :=
  match o with
  | .loc n => match h[n]? with
    | some (.box (.lst xs)) => match m, ds with
      | .append, [d] => if xs.length < LIM then some (.non, h.set n (.box (.lst (xs ++ [d])))) else none
      | .extend, [d] => match shal h d with
        | .lst ys => if xs.length + ys.length ≤ LIM then some (.non, h.set n (.box (.lst (xs ++ ys)))) else none
        | _ => none
      | .pop0, [] => match xs.getLast? with
        | some y => some (y, h.set n (.box (.lst xs.dropLast)))
        | none => none
      | .pop1, [.int i] => match ixN xs.length i with
        | some k => match xs[k]? with
          | some y => some (y, h.set n (.box (.lst (xs.eraseIdx k))))
          | none => none
        | none => none
      | _, _ => none
    | _ => none
  | _ => none

def idxD (x : D) : List D → Option Nat
  | [] => none
  | y :: ys => if y.eqv x then some 0 else (idxD x ys).map (· + 1)
def mtf (m : Mt) (o : D) (ds : List D) (h : Mem) : Option (D × Mem) :=
  match m with
  | .index => match shal h o, ds with
    | .lst xs, [d] => if d.pure && D.pures xs && decide (d.dep ≤ 60) && decide (D.deps xs ≤ 60) then (idxD d xs).map fun j => (.int j, h) else none
    | _, _ => none
  | .count => match shal h o, ds with
    | .lst xs, [.int k] => (intsD xs).map fun l => (.int (l.count k), h)
    | _, _ => none
  | m => mtb m o ds h

mutual
def asgT : Tg → D → Fr → Option Fr
  | .nm i, d, σ => if i < σ.length then some (σ.set i (some d)) else none
  | .tp ts, .tup ds, σ => asgTs ts ds σ
  | .tp ts, .lst ds, σ => asgTs ts ds σ
  | _, _, _ => none
def asgTs : Tgs → List D → Fr → Option Fr
  | .nil, [], σ => some σ
  | .cons t ts, d :: ds, σ => match asgT t d σ with
    | some σ' => asgTs ts ds σ'
    | none => none
  | _, _, _ => none
end

def small62 (i : Int) : Bool := decide (-(2 ^ 62) ≤ i) && decide (i < 2 ^ 62)
/-- lo, lo + c, .. n of them -/
def rngL (lo c : Int) : Nat → List D
  | 0 => []
  | n + 1 => .int lo :: rngL (lo + c) c n
def rngN (lo hi c : Int) : Nat := if c = 1 then (hi - lo).toNat else if c = -1 then (lo - hi).toNat else 0
def rngD : List D → Option (List D)
  | [.int n] => if small62 n then some (rngL 0 1 n.toNat) else none
  | [.int a, .int b] => if small62 a && small62 b then some (rngL a 1 (b - a).toNat) else none
  | [.int a, .int b, .int c] => if small62 a && small62 b && decide (c = -1) then some (rngL a (-1) (a - b).toNat) else none
  | _ => none
def seqD : D → Option (List D)
  | .tup xs => some xs
  | .lst xs => some xs
  | _ => none
/-- what a for walks: a text sign by sign -/
def itD : D → Option (List D)
  | .tup xs => some xs
  | .lst xs => some xs
  | .str s => some (s.map fun c => .str [c])
  | _ => none
def enumD : Nat → List D → List D
  | _, [] => []
  | k, x :: xs => .tup [.int k, x] :: enumD (k + 1) xs
def zipD : List D → List D → List D
  | x :: xs, y :: ys => .tup [x, y] :: zipD xs ys
  | _, _ => []

def zip2 : List D → Option (List D)
  | [.tup xs, .tup ys] => some (zipD xs ys)
  | [.lst xs, .lst ys] => some (zipD xs ys)
  | _ => none
/-- a for's turns -/
def forL (body : Fr → Mem → RS) (t : Tg) : List D → Fr → Mem → RS
  | [], σ, h => .nx σ h
  | x :: xs, σ, h => match asgT t x σ with
    | none => .stuck
    | some σ' => match body σ' h with
      | .nx σ2 h2 => forL body t xs σ2 h2
      | .ct σ2 h2 => forL body t xs σ2 h2
      | .bk σ2 h2 => .nx σ2 h2
      | r => r
def whileL (test : Fr → Mem → RB) (body : Fr → Mem → RS) : Nat → Fr → Mem → RS
  | 0, _, _ => .stuck
  | n + 1, σ, h => match test σ h with
    | .ok true h1 => match body σ h1 with
      | .nx σ2 h2 => whileL test body n σ2 h2
      | .ct σ2 h2 => whileL test body n σ2 h2
      | .bk σ2 h2 => .nx σ2 h2
      | r => r
    | .ok false h1 => .nx σ h1
    | .exc c x h1 => .exc c x σ h1
    | .stuck => .stuck
/-- a comprehension's turns: no error leaves it -/
def lcL (elt : Fr → Mem → R) (test : Fr → Mem → RB) (t : Tg) (σ : Fr) : List D → List D → Mem → RL
  | [], acc, h => .ok acc h
  | x :: xs, acc, h => match asgT t x σ with
    | none => .stuck
    | some σ' => match test σ' h with
      | .ok true h1 => match elt σ' h1 with
        | .ok d h2 => if acc.length < LIM then lcL elt test t σ xs (acc ++ [d]) h2 else .stuck
        | _ => .stuck
      | .ok false h1 => lcL elt test t σ xs acc h1
      | _ => .stuck

def WF : Nat := 1000000000

/-! ### the evaluator -/
mutual
def evE (C : Cx) : CE → Fr → Mem → R
  | .c d, _, h => if d.pure then .ok d h else .stuck
  | .v i, σ, h => match σ[i]? with
    | some (some d) => .ok d h
    | _ => .stuck
  | .g i, _, h => match C.glob i with
    | some d => .ok d h
    | none => .stuck
  | .f i, _, h => .ok (.fn i) h
  | .bin o a b, σ, h => match evE C a σ h with
    | .ok x h1 => match evE C b σ h1 with
      | .ok y h2 => match binop o (shal h2 x) (shal h2 y) with
        | some z => .ok z h2
        | none => .stuck
      | r => r
    | r => r
  | .neg a, σ, h => match evE C a σ h with
    | .ok (.int i) h1 => .ok (.int (-i)) h1
    | .ok _ _ => .stuck
    | r => r
  | .cmp o a b, σ, h => match evE C a σ h with
    | .ok x h1 => match evE C b σ h1 with
      | .ok y h2 => match cmpop h2 o x y with
        | some z => .ok (.bl z) h2
        | none => .stuck
      | r => r
    | r => r
  | .chn o p a b c, σ, h => match evE C a σ h with
    | .ok x h1 => match evE C b σ h1 with
      | .ok y h2 => match cmpop h2 o x y with
        | some true => match evE C c σ h2 with
          | .ok z h3 => match cmpop h3 p y z with
            | some k => .ok (.bl k) h3
            | none => .stuck
          | r => r
        | some false => .ok (.bl false) h2
        | none => .stuck
      | r => r
    | r => r
  | .and es, σ, h => evAnd C es σ h
  | .or es, σ, h => evOr C es σ h
  | .not a, σ, h => match evE C a σ h with
    | .ok (.bl b) h1 => .ok (.bl (!b)) h1
    | .ok _ _ => .stuck
    | r => r
  | .ite t a b, σ, h => match evT C t σ h with
    | .ok true h1 => evE C a σ h1
    | .ok false h1 => evE C b σ h1
    | .exc c x h1 => .exc c x h1
    | .stuck => .stuck
  | .tup es, σ, h => match evL C es σ h with
    | .ok ds h1 => if ds.length ≤ LIM then .ok (.tup ds) h1 else .stuck
    | .exc c x h1 => .exc c x h1
    | .stuck => .stuck
  | .fr e, σ, h => evF C e σ h
  | .nw e, σ, h => match evF C e σ h with
    | .ok d h1 => .ok (.loc h1.length) (h1 ++ [.box d])
    | r => r
  | .ix a b, σ, h => match evE C a σ h with
    | .ok x h1 => match evE C b σ h1 with
      | .ok y h2 => match item (shal h2 x) y with
        | some z => .ok z h2
        | none => .stuck
      | r => r
    | r => r
  | .sl a lo hi, σ, h => match evE C a σ h with
    | .ok x h1 => match evO C lo σ h1 with
      | some (l, h2) => match evO C hi σ h2 with
        | some (u, h3) => match slice (shal h3 x) l u with
          | some z => .ok z h3
          | none => .stuck
        | none => .stuck
      | none => .stuck
    | r => r
  | .call f es, σ, h => match evL C es σ h with
    | .ok ds h1 => C.call f ds h1
    | .exc c x h1 => .exc c x h1
    | .stuck => .stuck
  | .callv g es, σ, h => match evE C g σ h with
    | .ok (.fn f) h1 => match evL C es σ h1 with
      | .ok ds h2 => C.call f ds h2
      | .exc c x h1 => .exc c x h1
      | .stuck => .stuck
    | .ok _ _ => .stuck
    | r => r
  | .bi b es, σ, h => match evL C es σ h with
    | .ok ds h1 => match biF b ds h1 with
      | some d => .ok d h1
      | none => .stuck
    | .exc c x h1 => .exc c x h1
    | .stuck => .stuck
  | .mt m o es, σ, h => match evE C o σ h with
    | .ok x h1 => match shal h1 x with
      | .lst _ => match evL C es σ h1 with
        | .ok ds h2 => match mtf m x ds h2 with
          | some (d, h3) => .ok d h3
          | none => .stuck
        | .exc c x h1 => .exc c x h1
        | .stuck => .stuck
      | _ => .stuck
    | r => r
  | .frz a, σ, h => match evE C a σ h with
    | .ok (.loc n) h1 => match h1[n]? with
      | some (.box d) => .ok d (h1.set n .gone)
      | _ => .stuck
    | .ok _ _ => .stuck
    | r => r
def evO (C : Cx) : CO → Fr → Mem → Option (Option Int × Mem)
  | .no, _, h => some (none, h)
  | .so a, σ, h => match evE C a σ h with
    | .ok (.int i) h1 => some (some i, h1)
    | _ => none
def evAnd (C : Cx) : CEs → Fr → Mem → R
  | .cons e .nil, σ, h => evE C e σ h
  | .cons e es, σ, h => match evE C e σ h with
    | .ok (.bl true) h1 => evAnd C es σ h1
    | .ok (.bl false) h1 => .ok (.bl false) h1
    | .ok _ _ => .stuck
    | r => r
  | _, _, _ => .stuck
def evOr (C : Cx) : CEs → Fr → Mem → R
  | .cons e .nil, σ, h => evE C e σ h
  | .cons e es, σ, h => match evE C e σ h with
    | .ok (.bl false) h1 => evOr C es σ h1
    | .ok (.bl true) h1 => .ok (.bl true) h1
    | .ok _ _ => .stuck
    | r => r
  | _, _, _ => .stuck
/-- a test -/
def evT (C : Cx) : CT → Fr → Mem → RB
  | .and es, σ, h => evTA C es σ h
  | .or es, σ, h => evTO C es σ h
  | .not a, σ, h => match evT C a σ h with
    | .ok b h1 => .ok (!b) h1
    | r => r
  | .e a, σ, h => match evE C a σ h with
    | .ok (.bl b) h1 => .ok b h1
    | .ok _ _ => .stuck
    | .exc c x h1 => .exc c x h1
    | .stuck => .stuck
  | .yes, _, h => .ok true h
def evTA (C : Cx) : CTs → Fr → Mem → RB
  | .cons e .nil, σ, h => evT C e σ h
  | .cons e es, σ, h => match evT C e σ h with
    | .ok true h1 => evTA C es σ h1
    | r => r
  | .nil, _, _ => .stuck
def evTO (C : Cx) : CTs → Fr → Mem → RB
  | .cons e .nil, σ, h => evT C e σ h
  | .cons e es, σ, h => match evT C e σ h with
    | .ok false h1 => evTO C es σ h1
    | r => r
  | .nil, _, _ => .stuck
def evL (C : Cx) : CEs → Fr → Mem → RL
  | .nil, _, h => .ok [] h
  | .cons e es, σ, h => match evE C e σ h with
    | .ok d h1 => match evL C es σ h1 with
      | .ok ds h2 => .ok (d :: ds) h2
      | r => r
    | .exc c x h1 => .exc c x h1
    | .stuck => .stuck
  | .star e es, σ, h => match evE C e σ h with
    | .ok d h1 => match seqD (shal h1 d) with
      | some xs => match evL C es σ h1 with
        | .ok ds h2 => .ok (xs ++ ds) h2
        | r => r
      | none => .stuck
    | .exc c x h1 => .exc c x h1
    | .stuck => .stuck
/-- a new list -/
def evF (C : Cx) : FE → Fr → Mem → R
  | .lst es, σ, h => match evL C es σ h with
    | .ok ds h1 => if ds.length ≤ LIM then .ok (.lst ds) h1 else .stuck
    | .exc c x h1 => .exc c x h1
    | .stuck => .stuck
  | .lc e t s c, σ, h => match evSrc C s σ h with
    | .ok ds h1 => match lcL (evE C e) (evT C c) t σ ds [] h1 with
      | .ok rs h2 => .ok (.lst rs) h2
      | _ => .stuck
    | .exc c x h1 => .exc c x h1
    | .stuck => .stuck
  | .sorted a, σ, h => match evE C a σ h with
    | .ok d h1 => match shal h1 d with
      | .lst xs => if canSort xs && decide (xs.length ≤ LIM) then .ok (.lst (sortD xs)) h1 else .stuck
      | _ => .stuck
    | r => r
  | .sortset a, σ, h => match evE C a σ h with
    | .ok d h1 => match shal h1 d with
      | .lst xs => if canSet xs then .ok (.lst (sortD (dedup [] xs))) h1 else .stuck
      | _ => .stuck
    | r => r
  | .sortdict e t s c, σ, h => match evSrc C s σ h with
    | .ok ds h1 => match lcL (evE C e) (evT C c) t σ ds [] h1 with
      | .ok rs h2 => if canSet rs then .ok (.lst (sortD (dedup [] rs))) h2 else .stuck
      | _ => .stuck
    | .exc c x h1 => .exc c x h1
    | .stuck => .stuck
  | .list_ a, σ, h => match evE C a σ h with
    | .ok d h1 => match seqD (shal h1 d) with
      | some xs => .ok (.lst xs) h1
      | none => .stuck
    | r => r
  | .rev a, σ, h => match evE C a σ h with
    | .ok d h1 => match shal h1 d with
      | .lst xs => .ok (.lst xs.reverse) h1
      | _ => .stuck
    | r => r
  | .rep a b, σ, h => match evE C a σ h with
    | .ok d h1 => match evE C b σ h1 with
      | .ok (.int k) h2 => match shal h2 d with
        | .lst xs => if 0 ≤ k ∧ k ≤ LIM ∧ xs.length * k.toNat ≤ LIM then .ok (.lst (List.replicate k.toNat xs).flatten) h2 else .stuck
        | _ => .stuck
      | .ok _ _ => .stuck
      | r => r
    | r => r
def evSrc (C : Cx) : Src → Fr → Mem → RL
  | .it e, σ, h => match evE C e σ h with
    | .ok d h1 => match itD d with
      | some xs => .ok xs h1
      | none => .stuck
    | .exc c x h1 => .exc c x h1
    | .stuck => .stuck
  | .rng es, σ, h => match evL C es σ h with
    | .ok ds h1 => match rngD ds with
      | some xs => .ok xs h1
      | none => .stuck
    | r => r
  | .enum e, σ, h => match evE C e σ h with
    | .ok d h1 => match seqD d with
      | some xs => .ok (enumD 0 xs) h1
      | none => .stuck
    | .exc c x h1 => .exc c x h1
    | .stuck => .stuck
  | .zip es, σ, h => match evL C es σ h with
    | .ok ds h1 => match zip2 ds with
      | some xs => .ok xs h1
      | none => .stuck
    | r => r
end

mutual
def evS (C : Cx) : CS → Fr → Mem → RS
  | .asg t e, σ, h => match evE C e σ h with
    | .ok d h1 => match asgT t d σ with
      | some σ' => .nx σ' h1
      | none => .stuck
    | .exc c x h1 => .exc c x σ h1
    | .stuck => .stuck
  | .par i j a b, σ, h => match evL C (.cons a (.cons b .nil)) σ h with
    | .ok [x, y] h1 => if i < σ.length ∧ j < σ.length then .nx ((σ.set i (some x)).set j (some y)) h1 else .stuck
    | .ok _ _ => .stuck
    | .exc c x h1 => .exc c x σ h1
    | .stuck => .stuck
  | .setix o i e, σ, h => match evE C e σ h with
    | .ok d h1 => match evE C o σ h1 with
      | .ok (.loc n) h2 => match evE C i σ h2 with
        | .ok (.int k) h3 => match h3[n]? with
          | some (.box (.lst xs)) => match ixN xs.length k with
            | some j => .nx σ (h3.set n (.box (.lst (xs.set j d))))
            | none => .stuck
          | _ => .stuck
        | .ok _ _ => .stuck
        | .exc c x h1 => .exc c x σ h1
        | .stuck => .stuck
      | .ok _ _ => .stuck
      | .exc c x h1 => .exc c x σ h1
      | .stuck => .stuck
    | .exc c x h1 => .exc c x σ h1
    | .stuck => .stuck
  | .aug i o e, σ, h => match σ[i]? with
    | some (some x) => match evE C e σ h with
      | .ok y h1 => match o, x, y with
        | .add, .int a, .int b => .nx (σ.set i (some (.int (a + b)))) h1
        | .sub, .int a, .int b => .nx (σ.set i (some (.int (a - b)))) h1
        | .add, .str a, .str b => if a.length + b.length ≤ LIM then .nx (σ.set i (some (.str (a ++ b)))) h1 else .stuck
        | _, _, _ => .stuck
      | .exc c x h1 => .exc c x σ h1
      | .stuck => .stuck
    | _ => .stuck
  | .expr e, σ, h => match evE C e σ h with
    | .ok _ h1 => .nx σ h1
    | .exc c x h1 => .exc c x σ h1
    | .stuck => .stuck
  | .ret e, σ, h => match evE C e σ h with
    | .ok d h1 => .rt d h1
    | .exc c x h1 => .exc c x σ h1
    | .stuck => .stuck
  | .retn, _, h => .rt .non h
  | .ite t a b, σ, h => match evT C t σ h with
    | .ok true h1 => evSs C a σ h1
    | .ok false h1 => evSs C b σ h1
    | .exc c x h1 => .exc c x σ h1
    | .stuck => .stuck
  | .for_ t s b, σ, h => match evSrc C s σ h with
    | .ok ds h1 => forL (evSs C b) t ds σ h1
    | .exc c x h1 => .exc c x σ h1
    | .stuck => .stuck
  | .while_ t b, σ, h => whileL (evT C t) (evSs C b) WF σ h
  | .raise c _, σ, h => .exc c .non σ h
  | .pass, σ, h => .nx σ h
  | .brk, σ, h => .bk σ h
  | .cont, σ, h => .ct σ h
  | .try_ b cs su, σ, h => match evSs C b σ h with
    | .exc c .non σ1 h1 => if cs.contains c then (match su with
      | .ret d => if d.pure then .rt d h1 else .stuck
      | .err f => match C.errT f c with
        | some d => .rt d h1
        | none => .stuck
      | .asg i d => if i < σ1.length ∧ d.pure then .nx (σ1.set i (some d)) h1 else .stuck) else if c < C.nx then .exc c .non σ1 h1 else .stuck
    | .exc _ _ _ _ => .stuck
    | r => r
def evSs (C : Cx) : CSs → Fr → Mem → RS
  | .nil, σ, h => .nx σ h
  | .cons s ss, σ, h => match evS C s σ h with
    | .nx σ1 h1 => evSs C ss σ1 h1
    | r => r
  | .fz i ss, σ, h => match σ[i]? with
    | some (some (.loc n)) => match h[n]? with
      | some (.box d) => evSs C ss (σ.set i (some d)) (h.set n .gone)
      | _ => .stuck
    | _ => .stuck
end

/-! ### calls -/
def Ob.beq : Ob → Ob → Bool
  | .box a, .box b => a.beq b
  | .gone, .gone => true
  | .ins c fs, .ins c' fs' => decide (c = c') && decide (fs.map (·.1) = fs'.map (·.1)) && D.beqs (fs.map (·.2)) (fs'.map (·.2))
  | _, _ => false
def Ob.okB (n : Nat) : Ob → Bool
  | .box a => a.okB n
  | .gone => true
  | .ins _ fs => D.okBs n (fs.map (·.2))
def sameOr (n : Nat) : Mem → Mem → Bool
  | [], [] => true
  | a :: as, b :: bs => (a.beq b || b.okB n) && sameOr n as bs
  | _, _ => false
/-- what is new in a call is dropped where nothing leads there any more -/
def gcOk (h h1 : Mem) (d : D) : Bool := d.okB h.length && sameOr h.length h (h1.take h.length)
structure Prog where
  defs : List Def
  glob : List D
  errT : Nat → Nat → Option D
  nx : Nat
def Prog.cx (P : Prog) (k : Nat) (call : Nat → List D → Mem → R) : Cx := ⟨call, fun i => P.glob[i]?, (match k with | 0 => fun _ _ => none | _ + 1 => P.errT), P.nx⟩
def fin (gc : Bool) (h h1 : Mem) (d : D) : R :=
  if gc then (if gcOk h h1 d then .ok d (h1.take h.length) else .stuck) else .ok d h1
def finX (gc : Bool) (h h1 : Mem) (c : Nat) (d : D) : R :=
  if gc then (if gcOk h h1 d then .exc c d (h1.take h.length) else .stuck) else .exc c d h1
def startF (ns : Nat) (args : List D) : Fr := args.map some ++ List.replicate (ns - args.length) none
def callF (P : Prog) : Nat → Nat → List D → Mem → R
  | 0, _, _, _ => .stuck
  | k + 1, f, args, h => match P.defs[f]? with
    | none => .stuck
    | some fd => if args.length = fd.np ∧ fd.np ≤ fd.ns then
        match evSs (P.cx k (callF P k)) fd.body (startF fd.ns args) h with
        | .nx _ h1 => fin fd.gc h h1 .non
        | .rt d h1 => fin fd.gc h h1 d
        | .exc c x _ h1 => finX fd.gc h h1 c x
        | _ => .stuck
      else .stuck
end Ev
end
section
set_option Elab.async false
set_option autoImplicit false
set_option linter.all false
/-! S0: how values, the heap of boxes and frames of the evaluator stand for the model's. -/
namespace So
open PySem PySem.Spec PyProof.Rows L2
open Ev (D Ob Mem Fr)

/-- what stays: the written part, the defs' addresses -/
structure Sx where
  K : PySem.W.Frag
  fa : Nat → Addr
  ca : Nat → Addr
/-- what is frozen; where the boxes stand -/
structure G where
  F : L2.Hp
  μ : List Addr

def tx (s : List Nat) : Str := ⟨s.toArray⟩
@[simp] theorem tx_list (s : List Nat) : (tx s).cps.toList = s := by simp [tx]
@[simp] theorem tx_len (s : List Nat) : (tx s).length = s.length := by simp [tx, Str.length]
theorem tx_inj {a b : List Nat} (h : tx a = tx b) : a = b := by
  have := congrArg (fun x : Str => x.cps.toList) h
  simpa using this
theorem tx_of (x : Str) : tx x.cps.toList = x := by cases x; simp [tx]

/-- signs of texts -/
def OkS (s : List Nat) : Prop := ∀ c ∈ s, c < 1114112
theorem OkS.ok {s : List Nat} (h : OkS s) : PyData.strOk (tx s) = true := by
  simp only [PyData.strOk, tx]
  simpa [Array.all_eq_true', OkS] using h
mutual
def toP : D → PyData
  | .non => .none
  | .bl b => .bool b
  | .int i => .int i
  | .str s => .str (tx s)
  | .tup xs => .tuple (toPs xs)
  | .lst xs => .list (toPs xs)
  | _ => .none
def toPs : List D → List PyData
  | [] => []
  | x :: xs => toP x :: toPs xs
end
mutual
def VD (S : Sx) (g : G) : D → V → Prop
  | .non, v => v = .non
  | .bl b, v => v = .bl b
  | .int i, v => v = .int i
  | .str s, v => v = .str (tx s) ∧ OkS s
  | .tup ds, v => ∃ a vs, v = .ref a ∧ SqT S.K g.F a vs ∧ VDs S g ds vs
  | .lst ds, v => ∃ a vs, v = .ref a ∧ g.F a = some (.lst vs) ∧ VDs S g ds vs
  | .scr ds, v => ∃ a vs, v = .ref a ∧ SqL S.K g.F a vs ∧ VDs S g ds vs
  | .loc n, v => ∃ a, v = .ref a ∧ g.μ[n]? = some a
  | .fn f, v => v = .ref (S.fa f)
  | .rep x, v => v = .str (toP x).shown
def VDs (S : Sx) (g : G) : List D → List V → Prop
  | [], vs => vs = []
  | d :: ds, vs => ∃ v vr, vs = v :: vr ∧ VD S g d v ∧ VDs S g ds vr
end

/-- a box's object -/
def OD (S : Sx) (g : G) (H : L2.Hp) (a : Addr) : Ob → Prop
  | .box (.lst ds) => ∃ vs, H a = some (.lst vs) ∧ VDs S g ds vs
  | .box _ => False
  | .ins _ _ => False
  | .gone => True
def live (h : Mem) (n : Nat) : Prop := ∃ o, h[n]? = some o ∧ o ≠ Ob.gone

structure Rel (S : Sx) (g : G) (h : Mem) (H : L2.Hp) : Prop where
  fz : ∀ a o, g.F a = some o → H a = some o
  len : g.μ.length = h.length
  ob : ∀ (n : Nat) a o, g.μ[n]? = some a → h[n]? = some o → OD S g H a o
  sep : ∀ (n : Nat) a, g.μ[n]? = some a → live h n → g.F a = none
  inj : ∀ (n m : Nat) a, g.μ[n]? = some a → g.μ[m]? = some a → live h n → live h m → n = m
def FrR (S : Sx) (g : G) (f : Fr) (σ : L2.St) : Prop :=
  f.length = σ.length ∧ ∀ (i : Nat) d, f[i]? = some (some d) → ∃ v, σ[i]? = some (some v) ∧ VD S g d v
structure Ext (g g' : G) : Prop where
  fz : ∀ a o, g.F a = some o → g'.F a = some o
  pre : ∃ r, g'.μ = g.μ ++ r

section
variable {S : Sx} {g g' g'' : G} {h h' : Mem} {H H' : L2.Hp} {a p : Addr} {d : D} {ds : List D} {v : V} {vs : List V} {n : Nat}

theorem Ext.refl : Ext g g := ⟨fun _ _ e => e, [], by simp⟩
theorem Ext.trans (x : Ext g g') (y : Ext g' g'') : Ext g g'' := by
  obtain ⟨r, e⟩ := x.pre
  obtain ⟨r', e'⟩ := y.pre
  exact ⟨fun a o q => y.fz a o (x.fz a o q), r ++ r', by rw [e', e, List.append_assoc]⟩
theorem Ext.at (x : Ext g g') (e : g.μ[n]? = some a) : g'.μ[n]? = some a := by
  obtain ⟨r, q⟩ := x.pre
  rw [q, List.getElem?_append_left (List.getElem?_eq_some_iff.mp e).1]
  exact e
theorem rd_mono {F F' : L2.Hp} {o : HO} (k : ∀ b u, F b = some u → F' b = some u) (h : Rd F a o) : Rd F' a o := by
  rcases h with h | ⟨u, h⟩
  · exact .inl (k _ _ h)
  · exact .inr ⟨u, k _ _ h⟩
theorem sqT_mono {K : PySem.W.Frag} {F F' : L2.Hp} (k : ∀ b u, F b = some u → F' b = some u) (h : SqT K F a vs) : SqT K F' a vs := by
  rcases h with h | h
  · exact .inl (rd_mono k h)
  · exact .inr h
theorem sqL_mono {K : PySem.W.Frag} {F F' : L2.Hp} (k : ∀ b u, F b = some u → F' b = some u) (h : SqL K F a vs) : SqL K F' a vs := by
  rcases h with h | h
  · exact .inl (rd_mono k h)
  · exact .inr h
mutual
theorem VD.mono (x : Ext g g') : ∀ (d : D) (v : V), VD S g d v → VD S g' d v
  | .non, _, h => h
  | .bl _, _, h => h
  | .int _, _, h => h
  | .str _, _, h => h
  | .tup ds, _, ⟨a, vs, e, q, r⟩ => ⟨a, vs, e, sqT_mono x.fz q, VDs.mono x ds vs r⟩
  | .lst ds, _, ⟨a, vs, e, q, r⟩ => ⟨a, vs, e, x.fz _ _ q, VDs.mono x ds vs r⟩
  | .scr ds, _, ⟨a, vs, e, q, r⟩ => ⟨a, vs, e, sqL_mono x.fz q, VDs.mono x ds vs r⟩
  | .loc n, _, ⟨a, e, q⟩ => ⟨a, e, x.at q⟩
  | .fn _, _, h => h
  | .rep _, _, h => h
theorem VDs.mono (x : Ext g g') : ∀ (ds : List D) (vs : List V), VDs S g ds vs → VDs S g' ds vs
  | [], _, h => h
  | d :: ds, _, ⟨v, vr, e, h1, h2⟩ => ⟨v, vr, e, VD.mono x d v h1, VDs.mono x ds vr h2⟩
end
theorem FrR.mono {f : Fr} {σ : L2.St} (x : Ext g g') (r : FrR S g f σ) : FrR S g' f σ :=
  ⟨r.1, fun i d e => let ⟨v, q, z⟩ := r.2 i d e; ⟨v, q, VD.mono x d v z⟩⟩
theorem VDs.length : ∀ {ds : List D} {vs : List V}, VDs S g ds vs → ds.length = vs.length
  | [], _, h => by cases h; rfl
  | d :: ds, _, ⟨v, vr, e, _, h⟩ => by subst e; simp [VDs.length h]
theorem VDs.get : ∀ {ds : List D} {vs : List V} {i : Nat} {d : D}, VDs S g ds vs → ds[i]? = some d → ∃ v, vs[i]? = some v ∧ VD S g d v
  | [], _, _, _, _, e => by simp at e
  | d :: ds, _, 0, _, ⟨v, vr, e, h, _⟩, q => by
    subst e
    simp at q
    subst q
    exact ⟨v, rfl, h⟩
  | d :: ds, _, i + 1, _, ⟨v, vr, e, _, h⟩, q => by
    subst e
    obtain ⟨w, e1, e2⟩ := VDs.get (i := i) h (by simpa using q)
    exact ⟨w, by simpa using e1, e2⟩
theorem VDs.append : ∀ {ds es : List D} {vs ws : List V}, VDs S g ds vs → VDs S g es ws → VDs S g (ds ++ es) (vs ++ ws)
  | [], _, _, _, h, k => by cases h; exact k
  | d :: ds, _, _, _, ⟨v, vr, e, h1, h2⟩, k => by
    subst e
    exact ⟨v, vr ++ _, rfl, h1, VDs.append h2 k⟩
theorem VDs.cons (h1 : VD S g d v) (h2 : VDs S g ds vs) : VDs S g (d :: ds) (v :: vs) := ⟨v, vs, rfl, h1, h2⟩
theorem VDs.one (h1 : VD S g d v) : VDs S g [d] [v] := ⟨v, [], rfl, h1, rfl⟩
theorem VDs.drop : ∀ {ds : List D} {vs : List V} (k : Nat), VDs S g ds vs → VDs S g (ds.drop k) (vs.drop k)
  | _, _, 0, h => by simpa using h
  | [], _, k + 1, h => by cases h; exact rfl
  | d :: ds, _, k + 1, ⟨v, vr, e, _, h⟩ => by
    subst e
    simpa using VDs.drop k h
theorem VDs.take : ∀ {ds : List D} {vs : List V} (k : Nat), VDs S g ds vs → VDs S g (ds.take k) (vs.take k)
  | _, _, 0, h => by simp; exact rfl
  | [], _, k + 1, h => by cases h; exact rfl
  | d :: ds, _, k + 1, ⟨v, vr, e, h1, h⟩ => by
    subst e
    simpa using VDs.cons h1 (VDs.take k h)
theorem VDs.reverse : ∀ {ds : List D} {vs : List V}, VDs S g ds vs → VDs S g ds.reverse vs.reverse
  | [], _, h => by cases h; exact rfl
  | d :: ds, _, ⟨v, vr, e, h1, h⟩ => by
    subst e
    simp only [List.reverse_cons]
    exact VDs.append (VDs.reverse h) (VDs.one h1)
theorem VDs.set (h1 : VD S g d v) : ∀ {ds : List D} {vs : List V} (k : Nat), VDs S g ds vs → VDs S g (ds.set k d) (vs.set k v)
  | [], _, _, h => by cases h; exact rfl
  | e :: ds, _, 0, ⟨w, vr, q, _, h⟩ => by
    subst q
    exact VDs.cons h1 h
  | e :: ds, _, k + 1, ⟨w, vr, q, h2, h⟩ => by
    subst q
    exact VDs.cons h2 (VDs.set h1 k h)
theorem VDs.erase : ∀ {ds : List D} {vs : List V} (k : Nat), VDs S g ds vs → VDs S g (ds.eraseIdx k) (vs.eraseIdx k)
  | [], _, _, h => by cases h; exact rfl
  | e :: ds, _, 0, ⟨w, vr, q, _, h⟩ => by
    subst q
    simpa using h
  | e :: ds, _, k + 1, ⟨w, vr, q, h2, h⟩ => by
    subst q
    simpa using VDs.cons h2 (VDs.erase k h)
theorem VDs.dropLast {ds : List D} {vs : List V} (h : VDs S g ds vs) : VDs S g ds.dropLast vs.dropLast := by
  rw [List.dropLast_eq_take, List.dropLast_eq_take, ← VDs.length h]
  exact VDs.take _ h
theorem VDs.rep (k : Nat) {ds : List D} {vs : List V} (h : VDs S g ds vs) : VDs S g (List.replicate k ds).flatten (List.replicate k vs).flatten := by
  induction k with
  | zero => exact rfl
  | succ k ih => simpa [List.replicate_succ] using VDs.append h ih
mutual
/-- places in what stands are places of the heap -/
theorem VD.okB : ∀ (d : D) (v : V), VD S g d v → d.okB g.μ.length = true
  | .non, _, _ => rfl
  | .bl _, _, _ => rfl
  | .int _, _, _ => rfl
  | .str _, _, _ => rfl
  | .tup ds, _, ⟨_, vs, _, _, r⟩ => by rw [D.okB]; exact VDs.okB ds vs r
  | .lst ds, _, ⟨_, vs, _, _, r⟩ => by rw [D.okB]; exact VDs.okB ds vs r
  | .scr ds, _, ⟨_, vs, _, _, r⟩ => by rw [D.okB]; exact VDs.okB ds vs r
  | .loc n, _, ⟨_, _, q⟩ => by
    rw [D.okB]
    exact decide_eq_true (List.getElem?_eq_some_iff.mp q).1
  | .fn _, _, _ => rfl
  | .rep _, _, _ => rfl
theorem VDs.okB : ∀ (ds : List D) (vs : List V), VDs S g ds vs → D.okBs g.μ.length ds = true
  | [], _, _ => rfl
  | d :: ds, _, ⟨v, vr, _, h1, h2⟩ => by rw [D.okBs, VD.okB d v h1, VDs.okB ds vr h2]; rfl
end
mutual
/-- a shorter row of places does for what stays below -/
theorem VD.cutμ {k : Nat} : ∀ (d : D) (v : V), d.okB k = true → VD S g d v → VD S ⟨g.F, g.μ.take k⟩ d v
  | .non, _, _, h => h
  | .bl _, _, _, h => h
  | .int _, _, _, h => h
  | .str _, _, _, h => h
  | .tup ds, _, o, ⟨a, vs, e, q, r⟩ => ⟨a, vs, e, q, VDs.cutμ ds vs (by rw [D.okB] at o; exact o) r⟩
  | .lst ds, _, o, ⟨a, vs, e, q, r⟩ => ⟨a, vs, e, q, VDs.cutμ ds vs (by rw [D.okB] at o; exact o) r⟩
  | .scr ds, _, o, ⟨a, vs, e, q, r⟩ => ⟨a, vs, e, q, VDs.cutμ ds vs (by rw [D.okB] at o; exact o) r⟩
  | .loc n, _, o, ⟨a, e, q⟩ => ⟨a, e, by
      rw [D.okB] at o
      rw [List.getElem?_take_of_lt (of_decide_eq_true o)]
      exact q⟩
  | .fn _, _, _, h => h
  | .rep _, _, _, h => h
theorem VDs.cutμ {k : Nat} : ∀ (ds : List D) (vs : List V), D.okBs k ds = true → VDs S g ds vs → VDs S ⟨g.F, g.μ.take k⟩ ds vs
  | [], _, _, h => h
  | d :: ds, _, o, ⟨v, vr, e, h1, h2⟩ => by
    rw [D.okBs, Bool.and_eq_true] at o
    exact ⟨v, vr, e, VD.cutμ d v o.1 h1, VDs.cutμ ds vr o.2 h2⟩
end

/-! ### steps of the heap -/
theorem Rel.free (r : Rel S g h H) (hp : H p = none) : g.F p = none := by
  cases q : g.F p with
  | none => rfl
  | some o => rw [r.fz p o q] at hp; cases hp
theorem OD.tracked {o : Ob} (x : OD S g H a o) (l : o ≠ .gone) : ∃ u, H a = some u := by
  cases o with
  | gone => exact absurd rfl l
  | ins c fs => exact False.elim x
  | box d =>
    cases d with
    | lst ds => obtain ⟨vs, e, _⟩ := x; exact ⟨_, e⟩
    | _ => exact False.elim x
theorem Rel.notBox (r : Rel S g h H) (hp : H p = none) (e : g.μ[n]? = some p) : ¬ live h n := by
  rintro ⟨o, q, l⟩
  obtain ⟨u, z⟩ := (r.ob n p o e q).tracked l
  rw [hp] at z; cases z
/-- a new object, tracked, of no concern -/
theorem Rel.new {o : HO} (r : Rel S g h H) (hp : H p = none) : Rel S g h (upd H p o) := by
  have ne : ∀ b u, H b = some u → b ≠ p := fun b u e z => by rw [z, hp] at e; cases e
  refine ⟨fun a u e => ?_, r.len, fun n a u e q => ?_, r.sep, r.inj⟩
  · rw [upd_ne (ne a u (r.fz a u e))]; exact r.fz a u e
  · have x := r.ob n a u e q
    cases u with
    | gone => exact trivial
    | ins c fs => exact False.elim x
    | box d =>
      cases d with
      | lst ds =>
        obtain ⟨vs, e1, e2⟩ := x
        exact ⟨vs, by rw [upd_ne (ne a _ e1)]; exact e1, e2⟩
      | _ => exact False.elim x
/-- what is tracked and no box is frozen -/
theorem Rel.freeze {o : HO} (r : Rel S g h H) (hp : H p = some o) (nb : ∀ n, g.μ[n]? = some p → ¬ live h n) : Rel S ⟨upd g.F p o, g.μ⟩ h H ∧ (g.F p = none → Ext g ⟨upd g.F p o, g.μ⟩) := by
  have ex : g.F p = none → Ext g ⟨upd g.F p o, g.μ⟩ := fun hn => ⟨fun a u e => by
    show upd g.F p o a = _
    rw [upd_ne (fun z => by rw [z, hn] at e; cases e)]; exact e, [], by simp⟩
  have ex' : ∀ a u, g.F a = some u → upd g.F p o a = some u := fun a u e => by
    by_cases q : a = p
    · subst q
      rw [upd_same]
      have := r.fz a u e
      rw [hp] at this
      exact this
    · rw [upd_ne q]; exact e
  have E : Ext g ⟨upd g.F p o, g.μ⟩ := ⟨ex', [], by simp⟩
  refine ⟨⟨fun a u e => ?_, r.len, fun n a u e q => ?_, fun n a e l => ?_, r.inj⟩, ex⟩
  · by_cases q : a = p
    · subst q
      have e' : upd g.F a o a = some u := e
      rw [upd_same] at e'
      rw [hp]; exact e'
    · have e' : upd g.F p o a = some u := e
      rw [upd_ne q] at e'
      exact r.fz a u e'
  · have x := r.ob n a u e q
    cases u with
    | gone => exact trivial
    | ins c fs => exact False.elim x
    | box d =>
      cases d with
      | lst ds =>
        obtain ⟨vs, e1, e2⟩ := x
        exact ⟨vs, e1, VDs.mono E ds vs e2⟩
      | _ => exact False.elim x
  · show upd g.F p o a = none
    rw [upd_ne (fun z => nb n (by rw [← z]; exact e) l)]
    exact r.sep n a e l
/-- what is tracked, frozen nowhere and no box becomes a box -/
theorem Rel.box (r : Rel S g h H) (hp : H p = some (.lst vs)) (hf : g.F p = none) (nb : ∀ n, g.μ[n]? = some p → ¬ live h n) (x : VDs S g ds vs) :
    Rel S ⟨g.F, g.μ ++ [p]⟩ (h ++ [.box (.lst ds)]) H ∧ Ext g ⟨g.F, g.μ ++ [p]⟩ := by
  have E : Ext g ⟨g.F, g.μ ++ [p]⟩ := ⟨fun _ _ e => e, [p], rfl⟩
  have lv : ∀ n, n < h.length → live (h ++ [Ob.box (.lst ds)]) n → live h n := fun n l ⟨o, e, k⟩ => ⟨o, by rw [List.getElem?_append_left l] at e; exact e, k⟩
  have cs : ∀ (n : Nat) a, (g.μ ++ [p])[n]? = some a → (n < h.length ∧ g.μ[n]? = some a) ∨ (n = h.length ∧ a = p) := fun n a e => by
    by_cases l : n < h.length
    · rw [List.getElem?_append_left (by rw [r.len]; exact l)] at e
      exact .inl ⟨l, e⟩
    · rw [List.getElem?_append_right (by rw [r.len]; omega), r.len] at e
      have : n - h.length = 0 := by
        have := (List.getElem?_eq_some_iff.mp e).1
        simp at this; omega
      rw [this] at e
      simp at e
      exact .inr ⟨by omega, e.symm⟩
  refine ⟨⟨r.fz, by simp [r.len], fun n a u e q => ?_, fun n a e l => ?_, fun n m a e1 e2 l1 l2 => ?_⟩, E⟩
  · rcases cs n a e with ⟨l, e'⟩ | ⟨l, e'⟩
    · rw [List.getElem?_append_left l] at q
      have x := r.ob n a u e' q
      cases u with
      | gone => exact trivial
      | ins c fs => exact False.elim x
      | box d =>
        cases d with
        | lst ds =>
          obtain ⟨vs, e1, e2⟩ := x
          exact ⟨vs, e1, VDs.mono E ds vs e2⟩
        | _ => exact False.elim x
    · subst l; subst e'
      rw [List.getElem?_append_right (Nat.le_refl _)] at q
      simp at q
      subst q
      exact ⟨vs, hp, VDs.mono E ds vs x⟩
  · rcases cs n a e with ⟨k, e'⟩ | ⟨k, e'⟩
    · exact r.sep n a e' (lv n k l)
    · subst e'; exact hf
  · rcases cs n a e1 with ⟨k1, f1⟩ | ⟨k1, f1⟩ <;> rcases cs m a e2 with ⟨k2, f2⟩ | ⟨k2, f2⟩
    · exact r.inj n m a f1 f2 (lv n k1 l1) (lv m k2 l2)
    · subst f2; exact absurd (lv n k1 l1) (nb n f1)
    · subst f1; exact absurd (lv m k2 l2) (nb m f2)
    · omega
/-- a box is written -/
theorem Rel.write (r : Rel S g h H) (e : g.μ[n]? = some a) (l : live h n) (x : VDs S g ds vs) : Rel S g (h.set n (.box (.lst ds))) (upd H a (.lst vs)) := by
  have hn : n < h.length := by rw [← r.len]; exact (List.getElem?_eq_some_iff.mp e).1
  have lv : ∀ m, live (h.set n (Ob.box (.lst ds))) m → live h m := fun m ⟨o, q, k⟩ => by
    by_cases z : n = m
    · subst z; exact l
    · rw [List.getElem?_set_ne z] at q; exact ⟨o, q, k⟩
  refine ⟨fun b u q => ?_, by simp [r.len], fun m b u q1 q2 => ?_, fun m b q1 q2 => r.sep m b q1 (lv m q2), fun m m' b q1 q2 l1 l2 => r.inj m m' b q1 q2 (lv m l1) (lv m' l2)⟩
  · rw [upd_ne (fun z => by rw [z, r.sep n a e l] at q; cases q)]
    exact r.fz b u q
  · by_cases z : n = m
    · subst z
      rw [e] at q1; cases q1
      rw [List.getElem?_set_self hn] at q2; cases q2
      exact ⟨vs, upd_same, x⟩
    · rw [List.getElem?_set_ne z] at q2
      have y := r.ob m b u q1 q2
      cases u with
      | gone => exact trivial
      | ins c fs => exact False.elim y
      | box d =>
        cases d with
        | lst es =>
          obtain ⟨ws, e1, e2⟩ := y
          refine ⟨ws, ?_, e2⟩
          have : b ≠ a := fun w => by
            subst w
            exact z (r.inj n m b e q1 l ⟨_, q2, by intro k; cases k⟩)
          rw [upd_ne this]; exact e1
        | _ => exact False.elim y
/-- a box is frozen -/
theorem Rel.gone (r : Rel S g h H) (e : h[n]? = some (.box (.lst ds))) : ∃ a vs, g.μ[n]? = some a ∧ H a = some (.lst vs) ∧ VDs S g ds vs ∧
    Rel S ⟨upd g.F a (.lst vs), g.μ⟩ (h.set n .gone) H ∧ Ext g ⟨upd g.F a (.lst vs), g.μ⟩ ∧ VD S ⟨upd g.F a (.lst vs), g.μ⟩ (.lst ds) (.ref a) := by
  have hn : n < h.length := (List.getElem?_eq_some_iff.mp e).1
  obtain ⟨a, ea⟩ : ∃ a, g.μ[n]? = some a := ⟨g.μ[n]'(by rw [r.len]; exact hn), by rw [List.getElem?_eq_getElem]⟩
  obtain ⟨vs, e1, e2⟩ := r.ob n a _ ea e
  have lvn : live h n := ⟨_, e, by intro k; cases k⟩
  have lv : ∀ m, live (h.set n Ob.gone) m → live h m ∧ m ≠ n := fun m ⟨o, q, k⟩ => by
    by_cases z : n = m
    · subst z
      rw [List.getElem?_set_self hn] at q; cases q
      exact absurd rfl k
    · rw [List.getElem?_set_ne z] at q; exact ⟨⟨o, q, k⟩, fun w => z w.symm⟩
  have r1 : Rel S g (h.set n .gone) H := ⟨r.fz, by simp [r.len], fun m b u q1 q2 => by
    by_cases z : n = m
    · subst z
      rw [List.getElem?_set_self hn] at q2; cases q2
      exact trivial
    · rw [List.getElem?_set_ne z] at q2; exact r.ob m b u q1 q2, fun m b q1 q2 => r.sep m b q1 (lv m q2).1, fun m m' b q1 q2 l1 l2 => r.inj m m' b q1 q2 (lv m l1).1 (lv m' l2).1⟩
  obtain ⟨r2, E⟩ := r1.freeze e1 (fun m q l => by
    obtain ⟨l1, l2⟩ := lv m l
    exact l2 (r.inj m n a q ea l1 lvn))
  have E := E (r.sep n a ea lvn)
  refine ⟨a, vs, ea, e1, e2, r2, E, a, vs, rfl, ?_, VDs.mono E ds vs e2⟩
  exact upd_same
mutual
theorem beq_eq : ∀ (a b : D), D.beq a b = true → a = b
  | .non, b, h => by cases b <;> simp [D.beq] at h ⊢
  | .bl x, b, h => by cases b <;> simp [D.beq] at h ⊢; exact h
  | .int x, b, h => by cases b <;> simp [D.beq] at h ⊢; exact h
  | .str x, b, h => by cases b <;> simp [D.beq] at h ⊢; exact h
  | .tup x, b, h => by
    cases b <;> simp [D.beq] at h ⊢
    exact beqs_eq _ _ h
  | .lst x, b, h => by
    cases b <;> simp [D.beq] at h ⊢
    exact beqs_eq _ _ h
  | .loc x, b, h => by cases b <;> simp [D.beq] at h ⊢; exact h
  | .fn x, b, h => by cases b <;> simp [D.beq] at h ⊢; exact h
  | .scr x, b, h => by
    cases b <;> simp [D.beq] at h ⊢
    exact beqs_eq _ _ h
  | .rep x, b, h => by
    cases b <;> simp [D.beq] at h ⊢
    exact beq_eq _ _ h
theorem beqs_eq : ∀ (a b : List D), D.beqs a b = true → a = b
  | [], b, h => by cases b <;> simp [D.beqs] at h ⊢
  | x :: xs, b, h => by
    cases b with
    | nil => simp [D.beqs] at h
    | cons y ys =>
      simp [D.beqs] at h
      rw [beq_eq x y h.1, beqs_eq xs ys h.2]
end
theorem obeq_eq (a b : Ob) (hb : b ≠ .gone → ∃ d, b = .box d) (h : Ob.beq a b = true) : a = b := by
  cases a <;> cases b <;> simp [Ob.beq] at h ⊢
  · exact beq_eq _ _ h
  · obtain ⟨d, e⟩ := hb (by intro k; cases k)
    cases e
/-- what is new is let go -/
theorem Rel.back {g0 : G} {h0 : Mem} {H0 : L2.Hp} (r0 : Rel S g0 h0 H0) (r : Rel S g h H) (E : Ext g0 g) (hg : Ev.gcOk h0 h d = true) (x : VD S g d v) :
    Rel S ⟨g.F, g0.μ⟩ (h.take h0.length) H ∧ Ext g0 ⟨g.F, g0.μ⟩ ∧ VD S ⟨g.F, g0.μ⟩ d v := by
  obtain ⟨t, et⟩ := E.pre
  have tk : g.μ.take h0.length = g0.μ := by rw [et, ← r0.len, List.take_left]
  unfold Ev.gcOk at hg
  rw [Bool.and_eq_true] at hg
  obtain ⟨hd, hs⟩ := hg
  have le : h0.length ≤ h.length := by
    have := r.len
    rw [et, List.length_append, r0.len] at this
    omega
  have all : ∀ (k : Nat) (as bs : Mem), Ev.sameOr k as bs = true → as.length = bs.length ∧ ∀ (i : Nat) o, bs[i]? = some o → (∃ o', as[i]? = some o' ∧ Ob.beq o' o = true) ∨ o.okB k = true := by
    intro k as
    induction as with
    | nil =>
      intro bs q
      cases bs with
      | nil => exact ⟨rfl, fun i o e => by simp at e⟩
      | cons b bs => simp [Ev.sameOr] at q
    | cons a as ih =>
      intro bs q
      cases bs with
      | nil => simp [Ev.sameOr] at q
      | cons b bs =>
        rw [Ev.sameOr, Bool.and_eq_true, Bool.or_eq_true] at q
        obtain ⟨l, z⟩ := ih bs q.2
        refine ⟨by simp [l], fun i o e => ?_⟩
        cases i with
        | zero =>
          simp at e
          subst e
          rcases q.1 with q | q
          · exact .inl ⟨a, rfl, q⟩
          · exact .inr q
        | succ i => simpa using z i o (by simpa using e)
  obtain ⟨_, hz⟩ := all _ _ _ hs
  have E' : Ext g0 ⟨g.F, g0.μ⟩ := ⟨E.fz, [], by simp⟩
  have lt : ∀ (n : Nat) o, (h.take h0.length)[n]? = some o → h[n]? = some o := fun n o e => by
    rw [List.getElem?_take] at e
    split at e
    · exact e
    · cases e
  have at' : ∀ (n : Nat) a, g0.μ[n]? = some a → g.μ[n]? = some a := fun n a e => E.at e
  have lv : ∀ n, live (h.take h0.length) n → live h n := fun n ⟨o, e, k⟩ => ⟨o, lt n o e, k⟩
  refine ⟨⟨r.fz, by rw [List.length_take, r0.len]; omega, fun n a o e q => ?_, fun n a e l => r.sep n a (at' n a e) (lv n l), fun n m a e1 e2 l1 l2 => r.inj n m a (at' n a e1) (at' m a e2) (lv n l1) (lv m l2)⟩, E', ?_⟩
  · have x := r.ob n a o (at' n a e) (lt n o q)
    cases o with
    | gone => exact trivial
    | ins c fs => exact False.elim x
    | box b =>
      cases b with
      | lst ds =>
        obtain ⟨vs, e1, e2⟩ := x
        refine ⟨vs, e1, ?_⟩
        have ok : D.okBs h0.length ds = true := by
          rcases hz n _ q with ⟨o', z1, z2⟩ | z
          · have z3 := obeq_eq o' _ (fun _ => ⟨_, rfl⟩) z2
            subst z3
            obtain ⟨ws, _, z4⟩ := r0.ob n a _ e z1
            have := VDs.okB ds ws z4
            rw [r0.len] at this
            exact this
          · simpa [Ob.okB, D.okB] using z
        have := VDs.cutμ (k := h0.length) ds vs ok e2
        rw [tk] at this
        exact this
      | _ => exact False.elim x
  · have := VD.cutμ (k := h0.length) d v hd x
    rw [tk] at this
    exact this
end
end So
end
section
set_option Elab.async false
set_option autoImplicit false
set_option linter.all false
/-! S1: steps of the whole, outcomes, readings. -/
namespace So
open PySem PySem.Spec PyProof.Rows L2
open Ev (D Ob Mem Fr R RS RL RB)

/-- from one state of all to a later one: what is frozen stays, boxes that are let go stay so, new boxes are new, all else that stood stands -/
structure Step (g : G) (h : Mem) (H : L2.Hp) (g' : G) (h' : Mem) (H' : L2.Hp) : Prop where
  ext : Ext g g'
  dead : ∀ n, n < h.length → live h' n → live h n
  fresh : ∀ (n : Nat) a, h.length ≤ n → g'.μ[n]? = some a → H a = none
  keep : ∀ b o, H b = some o → (∀ n, g.μ[n]? = some b → ¬ live h n) → H' b = some o
  there : ∀ b o, H b = some o → ∃ o', H' b = some o'
  frz : ∀ b o, H b = some o → (∀ n, g.μ[n]? = some b → ¬ live h n) → g.F b = none → g'.F b = none

section
variable {S : Sx} {g g' g'' : G} {h h' h'' : Mem} {H H' H'' : L2.Hp} {a p : Addr} {d : D} {ds : List D} {v : V} {vs : List V} {n : Nat}
theorem len_le (r : Rel S g h H) (r' : Rel S g' h' H') (e : Ext g g') : h.length ≤ h'.length := by
  obtain ⟨t, q⟩ := e.pre
  have := r'.len
  rw [q, List.length_append, r.len] at this
  omega
theorem Step.refl (r : Rel S g h H) : Step g h H g h H := ⟨Ext.refl, fun _ _ l => l, fun n a l e => by
  have := (List.getElem?_eq_some_iff.mp e).1
  rw [r.len] at this; omega, fun _ _ e _ => e, fun _ o e => ⟨o, e⟩, fun _ _ _ _ e => e⟩
/-- what was no box is none later -/
theorem Step.notBox (r : Rel S g h H) (x : Step g h H g' h' H') {b : Addr} {o : HO} (e : H b = some o) (nb : ∀ n, g.μ[n]? = some b → ¬ live h n) : ∀ n, g'.μ[n]? = some b → ¬ live h' n := fun n q l => by
  by_cases z : n < h.length
  · obtain ⟨t, w⟩ := x.ext.pre
    rw [w, List.getElem?_append_left (by rw [r.len]; exact z)] at q
    exact nb n q (x.dead n z l)
  · have := x.fresh n b (by omega) q
    rw [this] at e; cases e
theorem Step.trans (r : Rel S g h H) (r' : Rel S g' h' H') (x : Step g h H g' h' H') (y : Step g' h' H' g'' h'' H'') : Step g h H g'' h'' H'' := by
  have le := len_le r r' x.ext
  have tr : ∀ b o, H b = some o → (∀ n, g.μ[n]? = some b → ¬ live h n) → ∀ n, g'.μ[n]? = some b → ¬ live h' n := fun b o e nb n q l => by
    by_cases z : n < h.length
    · obtain ⟨t, w⟩ := x.ext.pre
      rw [w, List.getElem?_append_left (by rw [r.len]; exact z)] at q
      exact nb n q (x.dead n z l)
    · have := x.fresh n b (by omega) q
      rw [this] at e; cases e
  refine ⟨x.ext.trans y.ext, fun n l q => x.dead n l (y.dead n (by omega) q), fun n a l e => ?_, fun b o e nb => y.keep b o (x.keep b o e nb) (tr b o e nb), fun b o e => ?_, fun b o e nb f => y.frz b o (x.keep b o e nb) (tr b o e nb) (x.frz b o e nb f)⟩
  · by_cases z : n < h'.length
    · obtain ⟨t, w⟩ := y.ext.pre
      rw [w, List.getElem?_append_left (by rw [r'.len]; exact z)] at e
      exact x.fresh n a l e
    · have q := y.fresh n a (by omega) e
      cases c : H a with
      | none => rfl
      | some o =>
        obtain ⟨o', k⟩ := x.there a o c
        rw [q] at k; cases k
  · obtain ⟨o', k⟩ := x.there b o e
    exact y.there b o' k

/-- a new object is laid, of no concern -/
theorem Step.new {o : HO} (r : Rel S g h H) (hp : H p = none) : Step g h H g h (upd H p o) := by
  have ne : ∀ b u, H b = some u → b ≠ p := fun b u e z => by rw [z, hp] at e; cases e
  refine ⟨Ext.refl, fun _ _ l => l, (Step.refl r).fresh, fun b u e _ => ?_, fun b u e => ⟨u, ?_⟩, fun _ _ _ _ e => e⟩
  · rw [upd_ne (ne b u e)]; exact e
  · rw [upd_ne (ne b u e)]; exact e
/-- .. and frozen -/
theorem new_fr {o : HO} (r : Rel S g h H) (hp : H p = none) : Rel S ⟨upd g.F p o, g.μ⟩ h (upd H p o) ∧ Step g h H ⟨upd g.F p o, g.μ⟩ h (upd H p o) := by
  have st := Step.new (o := o) r hp
  obtain ⟨r2, E⟩ := (r.new (o := o) hp).freeze (p := p) (o := o) upd_same fun n e => r.notBox hp e
  exact ⟨r2, E (r.free hp), st.dead, fun n a l e => st.fresh n a l e, st.keep, st.there, fun b u e _ f => by
    show upd g.F p o b = none
    rw [upd_ne (fun z => by rw [z, hp] at e; cases e)]
    exact f⟩
/-- a new tuple -/
theorem new_tup (r : Rel S g h H) (hp : H p = none) (x : VDs S g ds vs) : ∃ g', Rel S g' h (upd H p (.tup vs)) ∧ Step g h H g' h (upd H p (.tup vs)) ∧ VD S g' (.tup ds) (.ref p) := by
  obtain ⟨r2, st⟩ := new_fr (o := .tup vs) r hp
  exact ⟨_, r2, st, p, vs, rfl, .inl (.inl upd_same), VDs.mono st.ext ds vs x⟩
/-- a new list, frozen -/
theorem new_lst (r : Rel S g h H) (hp : H p = none) (x : VDs S g ds vs) : ∃ g', Rel S g' h (upd H p (.lst vs)) ∧ Step g h H g' h (upd H p (.lst vs)) ∧ VD S g' (.lst ds) (.ref p) := by
  obtain ⟨r2, st⟩ := new_fr (o := .lst vs) r hp
  exact ⟨_, r2, st, p, vs, rfl, upd_same, VDs.mono st.ext ds vs x⟩
/-- a box is written -/
theorem Step.write (r : Rel S g h H) (e : g.μ[n]? = some a) (l : live h n) : Step g h H g (h.set n (.box (.lst ds))) (upd H a (.lst vs)) := by
  have hn : n < h.length := by rw [← r.len]; exact (List.getElem?_eq_some_iff.mp e).1
  refine ⟨Ext.refl, fun m hm ⟨o, q, k⟩ => ?_, (Step.refl r).fresh, fun b u q nb => ?_, fun b u q => ?_, fun _ _ _ _ e => e⟩
  · by_cases z : n = m
    · subst z; exact l
    · rw [List.getElem?_set_ne z] at q; exact ⟨o, q, k⟩
  · rw [upd_ne (fun z => nb n (by rw [z]; exact e) l)]; exact q
  · by_cases z : b = a
    · subst z; exact ⟨_, upd_same⟩
    · exact ⟨u, by rw [upd_ne z]; exact q⟩
/-- a frozen box -/
theorem Step.gone {o : HO} (r : Rel S g h H) (E : Ext g g') (m : g' = ⟨upd g.F a o, g.μ⟩) (ea : g.μ[n]? = some a) (lv : live h n) : Step g h H g' (h.set n .gone) H := by
  subst m
  refine ⟨E, fun k hk ⟨o, q, z⟩ => ?_, fun k a l e => (Step.refl r).fresh k a l e, fun _ _ e _ => e, fun b o e => ⟨o, e⟩, fun b u e nb f => by
    show upd g.F a o b = none
    rw [upd_ne (fun z => nb n (by rw [z]; exact ea) lv)]
    exact f⟩
  by_cases w : n = k
  · subst w
    rw [List.getElem?_set_self hk] at q; cases q
    exact absurd rfl z
  · rw [List.getElem?_set_ne w] at q; exact ⟨o, q, z⟩
/-- a new list becomes a box -/
theorem new_box (r : Rel S g h H) (hp : H p = some (.lst vs)) (hf : g.F p = none) (nb : ∀ n, g.μ[n]? = some p → ¬ live h n) (x : VDs S g ds vs) {g0 : G} {h0 : Mem} {H0 : L2.Hp} (r0 : Rel S g0 h0 H0) (st : Step g0 h0 H0 g h H) (h0p : H0 p = none) :
    ∃ g', Rel S g' (h ++ [.box (.lst ds)]) H ∧ Step g0 h0 H0 g' (h ++ [.box (.lst ds)]) H ∧ VD S g' (.loc h.length) (.ref p) := by
  obtain ⟨r2, E⟩ := r.box hp hf nb x
  refine ⟨_, r2, ⟨st.ext.trans E, fun n l ⟨o, q, k⟩ => st.dead n l ?_, fun n a l e => ?_, st.keep, st.there, st.frz⟩, p, rfl, ?_⟩
  · have le := len_le r0 r st.ext
    rw [List.getElem?_append_left (by omega)] at q
    exact ⟨o, q, k⟩
  · have e : (g.μ ++ [p])[n]? = some a := e
    by_cases z : n < g.μ.length
    · rw [List.getElem?_append_left z] at e
      exact st.fresh n a l e
    · rw [List.getElem?_append_right (by omega)] at e
      have hz : n - g.μ.length = 0 := by
        have := (List.getElem?_eq_some_iff.mp e).1
        simp at this; omega
      rw [hz] at e
      simp at e
      subst e
      exact h0p
  · show (g.μ ++ [p])[h.length]? = some p
    rw [← r.len]; simp

/-! ### outcomes -/
/-- where an error goes: its class, the frame -/
def OkW (S : Sx) (W : WX) (σ : L2.St) (g : G) (h : Mem) (H : L2.Hp) (c : Nat) (x : D) (h' : Mem) : Prop :=
  x = .non ∧ ∀ g' H', Step g h H g' h' H' → Rel S g' h' H' → W (.ref (S.ca c)) none σ H'
def OutE (S : Sx) (W : WX) (σ : L2.St) (g : G) (h : Mem) (H : L2.Hp) (Q : VK) : R → Prop
  | .ok d h' => ∀ v g' H', Step g h H g' h' H' → Rel S g' h' H' → VD S g' d v → Q v H'
  | .exc c x h' => OkW S W σ g h H c x h'
  | .stuck => False
def OutL (S : Sx) (W : WX) (σ : L2.St) (g : G) (h : Mem) (H : L2.Hp) (Q : List V → L2.Hp → Prop) : RL → Prop
  | .ok ds h' => ∀ vs g' H', Step g h H g' h' H' → Rel S g' h' H' → VDs S g' ds vs → Q vs H'
  | .exc c x h' => OkW S W σ g h H c x h'
  | .stuck => False
def OutB (S : Sx) (W : WX) (σ : L2.St) (g : G) (h : Mem) (H : L2.Hp) (Q : Bool → L2.Hp → Prop) : RB → Prop
  | .ok b h' => ∀ g' H', Step g h H g' h' H' → Rel S g' h' H' → Q b H'
  | .exc c x h' => OkW S W σ g h H c x h'
  | .stuck => False
/-- a new list, of no one else -/
def OutF (S : Sx) (W : WX) (σ : L2.St) (g : G) (h : Mem) (H : L2.Hp) (Q : VK) : R → Prop
  | .ok d h' => ∃ ds, d = .lst ds ∧ ∀ p vs g' H', H p = none → Step g h H g' h' H' → Rel S g' h' H' → H' p = some (.lst vs) → g'.F p = none → (∀ n, g'.μ[n]? = some p → ¬ live h' n) → VDs S g' ds vs → Q (.ref p) H'
  | .exc c x h' => OkW S W σ g h H c x h'
  | .stuck => False
variable {W : WX} {σ : L2.St}
theorem OkW.shift {c : Nat} {x : D} (r : Rel S g h H) (r' : Rel S g' h' H') (st : Step g h H g' h' H') (o : OkW S W σ g h H c x h'') : OkW S W σ g' h' H' c x h'' :=
  ⟨o.1, fun g2 H2 s2 r2 => o.2 g2 H2 (st.trans r r' s2) r2⟩
theorem OutE.shift {Q : VK} (r : Rel S g h H) (r' : Rel S g' h' H') (st : Step g h H g' h' H') : ∀ {x : R}, OutE S W σ g h H Q x → OutE S W σ g' h' H' Q x
  | .ok d h2, o => fun v g2 H2 s2 r2 z => o v g2 H2 (st.trans r r' s2) r2 z
  | .exc c x h2, o => OkW.shift r r' st o
  | .stuck, o => o
theorem OutL.shift {Q : List V → L2.Hp → Prop} (r : Rel S g h H) (r' : Rel S g' h' H') (st : Step g h H g' h' H') : ∀ {x : RL}, OutL S W σ g h H Q x → OutL S W σ g' h' H' Q x
  | .ok d h2, o => fun v g2 H2 s2 r2 z => o v g2 H2 (st.trans r r' s2) r2 z
  | .exc c x h2, o => OkW.shift r r' st o
  | .stuck, o => o
theorem OutB.shift {Q : Bool → L2.Hp → Prop} (r : Rel S g h H) (r' : Rel S g' h' H') (st : Step g h H g' h' H') : ∀ {x : RB}, OutB S W σ g h H Q x → OutB S W σ g' h' H' Q x
  | .ok d h2, o => fun g2 H2 s2 r2 => o g2 H2 (st.trans r r' s2) r2
  | .exc c x h2, o => OkW.shift r r' st o
  | .stuck, o => o
end

/-! ### readings -/
section
variable (S : Sx) (W : WX)
def tE (ev : Fr → Mem → R) : TE := fun σ H Q => ∃ g f h, Rel S g h H ∧ FrR S g f σ ∧ OutE S W σ g h H Q (ev f h)
def tF (ev : Fr → Mem → R) : TE := fun σ H Q => ∃ g f h, Rel S g h H ∧ FrR S g f σ ∧ OutF S W σ g h H Q (ev f h)
def tL (ev : Fr → Mem → RL) : TA := fun σ H Q => ∃ g f h, Rel S g h H ∧ FrR S g f σ ∧ OutL S W σ g h H Q (ev f h)
def tB (ev : Fr → Mem → RB) : TT := fun σ H Q => ∃ g f h, Rel S g h H ∧ FrR S g f σ ∧ OutB S W σ g h H Q (ev f h)
end
section
variable {X : Cx} {e : Expr}
theorem PE.imp {t t' : TE} (p : PE X e t) (k : ∀ σ H Q, t' σ H Q → t σ H Q) : PE X e t' := ⟨fun pins s σ H Q I h => p.run pins s σ H Q I (k σ H Q h)⟩
theorem PT.imp {t t' : TT} (p : PT X e t) (k : ∀ σ H Q, t' σ H Q → t σ H Q) : PT X e t' := ⟨fun pins s σ H Q I h => p.run pins s σ H Q I (k σ H Q h)⟩
theorem PW.imp {t t' : TT} (p : PW X e t) (k : ∀ σ H Q, t' σ H Q → t σ H Q) : PW X e t' := ⟨fun w pins s σ H Q I h => p.run w pins s σ H Q I (k σ H Q h)⟩
theorem PA.imp {es : List Expr} {t t' : TA} (p : PA X es t) (k : ∀ σ H Q, t' σ H Q → t σ H Q) : PA X es t' := ⟨fun pos pins s σ H Q I h => p.run pos pins s σ H Q I (k σ H Q h)⟩
theorem PS.imp {st : Stmt} {t t' : TS} (p : PS X st t) (k : ∀ D σ H, t' D σ H → t D σ H) : PS X st t' := ⟨fun pins s σ H D I h => p.run pins s σ H D I (k D σ H h)⟩
theorem PSs.imp {st : List Stmt} {t t' : TS} (p : PSs X st t) (k : ∀ D σ H, t' D σ H → t D σ H) : PSs X st t' := ⟨fun pins s σ H D I h => p.run pins s σ H D I (k D σ H h)⟩
theorem PI.imp {tg e : Expr} {t t' : TI} (p : PI X tg e t) (k : ∀ σ H R, t' σ H R → t σ H R) : PI X tg e t' := ⟨fun pins s σ H R I h => p.run pins s σ H R I (k σ H R h)⟩
end
section
variable {S : Sx} {W : WX} {g : G} {f : Fr} {h : Mem} {H : L2.Hp} {σ : L2.St}
/-- an expression first, then what comes -/
theorem tE_bind {ev : Fr → Mem → R} {Q : VK} (r : Rel S g h H) (fr : FrR S g f σ)
    (ho : match ev f h with
      | .ok d h1 => ∀ v g1 H1, Step g h H g1 h1 H1 → Rel S g1 h1 H1 → VD S g1 d v → FrR S g1 f σ → Q v H1
      | .exc c x h1 => OkW S W σ g h H c x h1
      | .stuck => False) : tE S W ev σ H Q := by
  refine ⟨g, f, h, r, fr, ?_⟩
  cases q : ev f h with
  | ok d h1 =>
    rw [q] at ho
    exact fun v g1 H1 st r1 z => ho v g1 H1 st r1 z (fr.mono st.ext)
  | exc c x h1 => rw [q] at ho; exact ho
  | stuck => rw [q] at ho; exact ho
theorem tL_bind {ev : Fr → Mem → RL} {Q : List V → L2.Hp → Prop} (r : Rel S g h H) (fr : FrR S g f σ)
    (ho : match ev f h with
      | .ok d h1 => ∀ v g1 H1, Step g h H g1 h1 H1 → Rel S g1 h1 H1 → VDs S g1 d v → FrR S g1 f σ → Q v H1
      | .exc c x h1 => OkW S W σ g h H c x h1
      | .stuck => False) : tL S W ev σ H Q := by
  refine ⟨g, f, h, r, fr, ?_⟩
  cases q : ev f h with
  | ok d h1 =>
    rw [q] at ho
    exact fun v g1 H1 st r1 z => ho v g1 H1 st r1 z (fr.mono st.ext)
  | exc c x h1 => rw [q] at ho; exact ho
  | stuck => rw [q] at ho; exact ho
theorem tB_bind {ev : Fr → Mem → RB} {Q : Bool → L2.Hp → Prop} (r : Rel S g h H) (fr : FrR S g f σ)
    (ho : match ev f h with
      | .ok d h1 => ∀ g1 H1, Step g h H g1 h1 H1 → Rel S g1 h1 H1 → FrR S g1 f σ → Q d H1
      | .exc c x h1 => OkW S W σ g h H c x h1
      | .stuck => False) : tB S W ev σ H Q := by
  refine ⟨g, f, h, r, fr, ?_⟩
  cases q : ev f h with
  | ok d h1 =>
    rw [q] at ho
    exact fun g1 H1 st r1 => ho g1 H1 st r1 (fr.mono st.ext)
  | exc c x h1 => rw [q] at ho; exact ho
  | stuck => rw [q] at ho; exact ho
end
end So
end
section
set_option Elab.async false
set_option autoImplicit false
set_option linter.all false
/-! S2: operations on values. -/
namespace So
open PySem PySem.Spec PyProof.Rows L2
open Ev (D Ob Mem Fr R RS RL RB Bop Cop)

section
variable {S : Sx} {g g' : G} {h h' : Mem} {H H' : L2.Hp} {a p : Addr} {d e : D} {ds : List D} {v x y : V} {vs : List V} {n : Nat}
/-- a value as it stands now: a list may be a box -/
def VH (S : Sx) (g : G) (H : L2.Hp) : D → V → Prop
  | .lst ds, v => ∃ a vs, v = .ref a ∧ H a = some (.lst vs) ∧ VDs S g ds vs
  | d, v => VD S g d v
theorem VD.vh (r : Rel S g h H) (z : VD S g d v) : VH S g H d v := by
  cases d with
  | lst ds =>
    obtain ⟨a, vs, e, q, w⟩ := z
    exact ⟨a, vs, e, r.fz _ _ q, w⟩
  | _ => exact z
theorem shal_vh (r : Rel S g h H) (z : VD S g d v) : VH S g H (Ev.shal h d) v := by
  cases d with
  | loc n =>
    obtain ⟨a, e, q⟩ := id z
    simp only [Ev.shal]
    cases w : h[n]? with
    | none => exact z
    | some o =>
      cases o with
      | box c =>
        have k := r.ob n a _ q w
        cases c with
        | lst ds => obtain ⟨vs, e1, e2⟩ := k; exact ⟨a, vs, e, e1, e2⟩
        | _ => exact False.elim k
      | ins c fs => exact z
      | gone => exact z
  | _ => exact VD.vh r z
theorem lim_line : Ev.LIM ≤ sizeLine := by rw [sizeLine_eq]; decide

/-! ### what it is for data (PyData) -/
theorem toPs_length : ∀ l : List D, (toPs l).length = l.length
  | [] => rfl
  | x :: xs => by simp [toPs, toPs_length xs]
theorem toPs_map : ∀ l : List D, toPs l = l.map toP
  | [] => rfl
  | x :: xs => by simp [toPs, toPs_map xs]
mutual
theorem VD.dp (fz : ∀ a o, g.F a = some o → H a = some o) : ∀ (d : D) (v : V), d.pure = true → VD S g d v → Dp S.K H v (toP d)
  | .non, _, _, e => by cases e; exact .non
  | .bl b, _, _, e => by cases e; exact .bl b
  | .int i, _, _, e => by cases e; exact .int i
  | .str s, _, _, e => by obtain ⟨e, _⟩ := e; cases e; exact .str _
  | .tup ds, _, p, ⟨a, vs, e, q, w⟩ => by
    subst e
    exact .tup (sqT_mono fz q) (VDs.dp fz ds vs (by rw [D.pure] at p; exact p) w)
  | .lst ds, _, p, ⟨a, vs, e, q, w⟩ => by
    subst e
    exact .lst (.of (fz _ _ q)) (VDs.dp fz ds vs (by rw [D.pure] at p; exact p) w)
  | .loc _, _, p, _ => by simp [D.pure] at p
  | .fn _, _, p, _ => by simp [D.pure] at p
  | .scr _, _, p, _ => by simp [D.pure] at p
  | .rep _, _, p, _ => by simp [D.pure] at p
theorem VDs.dp (fz : ∀ a o, g.F a = some o → H a = some o) : ∀ (ds : List D) (vs : List V), D.pures ds = true → VDs S g ds vs → DpAll S.K H vs (toPs ds)
  | [], _, _, e => by cases e; exact .nil
  | d :: ds, _, p, ⟨v, vr, e, h1, h2⟩ => by
    subst e
    rw [D.pures, Bool.and_eq_true] at p
    exact .cons (VD.dp fz d v p.1 h1) (VDs.dp fz ds vr p.2 h2)
end
theorem VH.dp (r : Rel S g h H) (p : d.pure = true) (z : VH S g H d v) : Dp S.K H v (toP d) := by
  cases d with
  | lst ds =>
    obtain ⟨a, vs, e, q, w⟩ := z
    subst e
    exact .lst (.of q) (VDs.dp r.fz ds vs (by rw [D.pure] at p; exact p) w)
  | _ => exact VD.dp r.fz _ v p z
mutual
/-- data with boxes in it, looked through -/
theorem fullW_dp (r : Rel S g h H) (G1 : Nat → Option D) (hg : ∀ n c a, G1 n = some c → g.μ[n]? = some a → Dp S.K H (.ref a) (toP c)) : ∀ (d : D) (v : V) (x : D), D.fullW G1 d = some x → VD S g d v → Dp S.K H v (toP x)
  | .non, _, _, q, e => by cases e; cases q; exact .non
  | .bl b, _, _, q, e => by cases e; cases q; exact .bl b
  | .int i, _, _, q, e => by cases e; cases q; exact .int i
  | .str s, _, _, q, e => by obtain ⟨e, _⟩ := e; cases e; cases q; exact .str _
  | .tup ds, _, x, q, ⟨a, vs, e, w, z⟩ => by
    subst e
    rw [D.fullW] at q
    obtain ⟨ys, e1, e2⟩ := Option.map_eq_some_iff.mp q
    subst e2
    exact .tup (sqT_mono r.fz w) (fullWs_dp r G1 hg ds vs ys e1 z)
  | .lst ds, _, x, q, ⟨a, vs, e, w, z⟩ => by
    subst e
    rw [D.fullW] at q
    obtain ⟨ys, e1, e2⟩ := Option.map_eq_some_iff.mp q
    subst e2
    exact .lst (.of (r.fz _ _ w)) (fullWs_dp r G1 hg ds vs ys e1 z)
  | .loc n, _, x, q, ⟨a, e, w⟩ => by
    subst e
    rw [D.fullW] at q
    exact hg n x a q w
  | .fn _, _, _, q, _ => by simp [D.fullW] at q
  | .scr _, _, _, q, _ => by simp [D.fullW] at q
  | .rep _, _, _, q, _ => by simp [D.fullW] at q
theorem fullWs_dp (r : Rel S g h H) (G1 : Nat → Option D) (hg : ∀ n c a, G1 n = some c → g.μ[n]? = some a → Dp S.K H (.ref a) (toP c)) : ∀ (ds : List D) (vs : List V) (xs : List D), D.fullWs G1 ds = some xs → VDs S g ds vs → DpAll S.K H vs (toPs xs)
  | [], _, _, q, e => by cases e; cases q; exact .nil
  | d :: ds, _, xs, q, ⟨v, vr, e, h1, h2⟩ => by
    subst e
    rw [D.fullWs] at q
    cases q1 : D.fullW G1 d with
    | none => rw [q1] at q; simp at q
    | some y =>
      cases q2 : D.fullWs G1 ds with
      | none => rw [q1, q2] at q; simp at q
      | some ys =>
        rw [q1, q2] at q
        cases q
        exact .cons (fullW_dp r G1 hg d v y q1 h1) (fullWs_dp r G1 hg ds vr ys q2 h2)
end
theorem fullW_vh (r : Rel S g h H) (G1 : Nat → Option D) (hg : ∀ n c a, G1 n = some c → g.μ[n]? = some a → Dp S.K H (.ref a) (toP c)) {x : D} (q : D.fullW G1 d = some x) (z : VH S g H d v) : Dp S.K H v (toP x) := by
  cases d with
  | lst ds =>
    obtain ⟨a, vs, e, w, z⟩ := z
    subst e
    rw [D.fullW] at q
    obtain ⟨ys, e1, e2⟩ := Option.map_eq_some_iff.mp q
    subst e2
    exact .lst (.of w) (fullWs_dp r G1 hg ds vs ys e1 z)
  | _ => exact fullW_dp r G1 hg _ v x q z
theorem full_vh (r : Rel S g h H) : ∀ (k : Nat) {d : D} {v : V} {x : D}, Ev.full h k d = some x → VH S g H d v → Dp S.K H v (toP x)
  | 0, d, v, x, q, z => fullW_vh r _ (fun n c a e _ => by cases e) q z
  | k + 1, d, v, x, q, z => fullW_vh r _ (fun n c a e w => by
      cases q1 : h[n]? with
      | none => rw [q1] at e; cases e
      | some o =>
        rw [q1] at e
        cases o with
        | box b =>
          have k1 := r.ob n a _ w q1
          cases b with
          | lst ds =>
            obtain ⟨vs, e1, e2⟩ := k1
            exact full_vh r k e (v := .ref a) ⟨a, vs, rfl, e1, e2⟩
          | _ => exact False.elim k1
        | _ => cases e) q z

mutual
theorem eqv_p : ∀ (a b : D), a.pure = true → b.pure = true → D.eqv a b = PyData.eqv (toP a) (toP b)
  | .non, b, _, q => by cases b <;> first | rfl | simp [D.pure] at q
  | .bl x, b, _, q => by cases b <;> first | rfl | (simp [D.eqv, toP, PyData.eqv]; done) | simp [D.pure] at q
  | .int x, b, _, q => by cases b <;> first | rfl | (simp [D.eqv, toP, PyData.eqv]; done) | simp [D.pure] at q
  | .str x, b, _, q => by
    cases b with
    | str y =>
      simp only [D.eqv, toP, PyData.eqv]
      by_cases w : x = y
      · subst w; simp
      · have : tx x ≠ tx y := fun z => w (tx_inj z)
        simp [w, this]
    | _ => first | rfl | simp [D.pure] at q
  | .tup x, b, p, q => by
    cases b with
    | tup y =>
      rw [D.pure] at p q
      simp only [D.eqv, toP, PyData.eqv]
      exact eqvs_p x y p q
    | _ => first | rfl | simp [D.pure] at q
  | .lst x, b, p, q => by
    cases b with
    | lst y =>
      rw [D.pure] at p q
      simp only [D.eqv, toP, PyData.eqv]
      exact eqvs_p x y p q
    | _ => first | rfl | simp [D.pure] at q
  | .loc _, b, p, _ => by simp [D.pure] at p
  | .fn _, b, p, _ => by simp [D.pure] at p
  | .scr _, b, p, _ => by simp [D.pure] at p
  | .rep _, b, p, _ => by simp [D.pure] at p
theorem eqvs_p : ∀ (a b : List D), D.pures a = true → D.pures b = true → D.eqvs a b = PyData.eqvAll (toPs a) (toPs b)
  | [], b, _, _ => by cases b <;> rfl
  | x :: xs, b, p, q => by
    cases b with
    | nil => rfl
    | cons y ys =>
      rw [D.pures, Bool.and_eq_true] at p q
      simp only [D.eqvs, toPs, PyData.eqvAll]
      rw [eqv_p x y p.1 q.1, eqvs_p xs ys p.2 q.2]
end
mutual
/-- what is looked through is pure -/
theorem fullW_pure (G1 : Nat → Option D) (hg : ∀ n c, G1 n = some c → c.pure = true) : ∀ (d x : D), D.fullW G1 d = some x → x.pure = true
  | .non, _, q => by cases q; rfl
  | .bl b, _, q => by cases q; rfl
  | .int i, _, q => by cases q; rfl
  | .str s, _, q => by cases q; rfl
  | .tup ds, x, q => by
    rw [D.fullW] at q
    obtain ⟨ys, e1, e2⟩ := Option.map_eq_some_iff.mp q
    subst e2
    rw [D.pure]
    exact fullWs_pure G1 hg ds ys e1
  | .lst ds, x, q => by
    rw [D.fullW] at q
    obtain ⟨ys, e1, e2⟩ := Option.map_eq_some_iff.mp q
    subst e2
    rw [D.pure]
    exact fullWs_pure G1 hg ds ys e1
  | .loc n, x, q => hg n x (by rw [D.fullW] at q; exact q)
  | .fn _, _, q => by simp [D.fullW] at q
  | .scr _, _, q => by simp [D.fullW] at q
  | .rep _, _, q => by simp [D.fullW] at q
theorem fullWs_pure (G1 : Nat → Option D) (hg : ∀ n c, G1 n = some c → c.pure = true) : ∀ (ds xs : List D), D.fullWs G1 ds = some xs → D.pures xs = true
  | [], _, q => by cases q; rfl
  | d :: ds, xs, q => by
    rw [D.fullWs] at q
    cases q1 : D.fullW G1 d with
    | none => rw [q1] at q; simp at q
    | some y =>
      cases q2 : D.fullWs G1 ds with
      | none => rw [q1, q2] at q; simp at q
      | some ys =>
        rw [q1, q2] at q
        cases q
        rw [D.pures, fullW_pure G1 hg d y q1, fullWs_pure G1 hg ds ys q2]
        rfl
end
theorem full_pure : ∀ (k : Nat) {d x : D}, Ev.full h k d = some x → x.pure = true
  | 0, d, x, q => fullW_pure _ (fun n c e => by cases e) d x q
  | k + 1, d, x, q => fullW_pure _ (fun n c e => by
      split at e
      · exact full_pure k e
      · cases e) d x q
mutual
theorem dep_p : ∀ (d : D), d.pure = true → PyData.depth (toP d) ≤ d.dep
  | .non, _ => by simp [toP, PyData.depth]
  | .bl _, _ => by simp [toP, PyData.depth]
  | .int _, _ => by simp [toP, PyData.depth]
  | .str _, _ => by simp [toP, PyData.depth]
  | .tup xs, p => by
    rw [D.pure] at p
    simp only [toP, PyData.depth, D.dep]
    have := deps_p xs p
    omega
  | .lst xs, p => by
    rw [D.pure] at p
    simp only [toP, PyData.depth, D.dep]
    have := deps_p xs p
    omega
  | .loc _, p => by simp [D.pure] at p
  | .fn _, p => by simp [D.pure] at p
  | .scr _, p => by simp [D.pure] at p
  | .rep _, p => by simp [D.pure] at p
theorem deps_p : ∀ (ds : List D), D.pures ds = true → PyData.depthAll (toPs ds) ≤ D.deps ds
  | [], _ => by simp [toPs, PyData.depthAll]
  | x :: xs, p => by
    rw [D.pures, Bool.and_eq_true] at p
    simp only [toPs, PyData.depthAll, D.deps]
    have h1 := dep_p x p.1
    have h2 := deps_p xs p.2
    omega
end
mutual
/-- all texts in it are fit -/
def okT : D → Prop
  | .str s => OkS s
  | .tup xs => okTs xs
  | .lst xs => okTs xs
  | _ => True
def okTs : List D → Prop
  | [] => True
  | x :: xs => okT x ∧ okTs xs
end
mutual
theorem VD.okT : ∀ (d : D) (v : V), VD S g d v → So.okT d
  | .non, _, _ => trivial
  | .bl _, _, _ => trivial
  | .int _, _, _ => trivial
  | .str s, _, h => h.2
  | .tup ds, _, ⟨_, vs, _, _, r⟩ => VDs.okT ds vs r
  | .lst ds, _, ⟨_, vs, _, _, r⟩ => VDs.okT ds vs r
  | .scr ds, _, _ => trivial
  | .loc n, _, _ => trivial
  | .fn _, _, _ => trivial
  | .rep _, _, _ => trivial
theorem VDs.okT : ∀ (ds : List D) (vs : List V), VDs S g ds vs → So.okTs ds
  | [], _, _ => trivial
  | d :: ds, _, ⟨v, vr, _, h1, h2⟩ => ⟨VD.okT d v h1, VDs.okT ds vr h2⟩
end
theorem VH.okT (z : VH S g H d v) : So.okT d := by
  cases d with
  | lst ds => obtain ⟨a, vs, _, _, w⟩ := z; exact VDs.okT ds vs w
  | _ => exact VD.okT (S := S) (g := g) _ v z
mutual
theorem fullW_okT (r : Rel S g h H) (G1 : Nat → Option D) (hg : ∀ n c, G1 n = some c → So.okT c) : ∀ (d x : D), D.fullW G1 d = some x → So.okT d → So.okT x
  | .non, _, q, _ => by cases q; trivial
  | .bl b, _, q, _ => by cases q; trivial
  | .int i, _, q, _ => by cases q; trivial
  | .str s, _, q, h => by cases q; exact h
  | .tup ds, x, q, h => by
    rw [D.fullW] at q
    obtain ⟨ys, e1, e2⟩ := Option.map_eq_some_iff.mp q
    subst e2
    exact fullWs_okT r G1 hg ds ys e1 h
  | .lst ds, x, q, h => by
    rw [D.fullW] at q
    obtain ⟨ys, e1, e2⟩ := Option.map_eq_some_iff.mp q
    subst e2
    exact fullWs_okT r G1 hg ds ys e1 h
  | .loc n, x, q, _ => hg n x (by rw [D.fullW] at q; exact q)
  | .fn _, _, q, _ => by simp [D.fullW] at q
  | .scr _, _, q, _ => by simp [D.fullW] at q
  | .rep _, _, q, _ => by simp [D.fullW] at q
theorem fullWs_okT (r : Rel S g h H) (G1 : Nat → Option D) (hg : ∀ n c, G1 n = some c → So.okT c) : ∀ (ds xs : List D), D.fullWs G1 ds = some xs → So.okTs ds → So.okTs xs
  | [], _, q, _ => by cases q; trivial
  | d :: ds, xs, q, h => by
    rw [D.fullWs] at q
    cases q1 : D.fullW G1 d with
    | none => rw [q1] at q; simp at q
    | some y =>
      cases q2 : D.fullWs G1 ds with
      | none => rw [q1, q2] at q; simp at q
      | some ys =>
        rw [q1, q2] at q
        cases q
        exact ⟨fullW_okT r G1 hg d y q1 h.1, fullWs_okT r G1 hg ds ys q2 h.2⟩
end
theorem full_okT (r : Rel S g h H) : ∀ (k : Nat) {d x : D}, Ev.full h k d = some x → So.okT d → So.okT x
  | 0, d, x, q, z => fullW_okT r _ (fun n c e => by cases e) d x q z
  | k + 1, d, x, q, z => fullW_okT r _ (fun n c e => by
      split at e
      · rename_i b q1
        have hn : n < h.length := (List.getElem?_eq_some_iff.mp q1).1
        have ea : g.μ[n]? = some (g.μ[n]'(by rw [r.len]; exact hn)) := List.getElem?_eq_getElem _
        have k1 := r.ob n _ _ ea q1
        cases b with
        | lst ds =>
          obtain ⟨vs, e1, e2⟩ := k1
          exact full_okT r k e (VDs.okT ds vs e2)
        | _ => exact False.elim k1
      · cases e) d x q z
mutual
theorem lay_p : ∀ (d : D), d.pure = true → So.okT d → PyData.canLay0 (toP d) = true
  | .non, _, _ => by simp [toP, PyData.canLay0]
  | .bl _, _, _ => by simp [toP, PyData.canLay0]
  | .int _, _, _ => by simp [toP, PyData.canLay0]
  | .str _, _, h => by simp only [toP, PyData.canLay0]; exact OkS.ok h
  | .tup xs, p, h => by
    rw [D.pure] at p
    simp only [toP, PyData.canLay0]
    exact lays_p xs p h
  | .lst xs, p, h => by
    rw [D.pure] at p
    simp only [toP, PyData.canLay0]
    exact lays_p xs p h
  | .loc _, p, _ => by simp [D.pure] at p
  | .fn _, p, _ => by simp [D.pure] at p
  | .scr _, p, _ => by simp [D.pure] at p
  | .rep _, p, _ => by simp [D.pure] at p
theorem lays_p : ∀ (ds : List D), D.pures ds = true → So.okTs ds → PyData.canLayAll0 (toPs ds) = true
  | [], _, _ => by simp [toPs, PyData.canLayAll0]
  | x :: xs, p, h => by
    rw [D.pures, Bool.and_eq_true] at p
    simp only [toPs, PyData.canLayAll0]
    rw [lay_p x p.1 h.1, lays_p xs p.2 h.2]
    rfl
end
theorem shaped_p (p : d.pure = true) (w : So.okT d) (q : d.dep ≤ 64) : SeqAt.shaped (toP d) = true := by
  unfold SeqAt.shaped
  rw [lay_p d p w, Bool.true_and]
  exact decide_eq_true (Nat.le_trans (dep_p d p) q)
end
end So
end
section
set_option Elab.async false
set_option autoImplicit false
set_option linter.all false
/-! SA: the order of data; a row once. -/
namespace So
open PySem PySem.Spec PyProof.Rows L2 PySem.W
open Ev (D Ob Mem Fr R RS RL RB Bop Cop Bi Mt)
section
variable {S : Sx} {g g' : G} {h h' : Mem} {H H' : L2.Hp} {a p : Addr} {d e : D} {ds : List D} {v x y : V} {vs : List V} {n : Nat} {X : Cx}
theorem lexNat_lt : ∀ (a b : List Nat), Ev.lexNat a b = decide (a < b)
  | [], [] => by simp [Ev.lexNat]
  | [], y :: ys => by simp [Ev.lexNat]
  | x :: xs, [] => by simp [Ev.lexNat]
  | x :: xs, y :: ys => by
    rw [Ev.lexNat]
    by_cases q : x = y
    · subst q
      rw [if_pos rfl, lexNat_lt xs ys]
      congr 1
      simp [List.cons_lt_cons_iff]
    · rw [if_neg q]
      congr 1
      simp [List.cons_lt_cons_iff, q]
mutual
theorem toks_p : ∀ (d : D), d.pure = true → d.toks = keyToks (toP d)
  | .non, _ => by simp [D.toks, toP, keyToks]
  | .bl b, _ => by simp [D.toks, toP, keyToks]
  | .int i, _ => by simp [D.toks, toP, keyToks]
  | .str s, _ => by simp [D.toks, toP, keyToks]
  | .tup xs, p => by
    rw [D.pure] at p
    simp only [D.toks, toP, keyToks]
    exact tokss_p xs p
  | .lst xs, p => by
    rw [D.pure] at p
    simp only [D.toks, toP, keyToks]
    exact tokss_p xs p
  | .loc _, p => by simp [D.pure] at p
  | .fn _, p => by simp [D.pure] at p
  | .scr _, p => by simp [D.pure] at p
  | .rep _, p => by simp [D.pure] at p
theorem tokss_p : ∀ (ds : List D), D.pures ds = true → D.tokss ds = keyToksAll (toPs ds)
  | [], _ => by simp [D.tokss, toPs, keyToksAll]
  | x :: xs, p => by
    rw [D.pures, Bool.and_eq_true] at p
    simp only [D.tokss, toPs, keyToksAll]
    rw [toks_p x p.1, tokss_p xs p.2]
end
mutual
theorem alike_p : ∀ (a b : D), a.pure = true → b.pure = true → a.alike b = true → PySem.W.alike (toP a) (toP b) = true
  | .non, b, _, q, k => by cases b <;> first | (simp [D.alike] at k; done) | (simp [toP, PySem.W.alike]; done)
  | .bl x, b, _, q, k => by cases b <;> first | (simp [D.alike] at k; done) | (simp [toP, PySem.W.alike]; done)
  | .int x, b, _, q, k => by cases b <;> first | (simp [D.alike] at k; done) | (simp [toP, PySem.W.alike]; done)
  | .str x, b, _, q, k => by cases b <;> first | (simp [D.alike] at k; done) | (simp [toP, PySem.W.alike]; done)
  | .tup x, b, p, q, k => by
    cases b with
    | tup y =>
      rw [D.pure] at p q
      rw [D.alike] at k
      simp only [toP, PySem.W.alike]
      exact alikes_p x y p q k
    | _ => simp [D.alike] at k
  | .lst x, b, p, q, k => by
    cases b with
    | lst y =>
      rw [D.pure] at p q
      rw [D.alike] at k
      simp only [toP, PySem.W.alike]
      exact alikes_p x y p q k
    | _ => simp [D.alike] at k
  | .loc _, b, p, _, _ => by simp [D.pure] at p
  | .fn _, b, p, _, _ => by simp [D.pure] at p
  | .scr _, b, p, _, _ => by simp [D.pure] at p
  | .rep _, b, p, _, _ => by simp [D.pure] at p
theorem alikes_p : ∀ (a b : List D), D.pures a = true → D.pures b = true → D.alikes a b = true → PySem.W.alikeAll (toPs a) (toPs b) = true
  | [], b, _, _, _ => by simp [toPs, PySem.W.alikeAll]
  | x :: xs, b, p, q, k => by
    cases b with
    | nil => simp [toPs, PySem.W.alikeAll]
    | cons y ys =>
      rw [D.pures, Bool.and_eq_true] at p q
      rw [D.alikes, Bool.and_eq_true] at k
      simp only [toPs, PySem.W.alikeAll]
      rw [alike_p x y p.1 q.1 k.1, alikes_p xs ys p.2 q.2 k.2]
      rfl
end
theorem tokLt_is (a b : Int ⊕ List Nat) : Ev.tokLt a b = itemOrd.blt a b := by
  cases a <;> cases b <;> first | rfl | exact lexNat_lt _ _
theorem tokEq_is (a b : Int ⊕ List Nat) : Ev.tokEq a b = decide (a = b) := by
  cases a <;> cases b <;> simp [Ev.tokEq]
theorem lexTok_is : ∀ (a b : List (Int ⊕ List Nat)), Ev.lexTok a b = lexLt itemOrd a b
  | [], [] => rfl
  | [], _ :: _ => rfl
  | _ :: _, [] => rfl
  | x :: r, y :: t => by
    rw [Ev.lexTok, tokEq_is]
    by_cases q : x = y
    · subst q
      rw [if_pos (by simp), lexTok_is r t]
      exact (lex_self (O := itemOrd) x r t).symm
    · rw [if_neg (by simpa using q), tokLt_is]
      cases k : itemOrd.blt x y with
      | true => exact (lex_true.mpr (.inl k)).symm
      | false =>
        symm
        cases k2 : itemOrd.blt y x with
        | true =>
          cases k3 : lexLt itemOrd (x :: r) (y :: t) with
          | false => rfl
          | true =>
            rcases lex_true.mp k3 with z | ⟨z, _⟩
            · rw [k] at z; cases z
            · rw [k2] at z; cases z
        | false => exact absurd (itemOrd.total x y k k2) q
theorem lt_p {a b : D} (p : a.pure = true) (q : b.pure = true) : a.lt b = dataLt (toP a) (toP b) := by
  unfold D.lt dataLt
  rw [lexTok_is, toks_p a p, toks_p b q]

end
/-- xs * 1 is xs itself -/
theorem tup_mul1 (l : Addr) (items : Array Value) (n : Nat) (dd : Option Addr) (sl : Array (Option Value)) (u : Tok) :
    Meets (Builtin.«tuple.__mul__» ⟨[.ref l, .int 1 u], []⟩) (fun _ R s => s.heap.get? l = some { cls := .type "tuple", dict := dd, data := .seq items n, slots := sl } ∧ R (.ok (.ret (Value.ref l))) s) :=
  .of_wp fun prog w A R s h => by
    obtain ⟨hp, g, d, tk, os⟩ := s
    obtain ⟨hl, h⟩ := h
    have f1 := AutoSeq1.idx_int
    wp_walk using wpAny_loadPart' hl
    exact ⟨_, rfl, h⟩
theorem op_mul1 {X : Cx} : OpR X (binaryOp .Mult) (fun x y H Q => ∃ l xs, x = .ref l ∧ y = .int 1 ∧ SqT X.K H l xs ∧ Q (.ref l) H) := by
  intro pins s σ H x y v u Q I rx ry h
  obtain ⟨l, xs, rfl, rfl, hT, q⟩ := h
  cases rx
  obtain ⟨t, rfl⟩ := ry
  obtain ⟨its, r, ⟨⟨cls, dd, data, sl⟩, ho, hc, n, hd⟩, hs⟩ := I.tuple hT
  simp only at hc hd
  subst hc hd
  refine wpAny_binaryOp_repeat_ref (T := "tuple") (U := "int") (by decide) ⟨_, ho, rfl⟩ (fun s' => typeIs_int s' 1 t) noFill_tuple_mul F.fills_int_mul F.slot_int_rmul repeat_tuple F.slot_int_index.lookup
    (call_meets F.slot_int_rmul (typeIs_int s 1 t) F.entry_int_rmul (F.args_int_rmul_2 _ _) (int_rmul_tuple 1 t l its.toArray n dd sl)
      ⟨ho, rfl, ⟨_, ho, rfl⟩, call_meets F.slot_tuple_mul ⟨_, ho, rfl⟩ F.entry_tuple_mul (F.args_tuple_mul_2 _ _) (tup_mul1 l its.toArray n dd sl t) ⟨ho, ?_⟩⟩)
  exact ⟨.ref l, H, I, rfl, q⟩
end So
end
section
set_option Elab.async false
set_option autoImplicit false
set_option linter.all false
/-! S3: operators by values. -/
namespace So
open PySem PySem.Spec PyProof.Rows L2
open Ev (D Ob Mem Fr R RS RL RB Bop Cop)

def bo : Bop → Operator
  | .add => .Add | .sub => .Sub | .mul => .Mult | .fdiv => .FloorDiv | .mod => .Mod | .pow => .Pow
def co : Cop → CmpOp
  | .lt => .Lt | .le => .LtE | .gt => .Gt | .ge => .GtE | .eq => .Eq | .ne => .NotEq | .is_ => .Is | .isnot => .IsNot | .in_ => .In | .notin => .NotIn

section
variable {S : Sx} {g g' : G} {h h' : Mem} {H H' : L2.Hp} {a p : Addr} {d e : D} {ds : List D} {v x y : V} {vs : List V} {n : Nat} {X : Cx}
theorem tx_app (a b : List Nat) : tx a ++ tx b = tx (a ++ b) := by
  rw [← tx_of (tx a ++ tx b)]
  congr 1
  show ((tx a).cps ++ (tx b).cps).toList = a ++ b
  simp [tx]
theorem OkS.app {a b : List Nat} (x : OkS a) (y : OkS b) : OkS (a ++ b) := fun c hc => (List.mem_append.mp hc).elim (x c) (y c)
theorem lim_of {k : Nat} (h : k ≤ Ev.LIM) : k ≤ sizeLine := Nat.le_trans h lim_line

def rBop (S : Sx) (o : Bop) : R2 := fun x y H Q => ∃ g h d e z, Rel S g h H ∧ VH S g H d x ∧ VH S g H e y ∧ Ev.binop o d e = some z ∧ ∀ v g' H', Step g h H g' h H' → Rel S g' h H' → VD S g' z v → Q v H'
theorem op_bop (hK : X.K = S.K) (o : Bop) : OpR X (binaryOp (bo o)) (rBop S o) := by
  intro pins s σ H x y v u Q I rx ry hq
  obtain ⟨g, h, d, e, z, R, vd, ve, hz, k⟩ := hq
  unfold Ev.binop at hz
  split at hz
  · cases vd; cases ve; cases hz
    exact op_add pins s σ H _ _ v u Q I rx ry ⟨_, _, rfl, rfl, k _ g H (Step.refl R) R rfl⟩
  · split at hz
    · rename_i hl
      obtain ⟨vd, o1⟩ := vd
      obtain ⟨ve, o2⟩ := ve
      cases vd; cases ve; cases hz
      refine op_add_str pins s σ H _ _ v u Q I rx ry ⟨_, _, rfl, rfl, by simpa using lim_of hl, ?_⟩
      rw [tx_app]
      exact k _ g H (Step.refl R) R ⟨rfl, o1.app o2⟩
    · cases hz
  · split at hz
    · rename_i ta tb hl
      obtain ⟨a, vs, e1, q1, w1⟩ := id vd
      obtain ⟨b, ws, e2, q2, w2⟩ := id ve
      subst e1; subst e2
      cases hz
      have l1 := VDs.length w1
      have l2 := VDs.length w2
      refine op_catA pins s σ H _ _ v u Q I rx ry ⟨a, b, vs, ws, rfl, rfl, by rw [hK]; exact sqT_mono R.fz q1, by rw [hK]; exact sqT_mono R.fz q2, by rw [← l1, ← l2]; exact lim_of hl, fun q => ?_, fun _ q => ?_, fun _ _ p hp => ?_⟩
      · subst q
        have : ta = [] := List.length_eq_zero_iff.mp (by simpa using l1)
        subst this
        exact k _ g H (Step.refl R) R ve
      · subst q
        have : tb = [] := List.length_eq_zero_iff.mp (by simpa using l2)
        subst this
        rw [List.append_nil] at k
        exact k _ g H (Step.refl R) R vd
      · obtain ⟨g', r', st, vd'⟩ := new_tup R hp (w1.append w2)
        exact k _ g' _ st r' vd'
    · cases hz
  · split at hz
    · rename_i ta tb hl
      obtain ⟨a, vs, e1, q1, w1⟩ := id vd
      obtain ⟨b, ws, e2, q2, w2⟩ := id ve
      subst e1; subst e2
      cases hz
      refine op_cat pins s σ H _ _ v u Q I rx ry ⟨a, b, vs, ws, rfl, rfl, q1, q2, by rw [← VDs.length w1, ← VDs.length w2]; exact lim_of hl, fun p hp => ?_⟩
      obtain ⟨g', r', st, vd'⟩ := new_lst R hp (w1.append w2)
      exact k _ g' _ st r' vd'
    · cases hz
  · cases vd; cases ve; cases hz
    exact op_sub pins s σ H _ _ v u Q I rx ry ⟨_, _, rfl, rfl, k _ g H (Step.refl R) R rfl⟩
  · split at hz
    · rename_i hl
      cases vd; cases ve; cases hz
      exact op_mul pins s σ H _ _ v u Q I rx ry ⟨_, _, rfl, rfl, hl, k _ g H (Step.refl R) R rfl⟩
    · cases hz
  · split at hz
    · rename_i ta i hl
      obtain ⟨a, vs, e1, q1, w1⟩ := id vd
      subst e1
      cases ve; cases hz
      have l1 := VDs.length w1
      have ne : vs ≠ [] := fun z => by
        rw [z, List.length_nil] at l1
        omega
      by_cases one : i = 1
      · subst one
        refine op_mul1 pins s σ H _ _ v u Q I rx ry ⟨a, vs, rfl, rfl, by rw [hK]; exact sqT_mono R.fz q1, ?_⟩
        have : (List.replicate (1 : Int).toNat ta).flatten = ta := by simp
        rw [this] at k
        exact k _ g H (Step.refl R) R vd
      · refine op_repT pins s σ H _ _ v u Q I rx ry ⟨a, i, vs, rfl, rfl, by rw [hK]; exact sqT_mono R.fz q1, ne, by omega, hl.2.1, by rw [← l1]; exact hl.2.2.1, fun p hp => ?_⟩
        obtain ⟨g', r', st, vd'⟩ := new_tup R hp (VDs.rep i.toNat w1)
        exact k _ g' _ st r' vd'
    · cases hz
  · split at hz
    · rename_i hl
      cases vd; cases ve; cases hz
      exact op_fdiv pins s σ H _ _ v u Q I rx ry ⟨_, _, rfl, rfl, hl, k _ g H (Step.refl R) R rfl⟩
    · cases hz
  · split at hz
    · rename_i hl
      cases vd; cases ve; cases hz
      exact op_mod pins s σ H _ _ v u Q I rx ry ⟨_, _, rfl, rfl, hl, k _ g H (Step.refl R) R rfl⟩
    · cases hz
  · split at hz
    · rename_i hl
      cases vd; cases ve; cases hz
      exact op_pow pins s σ H _ _ v u Q I rx ry ⟨_, _, rfl, rfl, ⟨hl.1, by have := hl.2.1; omega, hl.2.2⟩, k _ g H (Step.refl R) R rfl⟩
    · cases hz
  · cases hz

/-! ### comparisons -/
theorem op_inT (hu : X.A.units + 65 < cLine) (neg : Bool) : OpR X (compareOp (if neg then .NotIn else .In)) (fun x y H Q => ∃ d ds, Dp X.K H x d ∧ Dp X.K H y (.tuple ds) ∧ SeqAt.shaped d = true ∧ SeqAt.shaped (.tuple ds) = true ∧
    Q (.bl (if neg then !(ds.any fun z => PyData.eqv z d) else ds.any fun z => PyData.eqv z d)) H) := by
  intro pins s σ H x y v u Q I rx ry hq
  obtain ⟨d, ds, hd, he, sd, se, q⟩ := hq
  obtain ⟨as, r1⟩ := Dp.reads I d x v hd rx
  obtain ⟨bs, r2⟩ := Dp.reads I (.tuple ds) y u he ry
  cases neg with
  | false => exact SeqAt.in_tuple_reads r2 r1 (SeqAt.canLay_of_shaped se) (SeqAt.canLay_of_shaped sd) (room_in_shaped sd hu) ⟨.bl _, H, I, rfl, q⟩
  | true => exact SeqAt.notIn_tuple_reads r2 r1 (SeqAt.canLay_of_shaped se) (SeqAt.canLay_of_shaped sd) (room_in_shaped sd hu) ⟨.bl _, H, I, rfl, q⟩
theorem any_p {a : D} (pa : a.pure = true) : ∀ (ds : List D), D.pures ds = true → (ds.any fun z => z.eqv a) = ((toPs ds).any fun z => PyData.eqv z (toP a))
  | [], _ => rfl
  | x :: xs, p => by
    rw [D.pures, Bool.and_eq_true] at p
    simp only [List.any_cons, toPs]
    rw [eqv_p x a p.1 pa, any_p pa xs p.2]
theorem VH.notNone (p : d.pure = true) (ne : d ≠ .non) (z : VH S g H d v) : decide (v = V.non) = false := by
  cases d with
  | non => exact absurd rfl ne
  | bl b => cases z; rfl
  | int i => cases z; rfl
  | str s => obtain ⟨z, _⟩ := z; cases z; rfl
  | tup ds => obtain ⟨a, vs, e, _⟩ := z; cases e; rfl
  | lst ds => obtain ⟨a, vs, e, _⟩ := z; cases e; rfl
  | loc n => simp [D.pure] at p
  | fn n => simp [D.pure] at p
  | scr n => simp [D.pure] at p
  | rep n => simp [D.pure] at p
def rCop (S : Sx) (o : Cop) : R2 := fun x y H Q => ∃ g h d e b, Rel S g h H ∧ VD S g d x ∧ VD S g e y ∧ Ev.cmpop h o d e = some b ∧ Q (.bl b) H
theorem op_cop (hK : X.K = S.K) (hu : X.A.units + 65 < cLine) (o : Cop) : OpR X (compareOp (co o)) (rCop S o) := by
  intro pins s σ H x y v u Q I rx ry hq
  obtain ⟨g, h, d, e, b, R, vd, ve, hz, k⟩ := hq
  have eqn : ∀ (x1 y1 : D), Ev.full h 3 d = some x1 → Ev.full h 3 e = some y1 → (x1.dep ≤ 64 ∧ y1.dep ≤ 64) →
      Dp X.K H x (toP x1) ∧ Dp X.K H y (toP y1) ∧ SeqAt.shaped (toP x1) = true ∧ SeqAt.shaped (toP y1) = true ∧ PyData.eqv (toP x1) (toP y1) = x1.eqv y1 := fun x1 y1 q1 q2 hl => by
    have p1 := full_pure 3 q1
    have p2 := full_pure 3 q2
    rw [hK]
    exact ⟨full_vh R 3 q1 (VD.vh R vd), full_vh R 3 q2 (VD.vh R ve), shaped_p p1 (full_okT R 3 q1 (VD.okT _ _ vd)) hl.1, shaped_p p2 (full_okT R 3 q2 (VD.okT _ _ ve)) hl.2, (eqv_p x1 y1 p1 p2).symm⟩
  have inn : ∀ (neg : Bool) (ds : List D), (Ev.shal h e = .tup ds ∨ Ev.shal h e = .lst ds) → (d.pure && D.pures ds && decide (d.dep ≤ 60) && decide (D.deps ds ≤ 60)) = true →
      Q (.bl (if neg then !(ds.any fun z => z.eqv d) else ds.any fun z => z.eqv d)) H → wpAny (model X.prog X.w) X.A (compareOp (if neg then .NotIn else .In) v u) (EP X pins σ Q) X.xe s := fun neg ds q1 q2 k => by
    simp only [Bool.and_eq_true, decide_eq_true_eq] at q2
    obtain ⟨⟨⟨p1, p2⟩, l1⟩, l2⟩ := q2
    have ve' := shal_vh R ve
    have sd := shaped_p p1 (VD.okT d x vd) (by omega)
    rw [any_p p1 ds p2] at k
    rcases q1 with q1 | q1
    · rw [q1] at ve'
      have dp := VH.dp (d := .tup ds) R (by rw [D.pure]; exact p2) ve'
      exact op_inT hu neg pins s σ H x y v u Q I rx ry ⟨toP d, toPs ds, by rw [hK]; exact VD.dp R.fz d x p1 vd, by rw [hK]; exact dp, sd,
        shaped_p (d := .tup ds) (by rw [D.pure]; exact p2) (VH.okT ve') (by rw [D.dep]; omega), k⟩
    · rw [q1] at ve'
      have dp := VH.dp (d := .lst ds) R (by rw [D.pure]; exact p2) ve'
      have hh : ∃ d1 ds1, Dp X.K H x d1 ∧ Dp X.K H y (.list ds1) ∧ SeqAt.shaped d1 = true ∧ SeqAt.shaped (.list ds1) = true ∧ Q (.bl (if neg then !(ds1.any fun z => PyData.eqv z d1) else ds1.any fun z => PyData.eqv z d1)) H :=
        ⟨toP d, toPs ds, by rw [hK]; exact VD.dp R.fz d x p1 vd, by rw [hK]; exact dp, sd,
          shaped_p (d := .lst ds) (by rw [D.pure]; exact p2) (VH.okT ve') (by rw [D.dep]; omega), k⟩
      cases neg with
      | false => exact op_inD hu pins s σ H x y v u Q I rx ry hh
      | true => exact op_notInD hu pins s σ H x y v u Q I rx ry hh
  unfold Ev.cmpop at hz
  split at hz
  · cases vd; cases ve; cases hz; exact op_lt pins s σ H _ _ v u Q I rx ry ⟨_, _, rfl, rfl, k⟩
  · cases vd; cases ve; cases hz; exact op_le pins s σ H _ _ v u Q I rx ry ⟨_, _, rfl, rfl, k⟩
  · cases vd; cases ve; cases hz; exact op_gt pins s σ H _ _ v u Q I rx ry ⟨_, _, rfl, rfl, k⟩
  · cases vd; cases ve; cases hz; exact op_ge pins s σ H _ _ v u Q I rx ry ⟨_, _, rfl, rfl, k⟩
  · obtain ⟨vd, o1⟩ := vd
    obtain ⟨ve, o2⟩ := ve
    cases vd; cases ve; cases hz
    refine op_lt_str pins s σ H _ _ v u Q I rx ry ⟨_, _, rfl, rfl, ?_⟩
    rw [lexNat_lt] at k
    simpa using k
  · split at hz
    · rename_i hb
      cases hz
      have := beq_eq _ _ hb
      subst this
      cases vd; cases ve
      exact op_eq pins s σ H _ _ v u Q I rx ry ⟨rfl, by simpa using k⟩
    · cases hz
  · split at hz
    · rename_i hb
      cases hz
      have := beq_eq _ _ hb
      subst this
      cases vd; cases ve
      exact op_ne pins s σ H _ _ v u Q I rx ry ⟨rfl, by simpa using k⟩
    · cases hz
  · split at hz
    · rename_i x1 y1 q1 q2
      split at hz
      · rename_i hl
        cases hz
        obtain ⟨a1, a2, a3, a4, a5⟩ := eqn x1 y1 q1 q2 hl
        exact op_eqD (by omega) pins s σ H x y v u Q I rx ry ⟨_, _, a1, a2, a3, a4, by rw [a5]; exact k⟩
      · cases hz
    · cases hz
  · split at hz
    · rename_i x1 y1 q1 q2
      split at hz
      · rename_i hl
        cases hz
        obtain ⟨a1, a2, a3, a4, a5⟩ := eqn x1 y1 q1 q2 hl
        exact op_neD (by omega) pins s σ H x y v u Q I rx ry ⟨_, _, a1, a2, a3, a4, by rw [a5]; exact k⟩
      · cases hz
    · cases hz
  · cases vd; cases ve; cases hz; exact op_isN pins s σ H _ _ v u Q I rx ry ⟨rfl, k⟩
  · obtain ⟨a, e1, _⟩ := vd
    subst e1
    cases ve; cases hz; exact op_isN pins s σ H _ _ v u Q I rx ry ⟨rfl, k⟩
  · split at hz
    · rename_i n1 n2 hp
      cases ve; cases hz
      refine op_isN pins s σ H _ _ v u Q I rx ry ⟨rfl, ?_⟩
      rw [VH.notNone hp (fun z => n1 z) (VD.vh R vd)]
      exact k
    · cases hz
  · cases vd; cases ve; cases hz; exact op_notN pins s σ H _ _ v u Q I rx ry ⟨rfl, k⟩
  · obtain ⟨a, e1, _⟩ := vd
    subst e1
    cases ve; cases hz; exact op_notN pins s σ H _ _ v u Q I rx ry ⟨rfl, k⟩
  · split at hz
    · rename_i n1 n2 hp
      cases ve; cases hz
      refine op_notN pins s σ H _ _ v u Q I rx ry ⟨rfl, ?_⟩
      rw [VH.notNone hp (fun z => n1 z) (VD.vh R vd)]
      exact k
    · cases hz
  · split at hz
    · obtain ⟨vd, o1⟩ := vd
      obtain ⟨ve, o2⟩ := ve
      cases vd; cases ve; cases hz
      exact op_in_sign pins s σ H _ _ v u Q I rx ry ⟨_, _, rfl, rfl, by simpa using k⟩
    · cases hz
  · split at hz
    · obtain ⟨vd, o1⟩ := vd
      obtain ⟨ve, o2⟩ := ve
      cases vd; cases ve; cases hz
      exact op_notIn_sign pins s σ H _ _ v u Q I rx ry ⟨_, _, rfl, rfl, by simpa using k⟩
    · cases hz
  · split at hz
    · rename_i ds q
      split at hz
      · rename_i hl
        cases hz
        exact inn false ds (.inl q) hl k
      · cases hz
    · rename_i ds q
      split at hz
      · rename_i hl
        cases hz
        exact inn false ds (.inr q) hl k
      · cases hz
    · cases hz
  · split at hz
    · rename_i ds q
      split at hz
      · rename_i hl
        cases hz
        exact inn true ds (.inl q) hl k
      · cases hz
    · rename_i ds q
      split at hz
      · rename_i hl
        cases hz
        exact inn true ds (.inr q) hl k
      · cases hz
    · cases hz
  · split at hz
    · rename_i hl
      cases hz
      simp only [Bool.and_eq_true, decide_eq_true_eq] at hl
      obtain ⟨⟨⟨⟨⟨p1, p2⟩, al⟩, rb⟩, d1⟩, d2⟩ := hl
      obtain ⟨as, r1⟩ := Dp.reads I (toP d) x v (by rw [hK]; exact VD.dp R.fz d x p1 vd) rx
      obtain ⟨bs, r2⟩ := Dp.reads I (toP e) y u (by rw [hK]; exact VD.dp R.fz e y p2 ve) ry
      have nn : toP d ≠ .none := by
        cases d <;> first | (simp [D.rowB] at rb; done) | (simp [toP]; done)
      have dd := dep_p d p1
      refine PySem.W.lt_data r1 r2 (alike_p d e p1 p2 al) nn (by omega) ⟨.bl _, H, I, rfl, ?_⟩
      rw [lt_p p1 p2] at k
      exact k
    · cases hz
  · cases hz
end
end So
end
section
set_option Elab.async false
set_option autoImplicit false
set_option linter.all false
/-! S4: subscripts, slices, built-in functions. -/
namespace So
open PySem PySem.Spec PyProof.Rows L2
open Ev (D Ob Mem Fr R RS RL RB Bop Cop Bi)

section
variable {S : Sx} {g g' : G} {h h' : Mem} {H H' : L2.Hp} {a p : Addr} {d e : D} {ds : List D} {v x y : V} {vs : List V} {n : Nat} {X : Cx}

theorem atI_eq {α : Type} (xs : List α) (i : Int) : Ev.atI xs i = L2.atI xs i := rfl
theorem sIx_eq (n k : Nat) (o : Option Int) : Ev.sIx n k o = HT.sIx n k o := by
  cases o with
  | none => rfl
  | some i =>
    show (if 0 ≤ i then min i.toNat n else (i + n).toNat) = (if i < 0 then (i + n).toNat else min i.toNat n)
    by_cases q : 0 ≤ i
    · rw [if_pos q, if_neg (by omega)]
    · rw [if_neg q, if_pos (by omega)]
theorem VDs.atI {i : Int} (w : VDs S g ds vs) (q : Ev.atI ds i = some d) : ∃ v, L2.atI vs i = some v ∧ VD S g d v := by
  unfold Ev.atI at q
  unfold L2.atI
  rw [← VDs.length w]
  have e1 : Ev.ixN ds.length i = L2.ixN ds.length i := rfl
  rw [e1] at q
  cases k : L2.ixN ds.length i with
  | none => rw [k] at q; cases q
  | some j =>
    rw [k] at q
    exact VDs.get w q
theorem VDs.cut {lo hi : Option Int} (w : VDs S g ds vs) : VDs S g (Ev.cut ds lo hi) (cutV vs lo hi) := by
  unfold Ev.cut cutV
  rw [sIx_eq, sIx_eq, VDs.length w]
  exact VDs.take _ (VDs.drop _ w)

def rItem (S : Sx) : R2 := fun x y H Q => ∃ g h d e z, Rel S g h H ∧ VH S g H d x ∧ VD S g e y ∧ Ev.item d e = some z ∧ ∀ v, VD S g z v → Q v H
theorem ix_all (hK : X.K = S.K) : IxR X (rItem S) := by
  intro value slice pins s σ H x y v u Q I rx ry hq hs
  obtain ⟨g, h, d, e, z, R, vd, ve, hz, k⟩ := hq
  unfold Ev.item at hz
  split at hz
  · obtain ⟨a, vs, e1, q1, w1⟩ := vd
    cases ve
    obtain ⟨w, e2, e3⟩ := VDs.atI w1 hz
    exact ix_tup value slice pins s σ H _ _ v u Q I rx ry ⟨a, vs, _, w, e1, rfl, by rw [hK]; exact sqT_mono R.fz q1, e2, k w e3⟩ hs
  · obtain ⟨a, vs, e1, q1, w1⟩ := vd
    cases ve
    obtain ⟨w, e2, e3⟩ := VDs.atI w1 hz
    exact ix_list value slice pins s σ H _ _ v u Q I rx ry ⟨a, vs, _, w, e1, rfl, .of q1, e2, k w e3⟩ hs
  · split at hz
    · rename_i t i hl
      obtain ⟨vd, o1⟩ := vd
      cases ve
      subst vd
      obtain ⟨c, e1, e2⟩ := Option.map_eq_some_iff.mp hz
      subst e2
      refine ix_str value slice pins s σ H _ _ v u Q I rx ry ⟨tx t, i, c, rfl, rfl, by simpa using lim_of hl, by rw [tx_list]; exact e1, k _ ⟨rfl, fun c' hc => ?_⟩⟩ hs
      simp at hc
      subst hc
      unfold Ev.atI at e1
      obtain ⟨j, _, e3⟩ := Option.bind_eq_some_iff.mp e1
      exact o1 _ (List.mem_of_getElem? e3)
    · cases hz
  · cases hz

def rSlc (S : Sx) : V → Option Int → Option Int → L2.Hp → VK → Prop := fun x lo hi H Q => ∃ g h d z, Rel S g h H ∧ VH S g H d x ∧ Ev.slice d lo hi = some z ∧ ∀ v g' H', Step g h H g' h H' → Rel S g' h H' → VD S g' z v → Q v H'
theorem OkS.sub {s t : List Nat} (o : OkS s) (q : ∀ c ∈ t, c ∈ s) : OkS t := fun c hc => o c (q c hc)
theorem sl_all (hK : X.K = S.K) : SlR X (rSlc S) := by
  intro pins s σ H x v vl vu lo hi sl Q I rx hs pl pu hq
  obtain ⟨g, h, d, z, R, vd, hz, k⟩ := hq
  unfold Ev.slice at hz
  split at hz
  · rename_i t
    cases hz
    obtain ⟨a, vs, e1, q1, w1⟩ := id vd
    subst e1
    refine sl_tupA pins s σ H _ v vl vu lo hi sl Q I rx hs pl pu ⟨a, vs, rfl, by rw [hK]; exact sqT_mono R.fz q1, fun hw => ?_, fun _ p hp => ?_⟩
    · have : Ev.cut t lo hi = t := by
        unfold Ev.cut
        rw [sIx_eq, sIx_eq, VDs.length w1, hw.1, hw.2, ← VDs.length w1]
        simp
      rw [this] at k
      exact k _ g H (Step.refl R) R vd
    · obtain ⟨g', r', st, vd'⟩ := new_tup R hp (VDs.cut (lo := lo) (hi := hi) w1)
      exact k _ g' _ st r' vd'
  · rename_i t
    cases hz
    obtain ⟨a, vs, e1, q1, w1⟩ := id vd
    subst e1
    refine sl_list pins s σ H _ v vl vu lo hi sl Q I rx hs pl pu ⟨a, vs, rfl, .of q1, fun p hp => ?_⟩
    obtain ⟨g', r', st, vd'⟩ := new_lst R hp (VDs.cut (lo := lo) (hi := hi) w1)
    exact k _ g' _ st r' vd'
  · rename_i t
    cases hz
    obtain ⟨a, vs, e1, q1, w1⟩ := id vd
    subst e1
    refine sl_list pins s σ H _ v vl vu lo hi sl Q I rx hs pl pu ⟨a, vs, rfl, by rw [hK]; exact sqL_mono R.fz q1, fun p hp => ?_⟩
    obtain ⟨g', r', st, vd'⟩ := new_lst R hp (VDs.cut (lo := lo) (hi := hi) w1)
    exact k _ g' _ st r' vd'
  · split at hz
    · rename_i t hl
      cases hz
      obtain ⟨vd, o1⟩ := vd
      subst vd
      refine C8.sl_txt pins s σ H _ v vl vu lo hi sl Q I rx hs pl pu ⟨tx t, rfl, by simpa using lim_of hl, ?_⟩
      have e1 : Txt.slice (tx t) lo hi = tx (Ev.cut t lo hi) := by
        rw [← C8.cutS_slice]
        unfold cutS Ev.cut
        rw [sIx_eq, sIx_eq, tx_list, tx_len]
        rfl
      rw [e1]
      exact k _ g H (Step.refl R) R ⟨rfl, o1.sub fun c hc => List.mem_of_mem_drop (List.mem_of_mem_take hc)⟩
    · cases hz
  · cases hz

/-! ### built-in functions -/
theorem VDs.intsD : ∀ {ds : List D} {vs : List V} {l : List Int}, Ev.intsD ds = some l → VDs S g ds vs → vs = l.map V.int
  | [], _, l, q, w => by cases w; cases q; rfl
  | d :: ds, _, l, q, ⟨v, vr, e, h1, h2⟩ => by
    subst e
    cases d with
    | int i =>
      rw [Ev.intsD] at q
      obtain ⟨l', e1, e2⟩ := Option.map_eq_some_iff.mp q
      subst e2
      cases h1
      rw [VDs.intsD e1 h2]
      rfl
    | _ => simp [Ev.intsD] at q
theorem VDs.bools : ∀ {ds : List D} {vs : List V} {l : List Bool}, Ev.bools ds = some l → VDs S g ds vs → vs = l.map V.bl
  | [], _, l, q, w => by cases w; cases q; rfl
  | d :: ds, _, l, q, ⟨v, vr, e, h1, h2⟩ => by
    subst e
    cases d with
    | bl i =>
      rw [Ev.bools] at q
      obtain ⟨l', e1, e2⟩ := Option.map_eq_some_iff.mp q
      subst e2
      cases h1
      rw [VDs.bools e1 h2]
      rfl
    | _ => simp [Ev.bools] at q
theorem VDs.strsD : ∀ {ds : List D} {vs : List V} {l : List (List Nat)}, Ev.strsD ds = some l → VDs S g ds vs → vs = l.map (fun s => V.str (tx s)) ∧ ∀ s ∈ l, OkS s
  | [], _, l, q, w => by cases w; cases q; exact ⟨rfl, fun _ h => by simp at h⟩
  | d :: ds, _, l, q, ⟨v, vr, e, h1, h2⟩ => by
    subst e
    cases d with
    | str t =>
      rw [Ev.strsD] at q
      obtain ⟨l', e1, e2⟩ := Option.map_eq_some_iff.mp q
      subst e2
      obtain ⟨h1, o⟩ := h1
      cases h1
      obtain ⟨k1, k2⟩ := VDs.strsD e1 h2
      rw [k1]
      refine ⟨rfl, fun s hs => ?_⟩
      rcases List.mem_cons.mp hs with z | z
      · subst z; exact o
      · exact k2 s z
    | _ => simp [Ev.strsD] at q
theorem maxI_is : ∀ (l : List Int), l ≠ [] → Ev.maxI l ∈ l ∧ ∀ y ∈ l, y ≤ Ev.maxI l
  | [], h => absurd rfl h
  | [a], _ => ⟨by simp [Ev.maxI], fun y hy => by simp at hy; subst hy; simp [Ev.maxI]⟩
  | a :: b :: r, _ => by
    obtain ⟨h1, h2⟩ := maxI_is (b :: r) (by simp)
    rw [Ev.maxI.eq_3 _ _ (by simp)]
    refine ⟨?_, fun y hy => ?_⟩
    · by_cases q : a ≤ Ev.maxI (b :: r)
      · rw [Int.max_eq_right q]; exact List.mem_cons_of_mem _ h1
      · rw [Int.max_eq_left (by omega)]; exact List.mem_cons_self
    · rcases List.mem_cons.mp hy with z | z
      · subst z; exact Int.le_max_left ..
      · exact Int.le_trans (h2 y z) (Int.le_max_right ..)
theorem minI_is : ∀ (l : List Int), l ≠ [] → Ev.minI l ∈ l ∧ ∀ y ∈ l, Ev.minI l ≤ y
  | [], h => absurd rfl h
  | [a], _ => ⟨by simp [Ev.minI], fun y hy => by simp at hy; subst hy; simp [Ev.minI]⟩
  | a :: b :: r, _ => by
    obtain ⟨h1, h2⟩ := minI_is (b :: r) (by simp)
    rw [Ev.minI.eq_3 _ _ (by simp)]
    refine ⟨?_, fun y hy => ?_⟩
    · by_cases q : a ≤ Ev.minI (b :: r)
      · rw [Int.min_eq_left q]; exact List.mem_cons_self
      · rw [Int.min_eq_right (by omega)]; exact List.mem_cons_of_mem _ h1
    · rcases List.mem_cons.mp hy with z | z
      · subst z; exact Int.min_le_left ..
      · exact Int.le_trans (Int.min_le_right ..) (h2 y z)
theorem max_uniq {l : List Int} {m : Int} (h1 : m ∈ l) (h2 : ∀ y ∈ l, y ≤ m) : m = Ev.maxI l := by
  obtain ⟨k1, k2⟩ := maxI_is l (by intro z; subst z; simp at h1)
  have a1 := h2 _ k1
  have a2 := k2 _ h1
  omega
theorem min_uniq {l : List Int} {m : Int} (h1 : m ∈ l) (h2 : ∀ y ∈ l, m ≤ y) : m = Ev.minI l := by
  obtain ⟨k1, k2⟩ := minI_is l (by intro z; subst z; simp at h1)
  have a1 := h2 _ k1
  have a2 := k2 _ h1
  omega
theorem digits_tx (i : Int) : (toString i : Str) = tx (Ev.digits i) := by
  rw [← tx_of (toString i : Str)]
  congr 1
  exact signs_ofString (toString i)
theorem digits_ok (i : Int) : OkS (Ev.digits i) := fun c hc => by
  unfold Ev.digits at hc
  obtain ⟨ch, _, e⟩ := List.mem_map.mp hc
  subst e
  have := ch.valid
  simp only [UInt32.isValidChar, Nat.isValidChar] at this
  show ch.val.toNat < 1114112
  omega
theorem digits_len (i : Int) (h : i.natAbs.log2 < 1900) : (toString i : String).length ≤ 1901 := int_text_length_le (by decide) h

theorem shownAll_len : ∀ xs : List PyData, (PyData.shownAll xs).length = xs.length
  | [] => by simp [PyData.shownAll]
  | x :: xs => by simp [PyData.shownAll, shownAll_len xs]
mutual
theorem shown_wt : ∀ (d : D), d.pure = true → d.fine = true → So.okT d → (toP d).shown.length ≤ d.wt
  | .non, _, _, _ => by simp only [toP, PyData.shown, D.wt]; decide
  | .bl true, _, _, _ => by simp only [toP, PyData.shown, D.wt]; decide
  | .bl false, _, _, _ => by simp only [toP, PyData.shown, D.wt]; decide
  | .int i, _, f, _ => by
    rw [D.fine] at f
    simp only [toP, PyData.shown, D.wt]
    show (Str.ofString (toString i)).length ≤ _
    rw [PySem.ofString_length]
    have := int_text_length_le (a := i) (k := i.natAbs.log2 + 1) (by omega) (by omega)
    omega
  | .str s, _, _, o => by
    simp only [toP, PyData.shown, D.wt]
    have := StrLaws.reprText_len (tx s) (fun c hc => by
      rw [tx_list] at hc
      have := o c hc
      omega)
    rw [tx_len] at this
    omega
  | .tup xs, p, f, o => by
    rw [D.pure] at p
    rw [D.fine] at f
    simp only [toP, PyData.shown, D.wt]
    have h1 := tupleText_len_le (PyData.shownAll (toPs xs))
    have h2 := shows_wt xs p f o
    rw [shownAll_len] at h1
    omega
  | .lst xs, p, f, o => by
    rw [D.pure] at p
    rw [D.fine] at f
    simp only [toP, PyData.shown, D.wt]
    have h1 := listText_len_le (PyData.shownAll (toPs xs))
    have h2 := shows_wt xs p f o
    rw [shownAll_len] at h1
    omega
  | .loc _, p, _, _ => by simp [D.pure] at p
  | .fn _, p, _, _ => by simp [D.pure] at p
  | .scr _, p, _, _ => by simp [D.pure] at p
  | .rep _, p, _, _ => by simp [D.pure] at p
theorem shows_wt : ∀ (ds : List D), D.pures ds = true → D.fines ds = true → So.okTs ds → ((PyData.shownAll (toPs ds)).map (·.length)).sum + 2 * (toPs ds).length ≤ D.wts ds
  | [], _, _, _ => by simp [toPs, PyData.shownAll, D.wts]
  | x :: xs, p, f, o => by
    rw [D.pures, Bool.and_eq_true] at p
    rw [D.fines, Bool.and_eq_true] at f
    have h1 := shown_wt x p.1 f.1 o.1
    have h2 := shows_wt xs p.2 f.2 o.2
    simp only [toPs, PyData.shownAll, D.wts, List.map_cons, List.sum_cons, List.length_cons]
    omega
end
mutual
theorem showable_p : ∀ (d : D), d.pure = true → d.fine = true → PyData.showable (toP d) = true
  | .non, _, _ => by simp [toP, PyData.showable]
  | .bl _, _, _ => by simp [toP, PyData.showable]
  | .int i, _, f => by
    rw [D.fine] at f
    simp only [toP, PyData.showable]
    have := of_decide_eq_true f
    exact decide_eq_true (by omega)
  | .str s, _, _ => by simp [toP, PyData.showable]
  | .tup xs, p, f => by
    rw [D.pure] at p
    rw [D.fine] at f
    simp only [toP, PyData.showable]
    exact showables_p xs p f
  | .lst xs, p, f => by
    rw [D.pure] at p
    rw [D.fine] at f
    simp only [toP, PyData.showable]
    exact showables_p xs p f
  | .loc _, p, _ => by simp [D.pure] at p
  | .fn _, p, _ => by simp [D.pure] at p
  | .scr _, p, _ => by simp [D.pure] at p
  | .rep _, p, _ => by simp [D.pure] at p
theorem showables_p : ∀ (ds : List D), D.pures ds = true → D.fines ds = true → PyData.showableAll (toPs ds) = true
  | [], _, _ => by simp [toPs, PyData.showableAll]
  | x :: xs, p, f => by
    rw [D.pures, Bool.and_eq_true] at p
    rw [D.fines, Bool.and_eq_true] at f
    simp only [toPs, PyData.showableAll]
    rw [showable_p x p.1 f.1, showables_p xs p.2 f.2]
    rfl
end
mutual
theorem hasDict_p : ∀ (d : D), PyData.hasDict (toP d) = false
  | .non => by simp [toP, PyData.hasDict]
  | .bl _ => by simp [toP, PyData.hasDict]
  | .int i => by simp [toP, PyData.hasDict]
  | .str s => by simp [toP, PyData.hasDict]
  | .tup xs => by simp only [toP, PyData.hasDict]; exact hasDicts_p xs
  | .lst xs => by simp only [toP, PyData.hasDict]; exact hasDicts_p xs
  | .loc _ => by simp [toP, PyData.hasDict]
  | .fn _ => by simp [toP, PyData.hasDict]
  | .scr _ => by simp [toP, PyData.hasDict]
  | .rep _ => by simp [toP, PyData.hasDict]
theorem hasDicts_p : ∀ (ds : List D), PyData.hasDictAll (toPs ds) = false
  | [] => by simp [toPs, PyData.hasDictAll]
  | x :: xs => by
    simp only [toPs, PyData.hasDictAll]
    rw [hasDict_p x, hasDicts_p xs]
    rfl
end
theorem call_repr (hg : X.A.guards = some []) (hu : X.A.units + 70 < cLine) : CallR X (.builtin "repr") (fun xs H Q => ∃ a d, xs = [.ref a] ∧ Dp X.K H (.ref a) d ∧ d.showable = true ∧ d.hasDict = false ∧ d.depth ≤ 64 ∧ d.shown.length ≤ sizeLine ∧ Q (.str d.shown) H) := by
  intro pins s σ H xs us Q I r hq
  obtain ⟨a, d, rfl, dp, h1, h2, h3, h4, k⟩ := hq
  obtain ⟨u, rfl, ru⟩ := vals1 r
  cases ru
  obtain ⟨as, rd⟩ := Dp.reads I d _ _ dp rfl
  exact repr_of_reads' rd h1 (fun z => by rw [h2] at z; cases z) hg (by omega) (fun _ _ e => e) (fun h' t tk hk => ⟨.str d.shown, H, I.kept hk, ⟨_, rfl⟩, k⟩) h4
end
end So
end
section
set_option Elab.async false
set_option autoImplicit false
set_option linter.all false
/-! S5: calls of built-in functions and methods by values. -/
namespace So
open PySem PySem.Spec PyProof.Rows L2
open Ev (D Ob Mem Fr R RS RL RB Bop Cop Bi Mt)

section
variable {S : Sx} {g g' : G} {h h' : Mem} {H H' : L2.Hp} {a p : Addr} {d e : D} {ds : List D} {v x y : V} {vs : List V} {n : Nat} {X : Cx}

def rBi (S : Sx) (b : Bi) : List V → L2.Hp → VK → Prop := fun xs H Q => ∃ g h ds z, Rel S g h H ∧ VDs S g ds xs ∧ Ev.biF b ds h = some z ∧ ∀ v g' H', Step g h H g' h H' → Rel S g' h H' → VD S g' z v → Q v H'
theorem VDs.one_of {xs : List V} (w : VDs S g [d] xs) : ∃ v, xs = [v] ∧ VD S g d v := by
  obtain ⟨v, vr, e, h1, h2⟩ := w
  cases h2
  exact ⟨v, e, h1⟩
theorem VDs.two_of {xs : List V} (w : VDs S g [d, e] xs) : ∃ v u, xs = [v, u] ∧ VD S g d v ∧ VD S g e u := by
  obtain ⟨v, vr, e1, h1, u, ur, e2, h2, h3⟩ := w
  cases h3
  subst e2
  exact ⟨v, u, e1, h1, h2⟩
theorem cr_len (hK : X.K = S.K) : CallR X (.builtin "len") (rBi S .len) := by
  intro pins s σ H xs us Q I r hq
  obtain ⟨g, h, ds, z, R, w, hz, k⟩ := hq
  unfold Ev.biF at hz
  split at hz <;> rename_i hb <;> try (first | (cases hb; done) | (cases hz; done))
  rename_i d
  obtain ⟨v, rfl, vd⟩ := VDs.one_of w
  have vh := shal_vh R vd
  split at hz
  · rename_i t q1
    rw [q1] at vh
    obtain ⟨a, vs, e1, q2, w2⟩ := vh
    cases hz
    exact call_len_seq pins s σ H _ us Q I r ⟨a, vs, by rw [e1], .inr (by rw [hK]; exact sqT_mono R.fz q2), by rw [← VDs.length w2]; exact k _ g H (Step.refl R) R rfl⟩
  · rename_i t q1
    rw [q1] at vh
    obtain ⟨a, vs, e1, q2, w2⟩ := vh
    cases hz
    exact call_len_seq pins s σ H _ us Q I r ⟨a, vs, by rw [e1], .inl (.of q2), by rw [← VDs.length w2]; exact k _ g H (Step.refl R) R rfl⟩
  · rename_i t q1
    rw [q1] at vh
    split at hz
    · rename_i hl
      obtain ⟨vh, o1⟩ := vh
      cases hz
      exact call_len_str pins s σ H _ us Q I r ⟨tx t, by rw [vh], by simpa using lim_of hl, by rw [tx_len]; exact k _ g H (Step.refl R) R rfl⟩
    · cases hz
  · cases hz
theorem cr_abs : CallR X (.builtin "abs") (rBi S .abs) := by
  intro pins s σ H xs us Q I r hq
  obtain ⟨g, h, ds, z, R, w, hz, k⟩ := hq
  unfold Ev.biF at hz
  split at hz <;> rename_i hb <;> try (first | (cases hb; done) | (cases hz; done))
  rename_i i
  obtain ⟨v, rfl, vd⟩ := VDs.one_of w
  cases vd; cases hz
  exact call_abs pins s σ H _ us Q I r ⟨i, rfl, k _ g H (Step.refl R) R rfl⟩
theorem cr_int : CallR X (.type "int") (rBi S .int_) := by
  intro pins s σ H xs us Q I r hq
  obtain ⟨g, h, ds, z, R, w, hz, k⟩ := hq
  unfold Ev.biF at hz
  split at hz <;> rename_i hb <;> try (first | (cases hb; done) | (cases hz; done))
  · rename_i i
    obtain ⟨v, rfl, vd⟩ := VDs.one_of w
    cases vd; cases hz
    exact call_int1 pins s σ H _ us Q I r (.inl ⟨i, rfl, k _ g H (Step.refl R) R rfl⟩)
  · rename_i i
    obtain ⟨v, rfl, vd⟩ := VDs.one_of w
    cases vd; cases hz
    exact call_int1 pins s σ H _ us Q I r (.inr ⟨i, rfl, k _ g H (Step.refl R) R rfl⟩)
theorem cr_str : CallR X (.type "str") (rBi S .str_) := by
  intro pins s σ H xs us Q I r hq
  obtain ⟨g, h, ds, z, R, w, hz, k⟩ := hq
  unfold Ev.biF at hz
  split at hz <;> rename_i hb <;> try (first | (cases hb; done) | (cases hz; done))
  rename_i i
  obtain ⟨v, rfl, vd⟩ := VDs.one_of w
  cases vd
  split at hz
  · rename_i hl
    cases hz
    refine call_str_int pins s σ H _ us Q I r ⟨i, rfl, by omega, ?_⟩
    rw [digits_tx]
    exact k _ g H (Step.refl R) R ⟨rfl, digits_ok i⟩
  · cases hz
theorem cr_repr (hK : X.K = S.K) (hg : X.A.guards = some []) (hu : X.A.units + 70 < cLine) : CallR X (.builtin "repr") (rBi S .repr) := by
  intro pins s σ H xs us Q I r hq
  obtain ⟨g, h, ds, z, R, w, hz, k⟩ := hq
  unfold Ev.biF at hz
  split at hz <;> rename_i hb <;> try (first | (cases hb; done) | (cases hz; done))
  rename_i d
  obtain ⟨v, rfl, vd⟩ := VDs.one_of w
  have go : ∀ x1 : D, Ev.full h 3 d = some x1 → (∃ a, v = .ref a) → (x1.dep ≤ 64 ∧ x1.wt ≤ 1000000 ∧ x1.fine = true) → Q (.str (toP x1).shown) H → wpAny (model X.prog X.w) X.A (call (.builtin "repr") us) (EP X pins σ Q) X.xe s := fun x1 q1 hv hl k => by
    obtain ⟨a, rfl⟩ := hv
    have p1 := full_pure 3 q1
    have o1 := full_okT R 3 q1 (VD.okT _ _ vd)
    refine call_repr hg hu pins s σ H _ us Q I r ⟨a, toP x1, rfl, by rw [hK]; exact full_vh R 3 q1 (VD.vh R vd), showable_p x1 p1 hl.2.2, hasDict_p x1, Nat.le_trans (dep_p x1 p1) hl.1, ?_, k⟩
    have h1 := shown_wt x1 p1 hl.2.2 o1
    have h2 : (1000000 : Nat) ≤ sizeLine := by rw [sizeLine_eq]; decide
    omega
  split at hz
  · rename_i t q1
    split at hz
    · rename_i hl
      cases hz
      have dp := full_vh R 3 q1 (VD.vh R vd)
      exact go _ q1 (by cases dp; exact ⟨_, rfl⟩) hl (k _ g H (Step.refl R) R rfl)
    · cases hz
  · rename_i t q1
    split at hz
    · rename_i hl
      cases hz
      have dp := full_vh R 3 q1 (VD.vh R vd)
      exact go _ q1 (by cases dp; exact ⟨_, rfl⟩) hl (k _ g H (Step.refl R) R rfl)
    · cases hz
  · cases hz
theorem cr_sum' (hK : X.K = S.K) (hc : X.calm = true) : CallR X (.builtin "sum") (rBi S .sum) := by
  intro pins s σ H xs us Q I r hq
  obtain ⟨g, h, ds, z, R, w, hz, k⟩ := hq
  unfold Ev.biF at hz
  split at hz <;> rename_i hb <;> try (first | (cases hb; done) | (cases hz; done))
  rename_i d
  obtain ⟨v, rfl, vd⟩ := VDs.one_of w
  have vh := shal_vh R vd
  split at hz
  · rename_i t q1
    rw [q1] at vh
    obtain ⟨a, vs, e1, q2, w2⟩ := vh
    obtain ⟨l, e2, e3⟩ := Option.map_eq_some_iff.mp hz
    subst e3
    have := VDs.intsD e2 w2
    subst this
    exact cr_sum hc pins s σ H _ us Q I r ⟨a, l, by rw [e1], .of q2, k _ g H (Step.refl R) R rfl⟩
  · cases hz
theorem cr_all' (hK : X.K = S.K) (hc : X.calm = true) : CallR X (.builtin "all") (rBi S .all) := by
  intro pins s σ H xs us Q I r hq
  obtain ⟨g, h, ds, z, R, w, hz, k⟩ := hq
  unfold Ev.biF at hz
  split at hz <;> rename_i hb <;> try (first | (cases hb; done) | (cases hz; done))
  rename_i d
  obtain ⟨v, rfl, vd⟩ := VDs.one_of w
  have vh := shal_vh R vd
  split at hz
  · rename_i t q1
    rw [q1] at vh
    obtain ⟨a, vs, e1, q2, w2⟩ := vh
    obtain ⟨l, e2, e3⟩ := Option.map_eq_some_iff.mp hz
    subst e3
    have := VDs.bools e2 w2
    subst this
    exact cr_all hc pins s σ H _ us Q I r ⟨a, l, by rw [e1], .of q2, k _ g H (Step.refl R) R rfl⟩
  · cases hz
theorem cr_any' (hK : X.K = S.K) (hc : X.calm = true) : CallR X (.builtin "any") (rBi S .any) := by
  intro pins s σ H xs us Q I r hq
  obtain ⟨g, h, ds, z, R, w, hz, k⟩ := hq
  unfold Ev.biF at hz
  split at hz <;> rename_i hb <;> try (first | (cases hb; done) | (cases hz; done))
  rename_i d
  obtain ⟨v, rfl, vd⟩ := VDs.one_of w
  have vh := shal_vh R vd
  split at hz
  · rename_i t q1
    rw [q1] at vh
    obtain ⟨a, vs, e1, q2, w2⟩ := vh
    obtain ⟨l, e2, e3⟩ := Option.map_eq_some_iff.mp hz
    subst e3
    have := VDs.bools e2 w2
    subst this
    exact cr_any hc pins s σ H _ us Q I r ⟨a, l, by rw [e1], .of q2, k _ g H (Step.refl R) R rfl⟩
  · cases hz
theorem ints_cons {t : List D} {x : D} {l : List Int} (h : Ev.intsD (x :: t) = some l) : 0 < l.length := by
  cases x with
  | int i =>
    rw [Ev.intsD] at h
    obtain ⟨l', _, e⟩ := Option.map_eq_some_iff.mp h
    subst e; simp
  | _ => simp [Ev.intsD] at h
theorem cr_max1 (hK : X.K = S.K) (hc : X.calm = true) : CallR X (.builtin "max") (rBi S .max1) := by
  intro pins s σ H xs us Q I r hq
  obtain ⟨g, h, ds, z, R, w, hz, k⟩ := hq
  unfold Ev.biF at hz
  split at hz <;> rename_i hb <;> try (first | (cases hb; done) | (cases hz; done))
  rename_i d
  obtain ⟨v, rfl, vd⟩ := VDs.one_of w
  have vh := shal_vh R vd
  split at hz
  · rename_i x t q1
    rw [q1] at vh
    obtain ⟨a, vs, e1, q2, w2⟩ := vh
    obtain ⟨l, e2, e3⟩ := Option.map_eq_some_iff.mp hz
    subst e3
    have := VDs.intsD e2 w2
    subst this
    exact cr_max hc pins s σ H _ us Q I r ⟨a, l, by rw [e1], .of q2, ints_cons e2, fun m m1 m2 => by rw [max_uniq m1 m2]; exact k _ g H (Step.refl R) R rfl⟩
  · cases hz
theorem cr_min1 (hK : X.K = S.K) (hc : X.calm = true) : CallR X (.builtin "min") (rBi S .min1) := by
  intro pins s σ H xs us Q I r hq
  obtain ⟨g, h, ds, z, R, w, hz, k⟩ := hq
  unfold Ev.biF at hz
  split at hz <;> rename_i hb <;> try (first | (cases hb; done) | (cases hz; done))
  rename_i d
  obtain ⟨v, rfl, vd⟩ := VDs.one_of w
  have vh := shal_vh R vd
  split at hz
  · rename_i x t q1
    rw [q1] at vh
    obtain ⟨a, vs, e1, q2, w2⟩ := vh
    obtain ⟨l, e2, e3⟩ := Option.map_eq_some_iff.mp hz
    subst e3
    have := VDs.intsD e2 w2
    subst this
    exact cr_min hc pins s σ H _ us Q I r ⟨a, l, by rw [e1], .of q2, ints_cons e2, fun m m1 m2 => by rw [min_uniq m1 m2]; exact k _ g H (Step.refl R) R rfl⟩
  · cases hz
theorem cr_max2 (hc : X.calm = true) : CallR X (.builtin "max") (rBi S .max2) := by
  intro pins s σ H xs us Q I r hq
  obtain ⟨g, h, ds, z, R, w, hz, k⟩ := hq
  unfold Ev.biF at hz
  split at hz <;> rename_i hb <;> try (first | (cases hb; done) | (cases hz; done))
  rename_i i j
  obtain ⟨v, u, rfl, v1, v2⟩ := VDs.two_of w
  cases v1; cases v2; cases hz
  exact call_max2 hc pins s σ H _ us Q I r ⟨i, j, rfl, k _ g H (Step.refl R) R rfl⟩
theorem cr_min2 (hc : X.calm = true) : CallR X (.builtin "min") (rBi S .min2) := by
  intro pins s σ H xs us Q I r hq
  obtain ⟨g, h, ds, z, R, w, hz, k⟩ := hq
  unfold Ev.biF at hz
  split at hz <;> rename_i hb <;> try (first | (cases hb; done) | (cases hz; done))
  rename_i i j
  obtain ⟨v, u, rfl, v1, v2⟩ := VDs.two_of w
  cases v1; cases v2; cases hz
  exact call_min2 hc pins s σ H _ us Q I r ⟨i, j, rfl, k _ g H (Step.refl R) R rfl⟩
theorem cr_tuple (hK : X.K = S.K) : CallR X (.type "tuple") (rBi S .tuple_) := by
  intro pins s σ H xs us Q I r hq
  obtain ⟨g, h, ds, z, R, w, hz, k⟩ := hq
  unfold Ev.biF at hz
  split at hz <;> rename_i hb <;> try (first | (cases hb; done) | (cases hz; done))
  rename_i d
  obtain ⟨v, rfl, vd⟩ := VDs.one_of w
  have vh := shal_vh R vd
  split at hz
  · rename_i t q1
    rw [q1] at vh
    obtain ⟨a, vs, e1, q2, w2⟩ := id vh
    subst e1
    cases hz
    exact call_tuple_of pins s σ H _ us Q I r ⟨a, vs, rfl, .inr ⟨by rw [hK]; exact sqT_mono R.fz q2, k _ g H (Step.refl R) R vh⟩⟩
  · rename_i t q1
    rw [q1] at vh
    obtain ⟨a, vs, e1, q2, w2⟩ := vh
    subst e1
    cases hz
    refine call_tuple_of pins s σ H _ us Q I r ⟨a, vs, rfl, .inl ⟨.of q2, fun p hp => ?_⟩⟩
    obtain ⟨g', r', st, vd'⟩ := new_tup R hp w2
    exact k _ g' _ st r' vd'
  · cases hz

/-! ### methods of lists -/
def rMt (S : Sx) (m : Mt) : V → List V → L2.Hp → VK → Prop := fun x xs H Q => ∃ g h d ds z h2, Rel S g h H ∧ VD S g d x ∧ VDs S g ds xs ∧ Ev.mtb m d ds h = some (z, h2) ∧ ∀ v g' H', Step g h H g' h2 H' → Rel S g' h2 H' → VD S g' z v → Q v H'
/-- a box that is changed -/
theorem mtf_box {m : Mt} {z : D} {h2 : Mem} (hz : Ev.mtb m d ds h = some (z, h2)) : ∃ n xs, d = .loc n ∧ h[n]? = some (.box (.lst xs)) := by
  unfold Ev.mtb at hz
  split at hz
  · split at hz
    · exact ⟨_, _, rfl, by assumption⟩
    · cases hz
  · cases hz
theorem box_at {t : List D} (R : Rel S g h H) (vd : VD S g (.loc n) x) (q : h[n]? = some (.box (.lst t))) : ∃ a vs, x = .ref a ∧ g.μ[n]? = some a ∧ H a = some (.lst vs) ∧ VDs S g t vs ∧ live h n := by
  obtain ⟨a, e, q1⟩ := vd
  obtain ⟨vs, e1, e2⟩ := R.ob n a _ q1 q
  exact ⟨a, vs, e, q1, e1, e2, _, q, by intro z; cases z⟩
theorem mt_append' : MtM X "list.append" (rMt S .append) := by
  intro pins s σ H x xs v us Q I rx rxs hq
  obtain ⟨g, h, d, ds, z, h2, R, vd, w, hz, k⟩ := hq
  obtain ⟨n, t, rfl, q1⟩ := mtf_box hz
  obtain ⟨a, vs, rfl, q2, q3, w2, lv⟩ := box_at R vd q1
  simp only [Ev.mtb, q1] at hz
  split at hz <;> rename_i hb <;> try (first | (cases hb; done) | (cases hz; done))
  rename_i e
  split at hz
  · rename_i hl
    cases hz
    obtain ⟨y, rfl, vy⟩ := VDs.one_of w
    have w3 := w2.append (VDs.one vy)
    exact mt_append pins s σ H _ _ v us Q I rx rxs ⟨a, vs, y, rfl, rfl, q3, by rw [← VDs.length w2]; exact Nat.lt_of_lt_of_le hl lim_line,
      k _ g _ (Step.write R q2 lv) (R.write q2 lv w3) rfl⟩
  · cases hz
theorem mt_extend' (hK : X.K = S.K) : MtM X "list.extend" (rMt S .extend) := by
  intro pins s σ H x xs v us Q I rx rxs hq
  obtain ⟨g, h, d, ds, z, h2, R, vd, w, hz, k⟩ := hq
  obtain ⟨n, t, rfl, q1⟩ := mtf_box hz
  obtain ⟨a, vs, rfl, q2, q3, w2, lv⟩ := box_at R vd q1
  simp only [Ev.mtb, q1] at hz
  split at hz <;> rename_i hb <;> try (first | (cases hb; done) | (cases hz; done))
  rename_i e
  obtain ⟨y, rfl, vy⟩ := VDs.one_of w
  have vh := shal_vh R vy
  split at hz
  · rename_i t2 q4
    rw [q4] at vh
    obtain ⟨b, ws, rfl, q5, w4⟩ := vh
    split at hz
    · rename_i hl
      cases hz
      have w3 := w2.append w4
      exact mt_extend pins s σ H _ _ v us Q I rx rxs ⟨a, b, vs, ws, rfl, rfl, q3, q5, by rw [← VDs.length w2, ← VDs.length w4]; exact lim_of hl,
        k _ g _ (Step.write R q2 lv) (R.write q2 lv w3) rfl⟩
    · cases hz
  · cases hz
theorem mt_pop' : MtM X "list.pop" (rMt S .pop0) := by
  intro pins s σ H x xs v us Q I rx rxs hq
  obtain ⟨g, h, d, ds, z, h2, R, vd, w, hz, k⟩ := hq
  obtain ⟨n, t, rfl, q1⟩ := mtf_box hz
  obtain ⟨a, vs, rfl, q2, q3, w2, lv⟩ := box_at R vd q1
  simp only [Ev.mtb, q1] at hz
  split at hz <;> rename_i hb <;> try (first | (cases hb; done) | (cases hz; done))
  split at hz
  · rename_i y q4
    cases hz
    cases w
    rw [List.getLast?_eq_getElem?] at q4
    obtain ⟨u, e1, e2⟩ := VDs.get w2 q4
    rw [VDs.length w2] at e1
    exact mt_pop pins s σ H _ _ v us Q I rx rxs ⟨a, vs, u, rfl, rfl, q3, e1, k _ g _ (Step.write R q2 lv) (R.write q2 lv w2.dropLast) e2⟩
  · cases hz
theorem ixN_seq (n : Nat) (i : Int) (k : Nat) (h : Ev.ixN n i = some k) : seqIndex? i n = some k := by
  have e : atI (List.range n) i = some k := by
    unfold atI
    have e1 : L2.ixN (List.range n).length i = some k := by rw [List.length_range]; exact h
    rw [e1]
    show (List.range n)[k]? = some k
    have hk : k < n := by
      unfold Ev.ixN at h
      split at h
      · split at h
        · cases h; omega
        · cases h
      · split at h
        · cases h; omega
        · cases h
    simp [hk]
  obtain ⟨j, q1, q2, _⟩ := atI_get e
  rw [List.length_range] at q1
  have : j = k := by
    rw [List.getElem?_range] at q2
    · exact Option.some.inj q2
    · have := (List.getElem?_eq_some_iff.mp q2).1
      simpa using this
  rw [q1, this]
theorem ixN_small {n : Nat} {i : Int} {k : Nat} (hn : n ≤ sizeLine) (h : Ev.ixN n i = some k) : -(2 ^ 63) ≤ i ∧ i < 2 ^ 63 := by
  have hs : (sizeLine : Int) < 2 ^ 62 := by rw [sizeLine_eq]; decide
  unfold Ev.ixN at h
  split at h
  · split at h
    · omega
    · cases h
  · split at h
    · omega
    · cases h
theorem mt_popAt' : MtM X "list.pop" (rMt S .pop1) := by
  intro pins s σ H x xs v us Q I rx rxs hq
  obtain ⟨g, h, d, ds, z, h2, R, vd, w, hz, k⟩ := hq
  obtain ⟨n, t, rfl, q1⟩ := mtf_box hz
  obtain ⟨a, vs, rfl, q2, q3, w2, lv⟩ := box_at R vd q1
  simp only [Ev.mtb, q1] at hz
  split at hz <;> rename_i hb <;> try (first | (cases hb; done) | (cases hz; done))
  rename_i i
  split at hz
  · rename_i j q4
    split at hz
    · rename_i y q5
      cases hz
      obtain ⟨yv, rfl, vy⟩ := VDs.one_of w
      cases vy
      obtain ⟨u, e1, e2⟩ := VDs.get w2 q5
      rw [VDs.length w2] at q4
      have hl : vs.length ≤ sizeLine := by
        obtain ⟨z, _⟩ := I.hok a _ q3
        exact z
      obtain ⟨s1, s2⟩ := ixN_small hl q4
      exact mt_popAt pins s σ H _ _ v us Q I rx rxs ⟨a, vs, i, j, u, rfl, rfl, q3, s1, s2, ixN_seq _ _ _ q4, e1, k _ g _ (Step.write R q2 lv) (R.write q2 lv (w2.erase j)) e2⟩
    · cases hz
  · cases hz
end
end So
end
section
set_option Elab.async false
set_option autoImplicit false
set_option linter.all false
/-! S6: sorted, list(..), rows backwards, repeated. -/
namespace So
open PySem PySem.Spec PyProof.Rows L2 PySem.W
open Ev (D Ob Mem Fr R RS RL RB Bop Cop Bi Mt)

section
variable {S : Sx} {g g' : G} {h h' : Mem} {H H' : L2.Hp} {a p : Addr} {d e : D} {ds : List D} {v x y : V} {vs : List V} {n : Nat} {X : Cx}

theorem each_vd : ∀ {ds : List D} {vs : List V} {us : List Value}, VDs S g ds vs → Vals vs us → EachIs (fun u d => ∃ v, RelV v u ∧ VD S g d v) us ds
  | [], _, _, w, r => by cases w; cases r; exact .nil
  | d :: ds, _, _, ⟨v, vr, e, h1, h2⟩, r => by
    subst e
    cases r with
    | cons r1 r2 => exact .cons ⟨v, r1, h1⟩ (each_vd h2 r2)
theorem vd_each : ∀ {ds : List D} {us : List Value}, EachIs (fun u d => ∃ v, RelV v u ∧ VD S g d v) us ds → ∃ vs, VDs S g ds vs ∧ Vals vs us
  | _, _, .nil => ⟨[], rfl, .nil⟩
  | _, _, .cons ⟨v, r, h1⟩ t => by
    obtain ⟨vs, w, rs⟩ := vd_each t
    exact ⟨v :: vs, VDs.cons h1 w, .cons r rs⟩
theorem pures_mem : ∀ {ds : List D}, D.pures ds = true → ∀ d ∈ ds, d.pure = true
  | [], _, d, h => by simp at h
  | x :: xs, p, d, h => by
    rw [D.pures, Bool.and_eq_true] at p
    rcases List.mem_cons.mp h with z | z
    · subst z; exact p.1
    · exact pures_mem p.2 d z
theorem deps_mem : ∀ {ds : List D}, ∀ d ∈ ds, d.dep ≤ D.deps ds
  | x :: xs, d, h => by
    rw [D.deps]
    rcases List.mem_cons.mp h with z | z
    · subst z; exact Nat.le_max_left ..
    · exact Nat.le_trans (deps_mem d z) (Nat.le_max_right ..)
theorem EachIs.weak {α β : Type} {R R' : α → β → Prop} {as : List α} {bs : List β} (e : EachIs R as bs) (k : ∀ a b, b ∈ bs → R a b → R' a b) : EachIs R' as bs := by
  induction e with
  | nil => exact .nil
  | cons h t ih => exact .cons (k _ _ List.mem_cons_self h) (ih fun a b hb => k a b (List.mem_cons_of_mem _ hb))

theorem call_sorted (hK : X.K = S.K) (hu : X.A.units + 70 < cLine) : CallR X (.builtin "sorted") (fun xs H Q => ∃ g h a vs ds, Rel S g h H ∧ xs = [.ref a] ∧ H a = some (.lst vs) ∧ VDs S g ds vs ∧ Ev.canSort ds = true ∧ ds.length ≤ Ev.LIM ∧
    ∀ p ws, H p = none → VDs S g (Ev.sortD ds) ws → Q (.ref p) (upd H p (.lst ws))) := by
  intro pins s σ H xs us Q I r hq
  obtain ⟨g, h, a, vs, ds, R, rfl, hA, w, hs, hl, k⟩ := hq
  obtain ⟨u, rfl, ru⟩ := vals1 r
  cases ru
  unfold Ev.canSort at hs
  simp only [Bool.and_eq_true, Bool.or_eq_true, decide_eq_true_eq] at hs
  obtain ⟨⟨⟨p1, p2⟩, p3⟩, p4⟩ := hs
  have pm := pures_mem p1
  obtain ⟨its, rv, pl, hz⟩ := I.list (.of hA)
  have e := each_vd w rv
  refine sorted_data (enc := toP) pl.isList e (EachIs.weak e fun u d hd ⟨v, rv, vd⟩ => Dp.reads I (toP d) v u (by rw [hK]; exact VD.dp R.fz d v (pm d hd) vd) rv) (fun x hx y hy => ?_) ?_ (lim_of hl) (fun b hb => ?_) fun out hlen ho => ?_
  · obtain ⟨x, h1, rfl⟩ := List.mem_map.mp hx
    obtain ⟨y, h2, rfl⟩ := List.mem_map.mp hy
    exact alike_p x y (pm x h1) (pm y h2) (List.all_eq_true.mp (List.all_eq_true.mp p3 x h1) y h2)
  · rcases p4 with p4 | p4
    · refine .inl fun x hx => ?_
      obtain ⟨x, h1, rfl⟩ := List.mem_map.mp hx
      have := List.all_eq_true.mp p4 x h1
      cases x with
      | tup l =>
        cases l with
        | nil => simp at this
        | cons b l => exact ⟨toP b, toPs l, by simp [toP, toPs]⟩
      | _ => simp at this
    · refine .inr fun x hx => ?_
      obtain ⟨x, h1, rfl⟩ := List.mem_map.mp hx
      have := List.all_eq_true.mp p4 x h1
      cases x with
      | int i => exact ⟨by simp [toP], fun l => by simp [toP]⟩
      | str i => exact ⟨by simp [toP], fun l => by simp [toP]⟩
      | _ => simp at this
  · have h1 := dep_p b (pm b hb)
    have h2 := deps_mem b hb
    omega
  · have es : ds.mergeSort (dataLe false toP) = Ev.sortD ds := by
      unfold Ev.sortD
      have : ∀ x ∈ ds, ∀ y ∈ ds, dataLe false toP x y = !(y.lt x) := fun x hx y hy => by
        rw [lt_p (pm y hy) (pm x hx)]
        rfl
      -- both orders agree on the items
      exact sort_congr this
    rw [es] at ho
    obtain ⟨ws, w2, r2⟩ := vd_each ho
    obtain ⟨c, hc⟩ := sortedAll_at s.heap its out.toArray
    refine ⟨.ref (s.heap.objs.size + 1), upd H (s.heap.objs.size + 1) (.lst ws), I.laid (t' := s.toks) (fun b o q => sortedAll_old q) (Nat.le_succ _) ?_, rfl, k _ ws (I.hok.fresh (Nat.le_succ _)) w2⟩
    refine ⟨?_, out, c, r2, hc⟩
    rw [← VDs.length w2]
    have : (Ev.sortD ds).length = ds.length := by unfold Ev.sortD; exact List.length_mergeSort _
    rw [this]
    exact lim_of hl
end
end So
end
section
set_option Elab.async false
set_option autoImplicit false
set_option linter.all false
/-! S7: that a core text is the given text: Boolean checks; the context. -/
namespace So
open PySem PySem.Spec PyProof.Rows L2
open Ev (D Ob Mem Fr R RS RL RB Bop Cop Bi Mt CE CEs CT CTs FE Src CO Tg Tgs)

structure Sc where
  N : List Str
  nm : List (Str × NameKind)
  oc : List (Str × NameKind)
  gl : List Str
  fs : List Str
  /-- the classes' names; for each the places of its subclasses; those that may be raised with a text -/
  xs : List Str
  sub : List (List Nat)
  rz : List Nat
def visB (sc : Sc) (x : Str) : Bool := match sc.nm.lookup x with | some .local => true | some .cell => true | some .free => true | _ => false
def locB (sc : Sc) (x : Str) : Bool := match sc.oc.lookup x with | some .local => true | some .cell => true | _ => false
def glB (sc : Sc) (x : Str) : Bool := decide (sc.nm.lookup x = some .globalImplicit) && !(x == ("__debug__" : Str))
def varB (sc : Sc) (i : Nat) (x : Str) : Bool := decide (sc.N[i]? = some x) && visB sc x && !(x == ("__debug__" : Str)) && !(x == ("__classdict__" : Str))
def ckC : D → Const → Bool
  | .non, .none => true
  | .bl a, .bool b => a == b
  | .int a, .int b => decide (a = b)
  | .str s, .str x => decide (tx s = x) && s.all fun c => decide (c < 1114112)
  | _, _ => false
def biN : Bi → Str
  | .len => "len" | .abs => "abs" | .int_ => "int" | .str_ => "str" | .repr => "repr" | .sum => "sum" | .max1 => "max" | .max2 => "max" | .min1 => "min" | .min2 => "min" | .all => "all" | .any => "any" | .tuple_ => "tuple" | .lenset => "" | .join => ""
def mtN : Mt → Str
  | .append => "append" | .extend => "extend" | .pop0 => "pop" | .pop1 => "pop" | .index => "" | .count => ""
def mtArgs (m : Mt) (vs : List Expr) : Bool := match m with | .pop0 => vs.isEmpty | _ => !vs.isEmpty
def noStar : List Expr → Bool
  | [] => true
  | .Starred _ _ :: _ => false
  | _ :: r => noStar r
def plainE : Expr → Bool
  | .BoolOp .. => false
  | .UnaryOp .Not _ _ => false
  | .IfExp .. => false
  | .Compare .. => false
  | _ => true
def isSlice : Expr → Bool | .Slice .. => true | _ => false
def isSet : Expr → Bool | .Set .. => true | _ => false
def isT : Expr → Bool | .Tuple .. => true | _ => false
def isSub : Expr → Bool | .Subscript .. => true | _ => false
def plainO : Expr → Bool | .Call .. => false | _ => true
/-- the names of a comprehension, with their slots -/
def tgOwn : Tg → Expr → List (Str × Nat)
  | .nm i, .Name x _ => [(x, i)]
  | .tp ts, .Tuple es _ _ => tgsOwn ts es
  | _, _ => []
where tgsOwn : Tgs → List Expr → List (Str × Nat)
  | .cons t ts, e :: es => (match t, e with | .nm i, .Name x _ => [(x, i)] | _, _ => []) ++ tgsOwn ts es
  | _, _ => []
mutual
def tslots : Tg → List Nat
  | .nm i => [i]
  | .tp ts => tsslots ts
def tsslots : Tgs → List Nat
  | .nil => []
  | .cons t ts => tslots t ++ tsslots ts
end
def blkSc (sc : Sc) (scope : Scope) : Sc := { sc with oc := scope.names, nm := scope.names.map fun (n, k) => if (k == .free && sc.nm.lookup n == some .cell) then (n, .cell) else (n, k) }
def scScope (sc : Sc) : Scope := { kind := .function, names := sc.nm, isGenerator := false, isCoroutine := false }

mutual
def ckTg (sc : Sc) : Tg → Expr → Bool
  | .nm i, .Name x _ => decide (sc.N[i]? = some x) && locB sc x
  | .tp ts, .Tuple es _ _ => ckTgs sc ts es
  | _, _ => false
def ckTgs (sc : Sc) : Tgs → List Expr → Bool
  | .nil, [] => true
  | .cons t ts, e :: es => ckTg sc t e && noStar [e] && ckTgs sc ts es
  | _, _ => false
end
mutual
def ckE (sc : Sc) : CE → Expr → Bool
  | .c d, .Constant c _ _ => ckC d c
  | .v i, .Name x _ => varB sc i x
  | .g i, .Name x _ => decide (sc.gl[i]? = some x) && glB sc x
  | .f i, .Name x _ => decide (sc.fs[i]? = some x) && glB sc x
  | .bin o a b, .BinOp x o' y _ => decide (bo o = o') && ckE sc a x && ckE sc b y
  | .neg a, .UnaryOp .USub x _ => ckE sc a x
  | .cmp o a b, .Compare x [o'] [y] _ => decide (co o = o') && !isSet y && ckE sc a x && ckE sc b y
  | .chn o p a b c, .Compare x [o', p'] [y, z] _ => decide (co o = o') && decide (co p = p') && !isSet y && !isSet z && ckE sc a x && ckE sc b y && ckE sc c z
  | .and es, .BoolOp .And vs _ => ckB sc es vs
  | .or es, .BoolOp .Or vs _ => ckB sc es vs
  | .not a, .UnaryOp .Not x _ => ckE sc a x
  | .ite t a b, .IfExp x y z _ => ckT sc t x && ckE sc a y && ckE sc b z
  | .tup es, .Tuple vs _ _ => ckL sc es vs
  | .fr e, x => ckF sc e x
  | .nw e, x => ckF sc e x
  | .ix a b, .Subscript x y _ => !isSlice y && ckE sc a x && ckE sc b y
  | .sl a lo hi, .Subscript x (.Slice l u none _) _ => ckE sc a x && ckO sc lo l && ckO sc hi u
  | .call f es, .Call (.Name x _) vs [] _ => decide (sc.fs[f]? = some x) && glB sc x && noStar vs && ckL sc es vs
  | .callv g es, .Call x vs [] _ => isSub x && noStar vs && !vs.isEmpty && ckE sc g x && ckL sc es vs
  | .bi .lenset (.cons a .nil), .Call (.Name x _) [.Call (.Name y _) [v] [] _] [] _ => decide (x = "len") && glB sc x && decide (y = "set") && glB sc y && noStar [v] && ckE sc a v
  | .bi b es, .Call (.Name x _) vs [] _ => decide (biN b = x) && glB sc x && !(x == ("" : Str)) && noStar vs && !vs.isEmpty && ckL sc es vs
  | .mt m o es, .Call (.Attribute x n ap) vs [] p => decide (mtN m = n) && !(n == ("" : Str)) && plainO x && noStar vs && (ap.endLine == p.line) && decide (vs.length ≤ 1) && mtArgs m vs && ckE sc o x && ckL sc es vs
  | .frz a, x => ckE sc a x
  | _, _ => false
def ckO (sc : Sc) : CO → Option Expr → Bool
  | .no, none => true
  | .so a, some x => ckE sc a x
  | _, _ => false
def ckB (sc : Sc) : CEs → List Expr → Bool
  | .cons e .nil, [x] => ckE sc e x
  | .cons e es, x :: y :: xs => ckE sc e x && ckB sc es (y :: xs)
  | _, _ => false
def ckL (sc : Sc) : CEs → List Expr → Bool
  | .nil, [] => true
  | .cons e es, x :: xs => noStar [x] && ckE sc e x && ckL sc es xs
  | .star e es, .Starred x _ :: xs => ckE sc e x && ckL sc es xs
  | _, _ => false
def ckT (sc : Sc) : CT → Expr → Bool
  | .e (.cmp o a b), .Compare x [o'] [y] _ => decide (co o = o') && !isSet y && ckE sc a x && ckE sc b y
  | .e (.chn o p a b c), .Compare x [o', p'] [y, z] _ => decide (co o = o') && decide (co p = p') && !isSet y && !isSet z && ckE sc a x && ckE sc b y && ckE sc c z
  | .e a, x => plainE x && ckE sc a x
  | .and ts, .BoolOp .And vs _ => ckTB sc ts vs
  | .or ts, .BoolOp .Or vs _ => ckTB sc ts vs
  | .not t, .UnaryOp .Not x _ => ckT sc t x
  | _, _ => false
def ckTB (sc : Sc) : CTs → List Expr → Bool
  | .cons e .nil, [x] => ckT sc e x
  | .cons e es, x :: y :: xs => ckT sc e x && ckTB sc es (y :: xs)
  | _, _ => false
def ckF (sc : Sc) : FE → Expr → Bool
  | .lst es, .List vs _ => ckL sc es vs
  | .lc e t s c, .ListComp x [⟨tg, it, ifs, a⟩] scope _ => decide (a = 0) && blkC sc.N (scScope sc) scope (tgOwn t tg) && decide ((tgOwn t tg).map (·.2) = tslots t) && ckTg (blkSc sc scope) t tg && ckSrc sc (isT tg) s it && ckE (blkSc sc scope) e x && (match ifs with | [] => (match c with | .yes => true | _ => false) | [i] => ckT (blkSc sc scope) c i | _ => false)
  | .sorted a, .Call (.Name x _) [y] [] _ => decide (x = "sorted") && glB sc x && noStar [y] && ckE sc a y
  | .sortset a, .Call (.Name x _) [.Call (.Name y _) [v] [] _] [] _ => decide (x = "sorted") && glB sc x && decide (y = "set") && glB sc y && noStar [v] && ckE sc a v
  | .sortdict e t s c, .Call (.Name n _) [.DictComp x (.Constant (.bool true) _ _) [⟨tg, it, ifs, a⟩] scope _] [] _ => decide (n = "sorted") && glB sc n && decide (a = 0) && blkC sc.N (scScope sc) scope (tgOwn t tg) && decide ((tgOwn t tg).map (·.2) = tslots t) && ckTg (blkSc sc scope) t tg && ckSrc sc (isT tg) s it && ckE (blkSc sc scope) e x && (match ifs with | [] => (match c with | .yes => true | _ => false) | [i] => ckT (blkSc sc scope) c i | _ => false)
  | .list_ a, .Call (.Name x _) [y] [] _ => decide (x = "list") && glB sc x && noStar [y] && ckE sc a y
  | .rev a, .Subscript x (.Slice none none (some (.UnaryOp .USub (.Constant (.int 1) _ _) _)) _) _ => ckE sc a x
  | .rep a b, .BinOp x .Mult y _ => ckE sc a x && ckE sc b y
  | _, _ => false
def ckSrc (sc : Sc) (tp : Bool) : Src → Expr → Bool
  | .it e, x => !isSet x && ckE sc e x
  | .rng es, .Call (.Name x _) vs [] _ => decide (x = "range") && glB sc x && noStar vs && !vs.isEmpty && decide (vs.length ≤ 3) && ckL sc es vs
  | .zip es, .Call (.Name x _) [v, w] [] _ => tp && decide (x = "zip") && glB sc x && noStar [v, w] && ckL sc es [v, w]
  | _, _ => false
end

/-! ### the context -/
/-- what is fixed for the whole run -/
structure Tx where
  P : Program
  w : World
  mg : Str → Option Value
  base : Heap
  S : Sx
  Pg : Ev.Prog
  gl : List Str
  fs : List Str
  xs : List Str
  sub : List (List Nat)
  rz : List Nat
/-- a def's promise at a level -/
def RunOk (T : Tx) (k f : Nat) : Prop := ∀ (A : Around) (outer : List Env) (s : Shared) (H : L2.Hp) (us : List Value) (vs : List V) (g : G) (h : Mem) (ds : List D) (Q : VK) (E : XK),
  Room k A → A.guards = some [] → Env0 T.P T.w T.S.K T.mg T.base A outer s H → Vals vs us → Rel T.S g h H → VDs T.S g ds vs → OutE T.S (fun c d _ H => E c d H) [] g h H Q (Ev.callF T.Pg k f ds h) →
  codeAny (model T.P T.w) A (.call (.ref (T.S.fa f)) ⟨us, []⟩) (CR (L2N.CX T.P T.w) outer T.P T.w H s Q E) s
/-- what a def of the suites promises, called with the exception that is handled -/
def ErrOk (T : Tx) : Prop := ∀ (f c : Nat) (d : D), T.Pg.errT f c = some d → ∀ (A : Around) (outer : List Env) (s : Shared) (H : L2.Hp) (p : Addr × Obj) (g : G) (h : Mem) (Q : VK) (E : XK),
  L2H.RoomH 1 A → A.guards = some [] → L2H.Hot1 A p → L2H.PinOk outer H s p → Env0 T.P T.w T.S.K T.mg T.base A outer s H → p.2.cls = .ref (T.S.ca c) → p.2.dict = none → Rel T.S g h H →
  (∀ v g' H', Step g h H g' h H' → Rel T.S g' h H' → VD T.S g' d v → Q v H') →
  codeAny (model T.P T.w) A (.call (.ref (T.S.fa f)) ⟨[.ref p.1], []⟩) (CR (L2N.CX T.P T.w) outer T.P T.w H s Q E) s
/-- a class that a raise names -/
structure RzOk (T : Tx) (c : Nat) (x : Str) : Prop where
  mg : T.mg x = some (.ref (T.S.ca c))
  kp : PySem.W.keepIn T.S.K (.ref (T.S.ca c)) = true
  ex : ∃ B newId initId bmB, ExcBaseFacts B newId initId bmB ∧ PySem.W.excIn T.S.K (T.S.ca c) bmB newId = true
  sub : PySem.W.subIn T.S.K (.ref (T.S.ca c)) (.type "BaseException") = some true
  ty : PySem.W.typeIn T.S.K (.ref (T.S.ca c)) = some (.type "type")
def used : List Str := ["len", "abs", "int", "str", "repr", "sum", "max", "min", "all", "any", "tuple", "list", "sorted", "range", "set", "zip"]
structure TOk (T : Tx) (k : Nat) : Prop where
  glob : ∀ (i : Nat) x d, T.gl[i]? = some x → T.Pg.glob[i]? = some d → ∃ u v, T.mg x = some u ∧ RelV v u ∧ ∀ g, VD T.S g d v
  defs : ∀ (f : Nat) x, T.fs[f]? = some x → T.mg x = some (.ref (T.S.fa f)) ∧ PySem.W.keepIn T.S.K (.ref (T.S.fa f)) = true
  kp : ∀ f : Nat, PySem.W.keepIn T.S.K (.ref (T.S.fa f)) = true
  blt : ∀ x ∈ used, T.mg x = none
  run : ∀ f, RunOk T k f
  nx : T.Pg.nx = T.xs.length
  rz : ∀ c ∈ T.rz, ∀ x, T.xs[c]? = some x → RzOk T c x
  xn : ∀ (j : Nat) x, T.xs[j]? = some x → T.mg x = some (.ref (T.S.ca j))
  exm : ∀ (j c : Nat) cs, T.sub[j]? = some cs → c < T.xs.length → PySem.W.exmOne T.S.K (.ref (T.S.ca c)) (.ref (T.S.ca j)) = some (cs.contains c)
  sbl : ∀ (j c : Nat) cs, T.sub[j]? = some cs → cs.contains c = true → c < T.xs.length
  err : ErrOk T
structure Cxt (T : Tx) (k : Nat) (X : Cx) (W : WX) (sc : Sc) : Prop where
  ok : TOk T k
  prog : X.prog = T.P
  w : X.w = T.w
  K : X.K = T.S.K
  mg : X.mg = T.mg
  base : X.base = T.base
  N : X.N = sc.N
  nd : sc.N.Nodup
  nm : X.env.scope.names = sc.nm
  kind : X.env.scope.kind = .function
  oc : ∀ x, locB sc x = true → Loc X.env.scope x ∧ (X.fn x = true ∨ X.env.scope.names.lookup x = some .local)
  gl : sc.gl = T.gl
  fs : sc.fs = T.fs
  xs : sc.xs = T.xs
  sub : sc.sub = T.sub
  rz : sc.rz = T.rz
  calm : X.calm = true
  tk : L2N.Takes X W
  po : PassesOwn (model X.prog X.w) X.A X.env X.xe
  gd : X.A.guards = some []
  rm : Room k X.A
/-- the evaluator's context at a level -/
def Tx.cx (T : Tx) (k : Nat) : Ev.Cx := T.Pg.cx k (Ev.callF T.Pg k)

section
variable {T : Tx} {k : Nat} {X : Cx} {W : WX} {sc : Sc}
theorem Cxt.gl_of (c : Cxt T k X W sc) {x : Str} (h : glB sc x = true) : Gl X x ∧ (x == ("__debug__" : Str)) = false := by
  unfold glB at h
  simp only [Bool.and_eq_true, decide_eq_true_eq, Bool.not_eq_true'] at h
  refine ⟨?_, h.2⟩
  show X.env.scope.names.lookup x = _
  rw [c.nm]; exact h.1
theorem Cxt.units (c : Cxt T k X W sc) : X.A.units + 200 < cLine := by
  have := c.rm.un
  omega
theorem noStar_any : ∀ {vs : List Expr} {env : Env} {pos : Pos}, noStar vs = true → (backTo pos (starEach vs env)).any (·.1) = false
  | [], _, _, _ => rfl
  | v :: r, env, pos, h => by
    have ih : noStar r = true := by cases v <;> first | exact h | (simp [noStar] at h)
    have := noStar_any (env := env) (pos := pos) ih
    cases v <;> first | exact this | (simp [noStar] at h)
theorem noStar_cons {v : Expr} {r : List Expr} {env : Env} (h : noStar [v] = true) : starEach (v :: r) env = (false, eval v env) :: starEach r env := by
  cases v <;> first | rfl | (simp [noStar] at h)
theorem noStar_head {v : Expr} {r : List Expr} (h : noStar (v :: r) = true) : noStar [v] = true ∧ noStar r = true := by
  cases v <;> first | exact ⟨rfl, h⟩ | (simp [noStar] at h)
end
end So
end
section
set_option Elab.async false
set_option autoImplicit false
set_option linter.all false
/-! S8: one lemma a construct of expressions. -/
namespace So
open PySem PySem.Spec PyProof.Rows L2
open Ev (D Ob Mem Fr R RS RL RB Bop Cop Bi Mt CE CEs CT CTs FE Src CO Tg Tgs evE evL evT evF evO evAnd evOr evTA evTO evSrc)

section
variable {T : Tx} {k : Nat} {X : Cx} {W : WX} {sc : Sc} {C : Ev.Cx} {x y z : Expr} {a b c : CE} {pos : Pos} {e e' : Expr}

theorem nd_bin (cx : Cxt T k X W sc) {o : Bop} (ha : PE X x (tE T.S W (evE C a))) (hb : PE X y (tE T.S W (evE C b))) : PE X (.BinOp x (bo o) y pos) (tE T.S W (evE C (.bin o a b))) := by
  refine PE.imp (pe_op (op_bop (S := T.S) cx.K o) ha hb) ?_
  rintro σ H Q ⟨g, f, h, R, Fr, out⟩
  rw [Ev.evE] at out
  refine tE_bind R Fr ?_
  cases qa : evE C a f h with
  | ok d1 h1 =>
    rw [qa] at out
    intro v g1 H1 s1 R1 V1 F1
    refine tE_bind R1 F1 ?_
    dsimp only at out
    cases qb : evE C b f h1 with
    | ok d2 h2 =>
      rw [qb] at out
      intro u g2 H2 s2 R2 V2 F2
      dsimp only at out
      cases qz : Ev.binop o (Ev.shal h2 d1) (Ev.shal h2 d2) with
      | none => rw [qz] at out; exact False.elim out
      | some z =>
        rw [qz] at out
        exact ⟨g2, h2, _, _, z, R2, shal_vh R2 (VD.mono s2.ext _ _ V1), shal_vh R2 V2, qz, fun w g' H' s' R' V' => out w g' H' ((s1.trans R R1 s2).trans R R2 s') R' V'⟩
    | exc c1 x1 h2 => rw [qb] at out; exact OkW.shift R R1 s1 out
    | stuck => rw [qb] at out; exact out
  | exc c1 x1 h1 => rw [qa] at out; exact out
  | stuck => rw [qa] at out; exact out
theorem nd_cmpR (cx : Cxt T k X W sc) {o : Cop} : OpR X (compareOp (co o)) (rCop T.S o) := op_cop cx.K (by have := cx.units; omega) o
theorem mark_of (h : isSet y = false) (op : CmpOp) : behindInMarks op y = false := by
  cases y <;> first | rfl | (simp [isSet] at h)
/-- a comparison: the reading of both sides, then the outcome -/
theorem cmp_read {o : Cop} {σ : L2.St} {H : L2.Hp} {Q : VK} (hq : tE T.S W (evE C (.cmp o a b)) σ H Q) : tOp (rCop T.S o) (tE T.S W (evE C a)) (tE T.S W (evE C b)) σ H Q := by
  obtain ⟨g, f, h, R, Fr, out⟩ := hq
  rw [Ev.evE] at out
  refine tE_bind R Fr ?_
  cases qa : evE C a f h with
  | ok d1 h1 =>
    rw [qa] at out
    intro v g1 H1 s1 R1 V1 F1
    refine tE_bind R1 F1 ?_
    dsimp only at out
    cases qb : evE C b f h1 with
    | ok d2 h2 =>
      rw [qb] at out
      intro u g2 H2 s2 R2 V2 F2
      dsimp only at out
      cases qz : Ev.cmpop h2 o d1 d2 with
      | none => rw [qz] at out; exact False.elim out
      | some z =>
        rw [qz] at out
        exact ⟨g2, h2, _, _, z, R2, VD.mono s2.ext _ _ V1, V2, qz, out (.bl z) g2 H2 (s1.trans R R1 s2) R2 rfl⟩
    | exc c1 x1 h2 => rw [qb] at out; exact OkW.shift R R1 s1 out
    | stuck => rw [qb] at out; exact out
  | exc c1 x1 h1 => rw [qa] at out; exact out
  | stuck => rw [qa] at out; exact out
theorem nd_cmp (cx : Cxt T k X W sc) {o : Cop} (hs : isSet y = false) (ha : PE X x (tE T.S W (evE C a))) (hb : PE X y (tE T.S W (evE C b))) : PE X (.Compare x [co o] [y] pos) (tE T.S W (evE C (.cmp o a b))) :=
  PE.imp (pe_cmpR (nd_cmpR cx) ha hb (mark_of hs _)) fun σ H Q hq => cmp_read hq
/-- from a value that is a truth value to a test -/
theorem tE_test {t : TE} (hq : ∀ σ H Q, tE T.S W (evE C a) σ H Q → t σ H Q) {σ : L2.St} {H : L2.Hp} {Q : Bool → L2.Hp → Prop}
    (h : So.tB T.S W (evT C (.e a)) σ H Q) : tTest t σ H Q := by
  obtain ⟨g, f, h, R, Fr, out⟩ := h
  refine hq σ H _ ⟨g, f, h, R, Fr, ?_⟩
  rw [Ev.evT] at out
  cases q : evE C a f h with
  | ok d h1 =>
    rw [q] at out
    intro v g1 H1 s1 R1 V1
    cases d with
    | bl b => cases V1; exact ⟨b, rfl, out g1 H1 s1 R1⟩
    | _ => exact False.elim out
  | exc c x h1 => rw [q] at out; exact out
  | stuck => rw [q] at out; exact out
theorem nd_cmpT (cx : Cxt T k X W sc) {o : Cop} (hs : isSet y = false) (ha : PE X x (tE T.S W (evE C a))) (hb : PE X y (tE T.S W (evE C b))) : PT X (.Compare x [co o] [y] pos) (So.tB T.S W (evT C (.e (.cmp o a b)))) :=
  PT.imp (pt_cmpR (nd_cmpR cx) ha hb (mark_of hs _)) fun σ H Q hq => tE_test (fun _ _ _ => cmp_read) hq
theorem chn_read {o p : Cop} {σ : L2.St} {H : L2.Hp} {Q : VK} (hq : tE T.S W (evE C (.chn o p a b c)) σ H Q) : tChain (rCop T.S o) (rCop T.S p) (tE T.S W (evE C a)) (tE T.S W (evE C b)) (tE T.S W (evE C c)) σ H Q := by
  obtain ⟨g, f, h, R, Fr, out⟩ := hq
  rw [Ev.evE] at out
  refine tE_bind R Fr ?_
  cases qa : evE C a f h with
  | ok d1 h1 =>
    rw [qa] at out
    intro v g1 H1 s1 R1 V1 F1
    refine tE_bind R1 F1 ?_
    dsimp only at out
    cases qb : evE C b f h1 with
    | ok d2 h2 =>
      rw [qb] at out
      intro u g2 H2 s2 R2 V2 F2
      have s12 := s1.trans R R1 s2
      dsimp only at out
      cases qz : Ev.cmpop h2 o d1 d2 with
      | none => rw [qz] at out; exact False.elim out
      | some t =>
        rw [qz] at out
        refine ⟨g2, h2, _, _, t, R2, VD.mono s2.ext _ _ V1, V2, qz, t, rfl, ?_⟩
        cases t with
        | false =>
          dsimp only at out
          rw [if_neg (by decide)]
          exact out (.bl false) g2 H2 s12 R2 rfl
        | true =>
          dsimp only at out
          rw [if_pos rfl]
          refine tE_bind R2 F2 ?_
          cases qc : evE C c f h2 with
          | ok d3 h3 =>
            rw [qc] at out
            intro w g3 H3 s3 R3 V3 F3
            dsimp only at out
            cases qy : Ev.cmpop h3 p d2 d3 with
            | none => rw [qy] at out; exact False.elim out
            | some t2 =>
              rw [qy] at out
              exact ⟨g3, h3, _, _, t2, R3, VD.mono s3.ext _ _ V2, V3, qy, out (.bl t2) g3 H3 (s12.trans R R2 s3) R3 rfl⟩
          | exc c1 x1 h2 => rw [qc] at out; exact OkW.shift R R2 s12 out
          | stuck => rw [qc] at out; exact out
    | exc c1 x1 h2 => rw [qb] at out; exact OkW.shift R R1 s1 out
    | stuck => rw [qb] at out; exact out
  | exc c1 x1 h1 => rw [qa] at out; exact out
  | stuck => rw [qa] at out; exact out
theorem nd_neg (cx : Cxt T k X W sc) (ha : PE X x (tE T.S W (evE C a))) : PE X (.UnaryOp .USub x pos) (tE T.S W (evE C (.neg a))) := by
  refine PE.imp (pe_un un_neg ha) ?_
  rintro σ H Q ⟨g, f, h, R, Fr, out⟩
  rw [Ev.evE] at out
  refine tE_bind R Fr ?_
  cases qa : evE C a f h with
  | ok d1 h1 =>
    rw [qa] at out
    intro v g1 H1 s1 R1 V1 F1
    cases d1 with
    | int i => cases V1; exact ⟨i, rfl, out _ g1 H1 s1 R1 rfl⟩
    | _ => exact False.elim out
  | exc c1 x1 h1 => rw [qa] at out; exact out
  | stuck => rw [qa] at out; exact out
theorem nd_not (cx : Cxt T k X W sc) (ha : PE X x (tE T.S W (evE C a))) : PE X (.UnaryOp .Not x pos) (tE T.S W (evE C (.not a))) := by
  refine PE.imp (pe_not ha) ?_
  rintro σ H Q ⟨g, f, h, R, Fr, out⟩
  rw [Ev.evE] at out
  refine tE_bind R Fr ?_
  cases qa : evE C a f h with
  | ok d1 h1 =>
    rw [qa] at out
    intro v g1 H1 s1 R1 V1 F1
    cases d1 with
    | bl i => cases V1; exact ⟨i, rfl, out _ g1 H1 s1 R1 rfl⟩
    | _ => exact False.elim out
  | exc c1 x1 h1 => rw [qa] at out; exact out
  | stuck => rw [qa] at out; exact out
theorem nd_ite (cx : Cxt T k X W sc) {t : CT} (ht : PT X x (So.tB T.S W (evT C t))) (ha : PE X y (tE T.S W (evE C a))) (hb : PE X z (tE T.S W (evE C b))) : PE X (.IfExp x y z pos) (tE T.S W (evE C (.ite t a b))) := by
  refine PE.imp (pe_ifExp ht ha hb) ?_
  rintro σ H Q ⟨g, f, h, R, Fr, out⟩
  rw [Ev.evE] at out
  refine tB_bind R Fr ?_
  cases qa : evT C t f h with
  | ok d1 h1 =>
    rw [qa] at out
    intro g1 H1 s1 R1 F1
    cases d1 with
    | true => rw [if_pos rfl]; exact ⟨g1, f, h1, R1, F1, OutE.shift R R1 s1 out⟩
    | false => rw [if_neg (by decide)]; exact ⟨g1, f, h1, R1, F1, OutE.shift R R1 s1 out⟩
  | exc c1 x1 h1 => rw [qa] at out; exact out
  | stuck => rw [qa] at out; exact out
theorem nd_and {es : CEs} {e1 : CE} {ys : List Expr} (hn : es ≠ .nil) (ha : PE X x (tE T.S W (evE C e1))) (hb : PE X (.BoolOp .And (y :: ys) pos) (tE T.S W (evAnd C es))) : PE X (.BoolOp .And (x :: y :: ys) pos) (tE T.S W (evAnd C (.cons e1 es))) := by
  refine PE.imp (pe_and ha hb) ?_
  rintro σ H Q ⟨g, f, h, R, Fr, out⟩
  rw [Ev.evAnd.eq_2 _ _ _ _ _ (fun z => hn z)] at out
  refine tE_bind R Fr ?_
  cases qa : evE C e1 f h with
  | ok d1 h1 =>
    rw [qa] at out
    intro v g1 H1 s1 R1 V1 F1
    cases d1 with
    | bl i =>
      cases V1
      refine ⟨i, rfl, ?_⟩
      cases i with
      | true => rw [if_pos rfl]; exact ⟨g1, f, h1, R1, F1, OutE.shift R R1 s1 out⟩
      | false => rw [if_neg (by decide)]; exact out _ g1 H1 s1 R1 rfl
    | _ => exact False.elim out
  | exc c1 x1 h1 => rw [qa] at out; exact out
  | stuck => rw [qa] at out; exact out
theorem nd_or {es : CEs} {e1 : CE} {ys : List Expr} (hn : es ≠ .nil) (ha : PE X x (tE T.S W (evE C e1))) (hb : PE X (.BoolOp .Or (y :: ys) pos) (tE T.S W (evOr C es))) : PE X (.BoolOp .Or (x :: y :: ys) pos) (tE T.S W (evOr C (.cons e1 es))) := by
  refine PE.imp (pe_or ha hb) ?_
  rintro σ H Q ⟨g, f, h, R, Fr, out⟩
  rw [Ev.evOr.eq_2 _ _ _ _ _ (fun z => hn z)] at out
  refine tE_bind R Fr ?_
  cases qa : evE C e1 f h with
  | ok d1 h1 =>
    rw [qa] at out
    intro v g1 H1 s1 R1 V1 F1
    cases d1 with
    | bl i =>
      cases V1
      refine ⟨i, rfl, ?_⟩
      cases i with
      | true => rw [if_pos rfl]; exact out _ g1 H1 s1 R1 rfl
      | false => rw [if_neg (by decide)]; exact ⟨g1, f, h1, R1, F1, OutE.shift R R1 s1 out⟩
    | _ => exact False.elim out
  | exc c1 x1 h1 => rw [qa] at out; exact out
  | stuck => rw [qa] at out; exact out
theorem nd_tup (cx : Cxt T k X W sc) {es : CEs} {vs : List Expr} {j : Nat} (ha : PA X vs (tL T.S W (evL C es))) : PE X (.Tuple vs j pos) (tE T.S W (evE C (.tup es))) := by
  refine PE.imp (pe_tup ha) ?_
  rintro σ H Q ⟨g, f, h, R, Fr, out⟩
  rw [Ev.evE] at out
  refine tL_bind R Fr ?_
  cases qa : evL C es f h with
  | ok ds h1 =>
    rw [qa] at out
    intro vs g1 H1 s1 R1 V1 F1
    dsimp only at out
    split at out
    · rename_i hl
      refine ⟨by rw [← VDs.length V1]; exact lim_of hl, fun p hp => ?_⟩
      obtain ⟨g2, R2, s2, V2⟩ := new_tup R1 hp V1
      exact out _ g2 _ (s1.trans R R1 s2) R2 V2
    · exact False.elim out
  | exc c1 x1 h1 => rw [qa] at out; exact out
  | stuck => rw [qa] at out; exact out
theorem nd_ix (cx : Cxt T k X W sc) (hs : isSlice y = false) (ha : PE X x (tE T.S W (evE C a))) (hb : PE X y (tE T.S W (evE C b))) : PE X (.Subscript x y pos) (tE T.S W (evE C (.ix a b))) := by
  refine PE.imp (pe_ix (ix_all (S := T.S) cx.K) ha hb (fun o i => by cases y <;> first | rfl | (simp [isSlice] at hs))) ?_
  rintro σ H Q ⟨g, f, h, R, Fr, out⟩
  rw [Ev.evE] at out
  refine tE_bind R Fr ?_
  cases qa : evE C a f h with
  | ok d1 h1 =>
    rw [qa] at out
    intro v g1 H1 s1 R1 V1 F1
    refine tE_bind R1 F1 ?_
    dsimp only at out
    cases qb : evE C b f h1 with
    | ok d2 h2 =>
      rw [qb] at out
      intro u g2 H2 s2 R2 V2 F2
      dsimp only at out
      cases qz : Ev.item (Ev.shal h2 d1) d2 with
      | none => rw [qz] at out; exact False.elim out
      | some z =>
        rw [qz] at out
        exact ⟨g2, h2, _, _, z, R2, shal_vh R2 (VD.mono s2.ext _ _ V1), V2, qz, fun w V' => out w g2 H2 (s1.trans R R1 s2) R2 V'⟩
    | exc c1 x1 h2 => rw [qb] at out; exact OkW.shift R R1 s1 out
    | stuck => rw [qb] at out; exact out
  | exc c1 x1 h1 => rw [qa] at out; exact out
  | stuck => rw [qa] at out; exact out
/-- a part of a slice -/
def tO (S : Sx) (W : WX) (ev : Ev.Fr → Mem → Option (Option Int × Mem)) : TO := fun σ H Q => ∃ g f h, Rel S g h H ∧ FrR S g f σ ∧ ∃ o h1, ev f h = some (o, h1) ∧ ∀ g1 H1, Step g h H g1 h1 H1 → Rel S g1 h1 H1 → Q o H1
theorem PO.imp {o : Option Expr} {t t' : TO} (p : PO X o t) (k : ∀ σ H Q, t' σ H Q → t σ H Q) : PO X o t' := ⟨fun pins s σ H Q I h => p.run pins s σ H Q I (k σ H Q h)⟩
theorem nd_no : PO X none (tO T.S W (evO C .no)) := PO.imp po_none fun σ H Q ⟨g, f, h, R, F0, o, h1, e, q⟩ => by
  rw [Ev.evO] at e
  cases e
  exact q g H (Step.refl R) R
theorem nd_so (ha : PE X x (tE T.S W (evE C a))) : PO X (some x) (tO T.S W (evO C (.so a))) := by
  refine PO.imp (po_some ha) ?_
  rintro σ H Q ⟨g, f, h, R, Fr, o, h1, e, q⟩
  rw [Ev.evO] at e
  refine tE_bind R Fr ?_
  cases qa : evE C a f h with
  | ok d1 h2 =>
    rw [qa] at e
    intro v g1 H1 s1 R1 V1 F1
    cases d1 with
    | int i =>
      cases e
      cases V1
      exact ⟨i, rfl, q g1 H1 s1 R1⟩
    | _ => cases e
  | exc c1 x1 h1 => rw [qa] at e; cases e
  | stuck => rw [qa] at e; cases e
theorem nd_sl (cx : Cxt T k X W sc) {l u : Option Expr} {lo hi : CO} {p2 : Pos} (ha : PE X x (tE T.S W (evE C a))) (hl : PO X l (tO T.S W (evO C lo))) (hu : PO X u (tO T.S W (evO C hi))) :
    PE X (.Subscript x (.Slice l u none p2) pos) (tE T.S W (evE C (.sl a lo hi))) := by
  refine PE.imp (pe_slice (sl_all (S := T.S) cx.K) ha hl hu) ?_
  rintro σ H Q ⟨g, f, h, R, Fr, out⟩
  rw [Ev.evE] at out
  refine tE_bind R Fr ?_
  cases qa : evE C a f h with
  | ok d1 h1 =>
    rw [qa] at out
    intro v g1 H1 s1 R1 V1 F1
    dsimp only at out
    cases qb : evO C lo f h1 with
    | none => rw [qb] at out; exact False.elim out
    | some r1 =>
      obtain ⟨o1, h2⟩ := r1
      rw [qb] at out
      refine ⟨g1, f, h1, R1, F1, o1, h2, qb, fun g2 H2 s2 R2 => ?_⟩
      dsimp only at out
      cases qc : evO C hi f h2 with
      | none => rw [qc] at out; exact False.elim out
      | some r2 =>
        obtain ⟨o2, h3⟩ := r2
        rw [qc] at out
        refine ⟨g2, f, h2, R2, F1.mono s2.ext, o2, h3, qc, fun g3 H3 s3 R3 => ?_⟩
        dsimp only at out
        cases qz : Ev.slice (Ev.shal h3 d1) o1 o2 with
        | none => rw [qz] at out; exact False.elim out
        | some z =>
          rw [qz] at out
          have s13 := (s1.trans R R1 s2).trans R R2 s3
          exact ⟨g3, h3, _, z, R3, shal_vh R3 (VD.mono s3.ext _ _ (VD.mono s2.ext _ _ V1)), qz, fun w g' H' s' R' V' => out w g' H' (s13.trans R R3 s') R' V'⟩
  | exc c1 x1 h1 => rw [qa] at out; exact out
  | stuck => rw [qa] at out; exact out
theorem nd_frz (cx : Cxt T k X W sc) (ha : PE X x (tE T.S W (evE C a))) : PE X x (tE T.S W (evE C (.frz a))) := by
  refine PE.imp ha ?_
  rintro σ H Q ⟨g, f, h, R, Fr, out⟩
  rw [Ev.evE] at out
  refine tE_bind R Fr ?_
  cases qa : evE C a f h with
  | ok d1 h1 =>
    rw [qa] at out
    intro v g1 H1 s1 R1 V1 F1
    cases d1 with
    | loc n =>
      dsimp only at out
      cases qb : h1[n]? with
      | none => rw [qb] at out; exact False.elim out
      | some ob =>
        rw [qb] at out
        cases ob with
        | box d =>
          obtain ⟨a1, e1, e2⟩ := V1
          subst e1
          cases d with
          | lst ds =>
            obtain ⟨a2, vs, f1, f2, f3, R2, E2, V2⟩ := R1.gone qb
            have f0 := f1
            rw [e2] at f0
            cases f0
            exact out _ _ H1 (s1.trans R R1 (Step.gone R1 E2 rfl f1 ⟨_, qb, by intro z; cases z⟩)) R2 V2
          | _ => exact False.elim (R1.ob n _ _ e2 qb)
        | _ => exact False.elim out
    | _ => exact False.elim out
  | exc c1 x1 h1 => rw [qa] at out; exact out
  | stuck => rw [qa] at out; exact out
end
end So
end
section
set_option Elab.async false
set_option autoImplicit false
set_option linter.all false
/-! S9: names, arguments, calls, new lists. -/
namespace So
open PySem PySem.Spec PyProof.Rows L2
open Ev (D Ob Mem R RS RL RB Bop Cop Bi Mt CE CEs CT CTs FE Src CO Tg Tgs evE evL evT evF evO evAnd evOr evTA evTO evSrc)

section
variable {S : Sx} {g g' : G} {h h' : Mem} {H H' H0 : L2.Hp} {p : Addr}
theorem Step.back (st : Step g h H g' h' H') (hp : H' p = none) : H p = none := by
  cases q : H p with
  | none => rfl
  | some o =>
    obtain ⟨o', e⟩ := st.there p o q
    rw [hp] at e; cases e
/-- what is of no concern is written -/
theorem Rel.other {o : HO} (r : Rel S g h H) (hf : g.F p = none) (nb : ∀ n, g.μ[n]? = some p → ¬ live h n) : Rel S g h (upd H p o) := by
  refine ⟨fun a u e => ?_, r.len, fun n a u e q => ?_, r.sep, r.inj⟩
  · rw [upd_ne (fun z => by rw [z, hf] at e; cases e)]; exact r.fz a u e
  · have x := r.ob n a u e q
    cases u with
    | gone => exact trivial
    | ins c fs => exact False.elim x
    | box d =>
      cases d with
      | lst ds =>
        obtain ⟨vs, e1, e2⟩ := x
        refine ⟨vs, ?_, e2⟩
        rw [upd_ne (fun z => nb n (by rw [← z]; exact e) ⟨_, q, by intro k; cases k⟩)]
        exact e1
      | _ => exact False.elim x
theorem Step.other {o : HO} (st : Step g h H0 g' h' H) (hp : H0 p = none) : Step g h H0 g' h' (upd H p o) := by
  have ne : ∀ b u, H0 b = some u → b ≠ p := fun b u e z => by rw [z, hp] at e; cases e
  refine ⟨st.ext, st.dead, st.fresh, fun b u e nb => ?_, fun b u e => ?_, st.frz⟩
  · rw [upd_ne (ne b u e)]; exact st.keep b u e nb
  · obtain ⟨o', k⟩ := st.there b u e
    exact ⟨o', by rw [upd_ne (ne b u e)]; exact k⟩
end

section
variable {T : Tx} {k : Nat} {X : Cx} {W : WX} {sc : Sc} {C : Ev.Cx} {x y z : Expr} {a b c : CE} {pos : Pos} {es : CEs} {vs : List Expr}

/-! ### names and constants -/
theorem nd_c (cx : Cxt T k X W sc) {d : D} {cn : Const} {j : Nat} (hc : ckC d cn = true) : PE X (.Constant cn j pos) (tE T.S W (evE C (.c d))) := by
  cases d <;> cases cn <;> simp only [ckC] at hc <;> try (cases hc; done)
  · refine PE.imp pe_non ?_
    rintro σ H Q ⟨g, f, h, R, Fr, out⟩
    rw [Ev.evE] at out
    exact out _ g H (Step.refl R) R rfl
  · rename_i p q
    have : p = q := by simpa using hc
    subst this
    refine PE.imp pe_bl ?_
    rintro σ H Q ⟨g, f, h, R, Fr, out⟩
    rw [Ev.evE] at out
    exact out _ g H (Step.refl R) R rfl
  · have := of_decide_eq_true hc
    subst this
    refine PE.imp pe_int ?_
    rintro σ H Q ⟨g, f, h, R, Fr, out⟩
    rw [Ev.evE] at out
    exact out _ g H (Step.refl R) R rfl
  · simp only [Bool.and_eq_true, decide_eq_true_eq, List.all_eq_true] at hc
    obtain ⟨e, o⟩ := hc
    subst e
    refine PE.imp pe_str ?_
    rintro σ H Q ⟨g, f, h, R, Fr, out⟩
    rw [Ev.evE] at out
    exact out _ g H (Step.refl R) R ⟨rfl, o⟩
theorem nd_v (cx : Cxt T k X W sc) {i : Nat} {n : Str} (hv : varB sc i n = true) : PE X (.Name n pos) (tE T.S W (evE C (.v i))) := by
  unfold varB at hv
  simp only [Bool.and_eq_true, decide_eq_true_eq, Bool.not_eq_true'] at hv
  obtain ⟨⟨⟨h1, h2⟩, h3⟩, h4⟩ := hv
  have vis : Vis X.env.scope n := by
    unfold Vis
    rw [cx.nm]
    unfold visB at h2
    split at h2 <;> rename_i q
    · exact .inl q
    · exact .inr (.inl q)
    · exact .inr (.inr q)
    · cases h2
  refine PE.imp (pe_var (i := i) (by rw [cx.N]; exact h1) vis h3 h4) ?_
  rintro σ H Q ⟨g, f, h, R, Fr, out⟩
  rw [Ev.evE] at out
  split at out
  · rename_i d q
    obtain ⟨v, e, V⟩ := Fr.2 i d q
    exact ⟨v, e, out v g H (Step.refl R) R V⟩
  · exact False.elim out
theorem nd_g (cx : Cxt T k X W sc) {i : Nat} {n : Str} (hi : sc.gl[i]? = some n) (hg : glB sc n = true) : PE X (.Name n pos) (tE T.S W (evE (T.cx k) (.g i))) := by
  obtain ⟨g1, g2⟩ := cx.gl_of hg
  have hi' : T.gl[i]? = some n := by rw [← cx.gl]; exact hi
  cases q : T.Pg.glob[i]? with
  | none =>
    refine ⟨fun pins s σ H Q I hq => ?_⟩
    obtain ⟨g, f, h, R, Fr, out⟩ := hq
    rw [Ev.evE] at out
    have e : (T.cx k).glob i = T.Pg.glob[i]? := rfl
    rw [e, q] at out
    exact False.elim out
  | some d =>
    obtain ⟨u, v, e1, e2, e3⟩ := cx.ok.glob i n d hi' q
    refine PE.imp (pe_glob (v := v) g1 (by rw [cx.mg]; exact e1) e2 g2) ?_
    rintro σ H Q ⟨g, f, h, R, Fr, out⟩
    rw [Ev.evE] at out
    have e : (T.cx k).glob i = T.Pg.glob[i]? := rfl
    rw [e, q] at out
    exact out v g H (Step.refl R) R (e3 g)
theorem nd_f (cx : Cxt T k X W sc) {i : Nat} {n : Str} (hi : sc.fs[i]? = some n) (hg : glB sc n = true) : PE X (.Name n pos) (tE T.S W (evE C (.f i))) := by
  obtain ⟨g1, g2⟩ := cx.gl_of hg
  obtain ⟨e1, _⟩ := cx.ok.defs i n (by rw [← cx.fs]; exact hi)
  refine PE.imp (pe_glob (v := .ref (T.S.fa i)) g1 (by rw [cx.mg]; exact e1) rfl g2) ?_
  rintro σ H Q ⟨g, f, h, R, Fr, out⟩
  rw [Ev.evE] at out
  exact out _ g H (Step.refl R) R rfl

/-! ### arguments -/
theorem nd_nil : PA X [] (tL T.S W (evL C .nil)) := PA.imp pa_nil fun σ H Q ⟨g, f, h, R, Fr, out⟩ => by
  rw [Ev.evL] at out
  exact out [] g H (Step.refl R) R rfl
theorem nd_cons (hs : noStar [x] = true) (ha : PE X x (tE T.S W (evE C a))) (hr : PA X vs (tL T.S W (evL C es))) : PA X (x :: vs) (tL T.S W (evL C (.cons a es))) := by
  refine PA.imp (pa_cons ha hr (noStar_cons hs)) ?_
  rintro σ H Q ⟨g, f, h, R, Fr, out⟩
  rw [Ev.evL] at out
  refine tE_bind R Fr ?_
  cases qa : evE C a f h with
  | ok d1 h1 =>
    rw [qa] at out
    intro v g1 H1 s1 R1 V1 F1
    refine tL_bind R1 F1 ?_
    dsimp only at out
    cases qb : evL C es f h1 with
    | ok ds h2 =>
      rw [qb] at out
      intro us g2 H2 s2 R2 V2 F2
      exact out _ g2 H2 (s1.trans R R1 s2) R2 (VDs.cons (VD.mono s2.ext _ _ V1) V2)
    | exc c1 x1 h2 => rw [qb] at out; exact OkW.shift R R1 s1 out
    | stuck => rw [qb] at out; exact out
  | exc c1 x1 h1 => rw [qa] at out; exact out
  | stuck => rw [qa] at out; exact out
theorem nd_star (cx : Cxt T k X W sc) {p : Pos} (ha : PE X x (tE T.S W (evE C a))) (hr : PA X vs (tL T.S W (evL C es))) : PA X (.Starred x p :: vs) (tL T.S W (evL C (.star a es))) := by
  refine PA.imp (StX.pa_star ha hr rfl) ?_
  rintro σ H Q ⟨g, f, h, R, Fr, out⟩
  rw [Ev.evL] at out
  refine tE_bind R Fr ?_
  cases qa : evE C a f h with
  | ok d1 h1 =>
    rw [qa] at out
    intro v g1 H1 s1 R1 V1 F1
    dsimp only at out
    have vh := shal_vh R1 V1
    cases qs : Ev.seqD (Ev.shal h1 d1) with
    | none => rw [qs] at out; exact False.elim out
    | some xs =>
      rw [qs] at out
      dsimp only at out
      obtain ⟨p1, ws, e1, sq, w⟩ : ∃ p1 ws, v = V.ref p1 ∧ (SqT X.K H1 p1 ws ∨ SqL X.K H1 p1 ws) ∧ VDs T.S g1 xs ws := by
        unfold Ev.seqD at qs
        split at qs
        · rename_i q
          rw [q] at vh
          cases qs
          obtain ⟨p1, ws, e1, e2, e3⟩ := vh
          exact ⟨p1, ws, e1, .inl (by rw [cx.K]; exact sqT_mono R1.fz e2), e3⟩
        · rename_i q
          rw [q] at vh
          cases qs
          obtain ⟨p1, ws, e1, e2, e3⟩ := vh
          exact ⟨p1, ws, e1, .inr (.of e2), e3⟩
        · cases qs
      refine ⟨p1, ws, e1, sq, tL_bind R1 F1 ?_⟩
      cases qb : evL C es f h1 with
      | ok ds h2 =>
        rw [qb] at out
        intro us g2 H2 s2 R2 V2 F2
        exact out _ g2 H2 (s1.trans R R1 s2) R2 (VDs.append (VDs.mono s2.ext _ _ w) V2)
      | exc c1 x1 h2 => rw [qb] at out; exact OkW.shift R R1 s1 out
      | stuck => rw [qb] at out; exact out
  | exc c1 x1 h1 => rw [qa] at out; exact out
  | stuck => rw [qa] at out; exact out

/-! ### calls -/
/-- a def of the text, by its place -/
theorem run_def (cx : Cxt T k X W sc) {f : Nat} {pins : List (Addr × Obj)} {σ : L2.St} {H : L2.Hp} {s : Shared} {Q : VK} {us : List Value} {ws : List V} {g : G} {h : Mem} {ds : List D}
    (I : Inv X pins σ H s) (r : Vals ws us) (R : Rel T.S g h H) (w : VDs T.S g ds ws) (out : OutE T.S W σ g h H Q (Ev.callF T.Pg k f ds h)) : wpAny (model X.prog X.w) X.A (call (.ref (T.S.fa f)) us) (EP X pins σ Q) X.xe s := by
  have e0 : Env0 T.P T.w T.S.K T.mg T.base X.A X.stack s H := by
    have := I.env0
    rw [cx.prog, cx.w, cx.K, cx.mg, cx.base] at this
    exact this
  refine wpAny_call (codeAny_mono (R := CR (L2N.CX X.prog X.w) X.stack X.prog X.w H s Q (WE W σ)) ?_ fun res s' hq => ?_)
  · have := cx.ok.run f X.A X.stack s H us ws g h ds Q (WE W σ) cx.rm cx.gd e0 r R w ?_
    · rw [cx.prog, cx.w]; exact this
    · cases q : Ev.callF T.Pg k f ds h with
      | ok d h1 => rw [q] at out; exact out
      | exc c1 x1 h1 => rw [q] at out; exact out
      | stuck => rw [q] at out; exact out
  · cases res with
    | error e => exact L2N.passAt cx.tk σ pins H s e s' I hq
    | ok fl =>
      cases fl with
      | ret u => exact I.after hq
      | next => exact False.elim hq
      | brk => exact False.elim hq
      | cont => exact False.elim hq
theorem nd_call (cx : Cxt T k X W sc) {f : Nat} {n : Str} {np : Pos} (hf : sc.fs[f]? = some n) (hg : glB sc n = true) (hs : noStar vs = true) (h0 : vs = [] → es = .nil) (ha : PA X vs (tL T.S W (evL (T.cx k) es))) :
    PE X (.Call (.Name n np) vs [] pos) (tE T.S W (evE (T.cx k) (.call f es))) := by
  obtain ⟨g1, g2⟩ := cx.gl_of hg
  obtain ⟨e1, e2⟩ := cx.ok.defs f n (by rw [← cx.fs]; exact hf)
  refine ⟨fun pins s σ H Q I hq => ?_⟩
  obtain ⟨g, fr, h, R, Fr, out⟩ := hq
  rw [Ev.evE] at out
  refine wpAny_Call_Name_kw (ld_glob I g1 (by rw [cx.mg]; exact e1) ?_ g2)
  have hkp : PySem.W.keepIn X.K (.ref (T.S.fa f)) = true := by rw [cx.K]; exact e2
  -- what comes when the arguments stand
  have fin : tL T.S W (evL (T.cx k) es) σ H fun ws H1 => ∃ g1 h1 ds, Rel T.S g1 h1 H1 ∧ VDs T.S g1 ds ws ∧ OutE T.S W σ g1 h1 H1 Q (Ev.callF T.Pg k f ds h1) := by
    refine tL_bind R Fr ?_
    cases qa : evL (T.cx k) es fr h with
    | ok ds h1 =>
      rw [qa] at out
      intro ws g1 H1 s1 R1 V1 F1
      exact ⟨g1, h1, ds, R1, V1, OutE.shift R R1 s1 out⟩
    | exc c1 x1 h1 => rw [qa] at out; exact out
    | stuck => rw [qa] at out; exact out
  cases vs with
  | nil =>
    refine PySem.W.callWith_K0 I.kIn hkp ?_
    have := h0 rfl
    subst this
    rw [Ev.evL] at out
    exact run_def cx I .nil R (ds := []) rfl out
  | cons v r =>
    obtain ⟨n1, n2⟩ := noStar_head hs
    refine PySem.W.callWith_K (h₀ := X.base) I.ok.mod.kin hkp (thn (ha.run pos pins s σ H _ I fin) fun us s1 ⟨ws, H1, I1, r1, q⟩ => ⟨I1.kIn, ?_⟩) (noStar_cons n1) (noStar_any n2)
    obtain ⟨g1, h1, ds, R1, V1, out1⟩ := q
    exact run_def cx I1 r1 R1 V1 out1
theorem nd_callv (cx : Cxt T k X W sc) {fe v : Expr} {r : List Expr} (hf : isSub fe = true) (hs : noStar (v :: r) = true) (hfe : PE X fe (tE T.S W (evE (T.cx k) a))) (ha : PA X (v :: r) (tL T.S W (evL (T.cx k) es)))
    (hkp : ∀ f : Nat, PySem.W.keepIn X.K (.ref (T.S.fa f)) = true) : PE X (.Call fe (v :: r) [] pos) (tE T.S W (evE (T.cx k) (.callv a es))) := by
  obtain ⟨n1, n2⟩ := noStar_head hs
  refine ⟨fun pins s σ H Q I hq => ?_⟩
  obtain ⟨g, fr, h, R, Fr, out⟩ := hq
  rw [Ev.evE] at out
  have rd : tE T.S W (evE (T.cx k) a) σ H fun y H1 => ∃ f g1 h1, y = .ref (T.S.fa f) ∧ Rel T.S g1 h1 H1 ∧ FrR T.S g1 fr σ ∧ OutE T.S W σ g1 h1 H1 Q (match evL (T.cx k) es fr h1 with
      | .ok ds h2 => (T.cx k).call f ds h2
      | .exc c x h1 => .exc c x h1
      | .stuck => .stuck) := by
    refine tE_bind R Fr ?_
    cases qa : evE (T.cx k) a fr h with
    | ok d h1 =>
      rw [qa] at out
      intro y g1 H1 s1 R1 V1 F1
      cases d with
      | fn f => exact ⟨f, g1, h1, V1, R1, F1, OutE.shift R R1 s1 out⟩
      | _ => exact False.elim out
    | exc c1 x1 h1 => rw [qa] at out; exact out
    | stuck => rw [qa] at out; exact out
  refine Call_ (thn (hfe.run pins s σ H _ I rd) fun u s1 ⟨y, H1, I1, ry, f, g1, h1, ey, R1, F1, out1⟩ => ?_) (by cases fe <;> first | rfl | (simp [isSub] at hf))
  subst ey
  obtain rfl : u = Value.ref (T.S.fa f) := ry
  have fin : tL T.S W (evL (T.cx k) es) σ H1 fun ws H2 => ∃ g2 h2 ds, Rel T.S g2 h2 H2 ∧ VDs T.S g2 ds ws ∧ OutE T.S W σ g2 h2 H2 Q (Ev.callF T.Pg k f ds h2) := by
    refine tL_bind R1 F1 ?_
    cases qa : evL (T.cx k) es fr h1 with
    | ok ds h2 =>
      rw [qa] at out1
      intro ws g2 H2 s2 R2 V2 F2
      exact ⟨g2, h2, ds, R2, V2, OutE.shift R1 R2 s2 out1⟩
    | exc c1 x1 h1 => rw [qa] at out1; exact out1
    | stuck => rw [qa] at out1; exact out1
  refine PySem.W.callWith_K (h₀ := X.base) I1.ok.mod.kin (hkp f) (thn (ha.run pos pins s1 σ H1 _ I1 fin) fun us s2 ⟨ws, H2, I2, r1, q⟩ => ⟨I2.kIn, ?_⟩) (noStar_cons n1) (noStar_any n2)
  obtain ⟨g2, h2, ds, R2, V2, out2⟩ := q
  exact run_def cx I2 r1 R2 V2 out2

/-! ### built-in functions -/
/-- from a rule by values to the reading of its call -/
theorem bi_read {bi : Bi} {σ : L2.St} {H : L2.Hp} {Q : VK} (hq : tE T.S W (evE C (.bi bi es)) σ H Q) : tCB (rBi T.S bi) (tL T.S W (evL C es)) σ H Q := by
  obtain ⟨g, f, h, R, Fr, out⟩ := hq
  rw [Ev.evE] at out
  refine tL_bind R Fr ?_
  cases qa : evL C es f h with
  | ok ds h1 =>
    rw [qa] at out
    intro ws g1 H1 s1 R1 V1 F1
    dsimp only at out
    cases qb : Ev.biF bi ds h1 with
    | none => rw [qb] at out; exact False.elim out
    | some d =>
      rw [qb] at out
      exact ⟨g1, h1, ds, d, R1, V1, qb, fun v g' H' s' R' V' => out v g' H' (s1.trans R R1 s') R' V'⟩
  | exc c1 x1 h1 => rw [qa] at out; exact out
  | stuck => rw [qa] at out; exact out
theorem nd_bi (cx : Cxt T k X W sc) {bi : Bi} {n : Str} {np : Pos} {v : Expr} {r : List Expr} (hn : biN bi = n) (hg : glB sc n = true) (he : (n == ("" : Str)) = false) (hs : noStar (v :: r) = true) (ha : PA X (v :: r) (tL T.S W (evL C es))) :
    PE X (.Call (.Name n np) (v :: r) [] pos) (tE T.S W (evE C (.bi bi es))) := by
  obtain ⟨g1, g2⟩ := cx.gl_of hg
  obtain ⟨n1, n2⟩ := noStar_head hs
  have mn : ∀ x ∈ used, X.mg x = none := fun x hx => by rw [cx.mg]; exact cx.ok.blt x hx
  have hu := cx.units
  have h1 := noStar_cons (r := r) (env := X.env) n1
  have h2 := noStar_any (env := X.env) (pos := pos) n2
  subst hn
  cases bi
  case len => exact PE.imp (pe_callB (cr_len (S := T.S) cx.K) g1 (mn "len" (by decide)) PySem.boot_len ha (by decide) g2 h1 h2) fun _ _ _ hq => bi_read hq
  case abs => exact PE.imp (pe_callB (cr_abs (S := T.S)) g1 (mn "abs" (by decide)) (by decide +kernel) ha (by decide) g2 h1 h2) fun _ _ _ hq => bi_read hq
  case int_ => exact PE.imp (pe_callTy (cr_int (S := T.S)) g1 (mn "int" (by decide)) (by decide +kernel) ha (by decide) g2 h1 h2) fun _ _ _ hq => bi_read hq
  case str_ => exact PE.imp (pe_callTy (cr_str (S := T.S)) g1 (mn "str" (by decide)) (by decide +kernel) ha (by decide) g2 h1 h2) fun _ _ _ hq => bi_read hq
  case repr => exact PE.imp (pe_callB (cr_repr (S := T.S) cx.K cx.gd (by omega)) g1 (mn "repr" (by decide)) (by decide +kernel) ha (by decide) g2 h1 h2) fun _ _ _ hq => bi_read hq
  case sum => exact PE.imp (pe_callB (cr_sum' (S := T.S) cx.K cx.calm) g1 (mn "sum" (by decide)) (by decide +kernel) ha (by decide) g2 h1 h2) fun _ _ _ hq => bi_read hq
  case max1 => exact PE.imp (pe_callB (cr_max1 (S := T.S) cx.K cx.calm) g1 (mn "max" (by decide)) (by decide +kernel) ha (by decide) g2 h1 h2) fun _ _ _ hq => bi_read hq
  case max2 => exact PE.imp (pe_callB (cr_max2 (S := T.S) cx.calm) g1 (mn "max" (by decide)) (by decide +kernel) ha (by decide) g2 h1 h2) fun _ _ _ hq => bi_read hq
  case min1 => exact PE.imp (pe_callB (cr_min1 (S := T.S) cx.K cx.calm) g1 (mn "min" (by decide)) (by decide +kernel) ha (by decide) g2 h1 h2) fun _ _ _ hq => bi_read hq
  case min2 => exact PE.imp (pe_callB (cr_min2 (S := T.S) cx.calm) g1 (mn "min" (by decide)) (by decide +kernel) ha (by decide) g2 h1 h2) fun _ _ _ hq => bi_read hq
  case all => exact PE.imp (pe_callB (cr_all' (S := T.S) cx.K cx.calm) g1 (mn "all" (by decide)) (by decide +kernel) ha (by decide) g2 h1 h2) fun _ _ _ hq => bi_read hq
  case any => exact PE.imp (pe_callB (cr_any' (S := T.S) cx.K cx.calm) g1 (mn "any" (by decide)) (by decide +kernel) ha (by decide) g2 h1 h2) fun _ _ _ hq => bi_read hq
  case tuple_ => exact PE.imp (pe_callTy (cr_tuple (S := T.S) cx.K) g1 (mn "tuple" (by decide)) (by decide +kernel) ha (by decide) g2 h1 h2) fun _ _ _ hq => bi_read hq
  case lenset => exact absurd he (by decide)
  case join => exact absurd he (by decide)

/-! ### methods of lists -/
theorem base_of (h : plainO x = true) (n : Str) : attributeBase x n X.env (eval x X.env) = eval x X.env := by
  cases x <;> first | rfl | (simp [plainO] at h)
/-- the reading of a method's call -/
theorem mt_read {m : Mt} (hm : ∀ d ds h, Ev.mtf m d ds h = Ev.mtb m d ds h) (cx : Cxt T k X W sc) {σ : L2.St} {H : L2.Hp} {Q : VK} (hq : tE T.S W (evE C (.mt m a es)) σ H Q) :
    tE T.S W (evE C a) σ H fun x H1 => tyV X.K "list" x H1 ∧ tL T.S W (evL C es) σ H1 fun xs H2 => rMt T.S m x xs H2 Q := by
  obtain ⟨g, f, h, R, Fr, out⟩ := hq
  rw [Ev.evE] at out
  refine tE_bind R Fr ?_
  cases qa : evE C a f h with
  | ok d1 h1 =>
    rw [qa] at out
    intro v g1 H1 s1 R1 V1 F1
    dsimp only at out
    have vh := shal_vh R1 V1
    cases qs : Ev.shal h1 d1 with
    | lst t =>
      rw [qs] at out vh
      obtain ⟨p1, ws, e1, e2, e3⟩ := vh
      subst e1
      refine ⟨.inl ⟨rfl, ws, .of e2⟩, tL_bind R1 F1 ?_⟩
      dsimp only at out
      cases qb : evL C es f h1 with
      | ok ds h2 =>
        rw [qb] at out
        intro us g2 H2 s2 R2 V2 F2
        dsimp only at out
        rw [hm] at out
        cases qc : Ev.mtb m d1 ds h2 with
        | none => rw [qc] at out; exact False.elim out
        | some r =>
          obtain ⟨z, h3⟩ := r
          rw [qc] at out
          exact ⟨g2, h2, d1, ds, z, h3, R2, VD.mono s2.ext _ _ V1, V2, qc, fun w g' H' s' R' V' => out w g' H' ((s1.trans R R1 s2).trans R R2 s') R' V'⟩
      | exc c1 x1 h2 => rw [qb] at out; exact OkW.shift R R1 s1 out
      | stuck => rw [qb] at out; exact out
    | _ => rw [qs] at out; exact False.elim out
  | exc c1 x1 h1 => rw [qa] at out; exact out
  | stuck => rw [qa] at out; exact out
theorem read_nil (hq : ∀ σ H (Q : List V → L2.Hp → Prop), tL T.S W (evL C .nil) σ H Q → Q [] H) : True := trivial
theorem tL_nil {σ : L2.St} {H : L2.Hp} {Q : List V → L2.Hp → Prop} (hq : tL T.S W (evL C .nil) σ H Q) : Q [] H := by
  obtain ⟨g, f, h, R, Fr, out⟩ := hq
  rw [Ev.evL] at out
  exact out [] g H (Step.refl R) R rfl
theorem nd_mt (cx : Cxt T k X W sc) {m : Mt} {n : Str} {ap : Pos} (hn : mtN m = n) (he : (n == ("" : Str)) = false) (hp : plainO x = true) (hs : noStar vs = true) (hl : (ap.endLine == pos.line) = true) (h1 : vs.length ≤ 1) (h0 : vs = [] → es = .nil)
    (ho : PE X x (tE T.S W (evE C a))) (ha : PA X vs (tL T.S W (evL C es))) (hmz : m = .pop0 → vs = []) (hm1 : vs = [] → m = .pop0) : PE X (.Call (.Attribute x n ap) vs [] pos) (tE T.S W (evE C (.mt m a es))) := by
  have hb := base_of (X := X) hp n
  subst hn
  match vs, h1 with
  | [], _ =>
    have := h0 rfl
    subst this
    have := hm1 rfl
    subst this
    refine PE.imp (pe_bm0 PySem.F.plainAttrs_list PySem.F.slot_list_pop PySem.F.type_list_pop (mt_pop' (S := T.S) (X := X)) ho hb hl) fun σ H Q hq => ?_
    have := mt_read (m := .pop0) (fun _ _ _ => rfl) cx hq
    obtain ⟨g, f, h, R, Fr, out⟩ := this
    refine ⟨g, f, h, R, Fr, ?_⟩
    cases q : evE C a f h with
    | ok d h2 =>
      rw [q] at out
      exact fun v g' H' s' R' V' => ⟨(out v g' H' s' R' V').1, tL_nil (out v g' H' s' R' V').2⟩
    | exc c1 x1 h1 => rw [q] at out; exact out
    | stuck => rw [q] at out; exact out
  | [v], _ =>
    have n1 : noStar [v] = true := hs
    have s1 := noStar_cons (r := []) (env := X.env) n1
    have few : ((backTo pos (starEach [v] X.env)).all (fun x => !x.1) && (backToKw pos (keywordEach [] X.env)).all (fun x => x.1.isSome) && decide (([v] : List Expr).length + ([] : List Keyword).length + (if ([] : List Keyword).isEmpty then 0 else 1) < 30)) = true := by
      rw [s1]; rfl
    cases m
    case append => exact PE.imp (pe_bm PySem.F.plainAttrs_list PySem.F.slot_list_append PySem.F.type_list_append (mt_append' (S := T.S) (X := X)) ho ha hb few hl s1 rfl) fun σ H Q hq => mt_read (fun _ _ _ => rfl) cx hq
    case extend => exact PE.imp (pe_bm PySem.F.plainAttrs_list PySem.F.slot_list_extend PySem.F.type_list_extend (mt_extend' (S := T.S) (X := X) cx.K) ho ha hb few hl s1 rfl) fun σ H Q hq => mt_read (fun _ _ _ => rfl) cx hq
    case pop0 => exact absurd (hmz rfl) (by simp)
    case pop1 => exact PE.imp (pe_bm PySem.F.plainAttrs_list PySem.F.slot_list_pop PySem.F.type_list_pop (mt_popAt' (S := T.S) (X := X)) ho ha hb few hl s1 rfl) fun σ H Q hq => mt_read (fun _ _ _ => rfl) cx hq
    case index => exact absurd he (by decide)
    case count => exact absurd he (by decide)

/-! ### new lists -/
theorem lcL_lst : True := trivial
theorem evF_lst {e : FE} {f : Ev.Fr} {h h1 : Mem} {d : D} (q : evF C e f h = .ok d h1) : ∃ ds, d = .lst ds := by
  cases e <;> rw [Ev.evF] at q
  all_goals
    repeat' (split at q)
  all_goals first | (cases q; exact ⟨_, rfl⟩) | (cases q; done) | skip
  all_goals
    rename_i r hne
    exact absurd q (by
      intro q
      simp_all)
theorem fr_read {e : FE} {σ : L2.St} {H : L2.Hp} {Q : VK} (hq : tE T.S W (evE C (.fr e)) σ H Q) : tF T.S W (evF C e) σ H Q := by
  obtain ⟨g, f, h, R, Fr, out⟩ := hq
  rw [Ev.evE] at out
  refine ⟨g, f, h, R, Fr, ?_⟩
  cases q : evF C e f h with
  | ok d h1 =>
    rw [q] at out
    obtain ⟨ds, rfl⟩ := evF_lst q
    refine ⟨ds, rfl, fun p vs g' H' hp st R' hH hF nb w => ?_⟩
    obtain ⟨R2, E⟩ := R'.freeze hH nb
    have E := E hF
    exact out (.ref p) _ H' ⟨st.ext.trans E, st.dead, st.fresh, st.keep, st.there, fun b u e nb' f => by
      show upd g'.F p (.lst vs) b = none
      rw [upd_ne (fun z => by rw [z, hp] at e; cases e)]
      exact st.frz b u e nb' f⟩ R2 ⟨p, vs, rfl, upd_same, VDs.mono E ds vs w⟩
  | exc c1 x1 h1 => rw [q] at out; exact out
  | stuck => rw [q] at out; exact out
theorem nd_fr {e : FE} (hf : PE X x (tF T.S W (evF C e))) : PE X x (tE T.S W (evE C (.fr e))) := PE.imp hf fun σ H Q hq => fr_read hq
theorem nw_read {e : FE} {σ : L2.St} {H : L2.Hp} {Q : VK} (hq : tE T.S W (evE C (.nw e)) σ H Q) : tF T.S W (evF C e) σ H Q := by
  obtain ⟨g, f, h, R, Fr, out⟩ := hq
  rw [Ev.evE] at out
  refine ⟨g, f, h, R, Fr, ?_⟩
  cases q : evF C e f h with
  | ok d h1 =>
    rw [q] at out
    obtain ⟨ds, rfl⟩ := evF_lst q
    refine ⟨ds, rfl, fun p vs g' H' hp st R' hH hF nb w => ?_⟩
    obtain ⟨g2, R2, s2, V2⟩ := new_box R' hH hF nb w R st hp
    exact out (.ref p) g2 H' s2 R2 V2
  | exc c1 x1 h1 => rw [q] at out; exact out
  | stuck => rw [q] at out; exact out
theorem nd_nw {e : FE} (hf : PE X x (tF T.S W (evF C e))) : PE X x (tE T.S W (evE C (.nw e))) := PE.imp hf fun σ H Q hq => nw_read hq
/-- a new list is laid behind a step -/
theorem outF_new {g g1 : G} {h h1 : Mem} {H H1 : L2.Hp} {Q : VK} {ds : List D} {ws : List V} {p : Addr} (R : Rel T.S g h H) (R1 : Rel T.S g1 h1 H1) (s1 : Step g h H g1 h1 H1) (hp : H1 p = none) (w : VDs T.S g1 ds ws)
    (out : ∀ p vs g' H', H p = none → Step g h H g' h1 H' → Rel T.S g' h1 H' → H' p = some (.lst vs) → g'.F p = none → (∀ n, g'.μ[n]? = some p → ¬ live h1 n) → VDs T.S g' ds vs → Q (.ref p) H') : Q (.ref p) (upd H1 p (.lst ws)) :=
  out p ws g1 _ (s1.back hp) (s1.trans R R1 (Step.new R1 hp)) (R1.new hp) upd_same (R1.free hp) (fun n e => R1.notBox hp e) w
theorem nd_lst (cx : Cxt T k X W sc) (ha : PA X vs (tL T.S W (evL C es))) : PE X (.List vs pos) (tF T.S W (evF C (.lst es))) := by
  refine PE.imp (pe_lst ha) ?_
  rintro σ H Q ⟨g, f, h, R, Fr, out⟩
  rw [Ev.evF] at out
  refine tL_bind R Fr ?_
  cases qa : evL C es f h with
  | ok ds h1 =>
    rw [qa] at out
    intro ws g1 H1 s1 R1 V1 F1
    dsimp only at out
    split at out
    · rename_i hl
      obtain ⟨ds', e, out⟩ := out
      cases e
      exact ⟨by rw [← VDs.length V1]; exact lim_of hl, fun p hp => outF_new R R1 s1 hp V1 out⟩
    · exact False.elim out
  | exc c1 x1 h1 => rw [qa] at out; exact out
  | stuck => rw [qa] at out; exact out
/-- one argument alone -/
theorem pa_one (hs : noStar [x] = true) (ha : PE X x (tE T.S W (evE C a))) : PA X [x] (tL T.S W (evL C (.cons a .nil))) := nd_cons hs ha nd_nil
theorem tL_one {σ : L2.St} {H : L2.Hp} {Q : VK} (hq : tE T.S W (evE C a) σ H Q) : tL T.S W (evL C (.cons a .nil)) σ H fun vs H1 => ∃ v, vs = [v] ∧ Q v H1 := by
  obtain ⟨g, f, h, R, Fr, out⟩ := hq
  refine ⟨g, f, h, R, Fr, ?_⟩
  rw [Ev.evL]
  cases q : evE C a f h with
  | ok d h1 =>
    rw [q] at out
    simp only [Ev.evL]
    intro vs g1 H1 s1 R1 V1
    obtain ⟨v, e, V⟩ := VDs.one_of V1
    exact ⟨v, e, out v g1 H1 s1 R1 V⟩
  | exc c1 x1 h1 => rw [q] at out; exact out
  | stuck => rw [q] at out; exact out
theorem nd_sorted (cx : Cxt T k X W sc) {np : Pos} {n : Str} (hn : n = "sorted") (hg : glB sc n = true) (hs : noStar [x] = true) (ha : PE X x (tE T.S W (evE C a))) : PE X (.Call (.Name n np) [x] [] pos) (tF T.S W (evF C (.sorted a))) := by
  obtain ⟨g1, g2⟩ := cx.gl_of hg
  subst hn
  have hu := cx.units
  refine PE.imp (pe_callB (call_sorted (S := T.S) cx.K (by omega)) g1 (by rw [cx.mg]; exact cx.ok.blt "sorted" (by decide)) (by decide +kernel) (pa_one hs ha) (by decide) g2 (noStar_cons hs) rfl) ?_
  rintro σ H Q ⟨g, f, h, R, Fr, out⟩
  rw [Ev.evF] at out
  have rd : tE T.S W (evE C a) σ H fun v H1 => ∃ g h p ws ds, Rel T.S g h H1 ∧ v = .ref p ∧ H1 p = some (.lst ws) ∧ VDs T.S g ds ws ∧ Ev.canSort ds = true ∧ ds.length ≤ Ev.LIM ∧
      ∀ q us, H1 q = none → VDs T.S g (Ev.sortD ds) us → Q (.ref q) (upd H1 q (.lst us)) := by
    refine tE_bind R Fr ?_
    cases qa : evE C a f h with
    | ok d1 h1 =>
      rw [qa] at out
      intro v g1 H1 s1 R1 V1 F1
      dsimp only at out
      have vh := shal_vh R1 V1
      cases qs : Ev.shal h1 d1 with
      | lst t =>
        rw [qs] at out vh
        obtain ⟨p1, ws, e1, e2, e3⟩ := vh
        dsimp only at out
        split at out
        · rename_i hl
          rw [Bool.and_eq_true, decide_eq_true_eq] at hl
          obtain ⟨ds', e, out⟩ := out
          cases e
          exact ⟨g1, h1, p1, ws, t, R1, e1, e2, e3, hl.1, hl.2, fun q us hq w => outF_new R R1 s1 hq w out⟩
        · exact False.elim out
      | _ => rw [qs] at out; exact False.elim out
    | exc c1 x1 h1 => rw [qa] at out; exact out
    | stuck => rw [qa] at out; exact out
  obtain ⟨g', f', h', R', Fr', o⟩ := tL_one rd
  refine ⟨g', f', h', R', Fr', ?_⟩
  cases q : evL C (.cons a .nil) f' h' with
  | ok ds h1 =>
    rw [q] at o
    intro vs g1 H1 s1 R1 V1
    obtain ⟨v, e1, g3, h3, p3, ws, ds3, r3, e3, rest⟩ := o vs g1 H1 s1 R1 V1
    subst e3
    exact ⟨g3, h3, p3, ws, ds3, r3, e1, rest⟩
  | exc c1 x1 h1 => rw [q] at o; exact o
  | stuck => rw [q] at o; exact o
theorem nd_list (cx : Cxt T k X W sc) {np : Pos} {n : Str} (hn : n = "list") (hg : glB sc n = true) (hs : noStar [x] = true) (ha : PE X x (tE T.S W (evE C a))) : PE X (.Call (.Name n np) [x] [] pos) (tF T.S W (evF C (.list_ a))) := by
  obtain ⟨g1, g2⟩ := cx.gl_of hg
  subst hn
  refine PE.imp (pe_callTy call_list_of g1 (by rw [cx.mg]; exact cx.ok.blt "list" (by decide)) (by decide +kernel) (pa_one hs ha) (by decide) g2 (noStar_cons hs) rfl) ?_
  rintro σ H Q ⟨g, f, h, R, Fr, out⟩
  rw [Ev.evF] at out
  have rd : tE T.S W (evE C a) σ H fun v H1 => ∃ p ws, v = .ref p ∧ (SqL X.K H1 p ws ∨ SqT X.K H1 p ws) ∧ ∀ q, H1 q = none → Q (.ref q) (upd H1 q (.lst ws)) := by
    refine tE_bind R Fr ?_
    cases qa : evE C a f h with
    | ok d1 h1 =>
      rw [qa] at out
      intro v g1 H1 s1 R1 V1 F1
      dsimp only at out
      have vh := shal_vh R1 V1
      cases qs : Ev.seqD (Ev.shal h1 d1) with
      | none => rw [qs] at out; exact False.elim out
      | some xs =>
        rw [qs] at out
        obtain ⟨ds', e, out⟩ := out
        cases e
        unfold Ev.seqD at qs
        split at qs
        · rename_i q
          rw [q] at vh
          cases qs
          obtain ⟨p1, ws, e1, e2, e3⟩ := vh
          exact ⟨p1, ws, e1, .inr (by rw [cx.K]; exact sqT_mono R1.fz e2), fun q hq => outF_new R R1 s1 hq e3 out⟩
        · rename_i q
          rw [q] at vh
          cases qs
          obtain ⟨p1, ws, e1, e2, e3⟩ := vh
          exact ⟨p1, ws, e1, .inl (.of e2), fun q hq => outF_new R R1 s1 hq e3 out⟩
        · cases qs
    | exc c1 x1 h1 => rw [qa] at out; exact out
    | stuck => rw [qa] at out; exact out
  obtain ⟨g', f', h', R', Fr', o⟩ := tL_one rd
  refine ⟨g', f', h', R', Fr', ?_⟩
  cases q : evL C (.cons a .nil) f' h' with
  | ok ds h1 =>
    rw [q] at o
    intro vs g1 H1 s1 R1 V1
    obtain ⟨v, e1, p3, ws, e3, rest⟩ := o vs g1 H1 s1 R1 V1
    subst e3
    exact ⟨p3, ws, e1, rest⟩
  | exc c1 x1 h1 => rw [q] at o; exact o
  | stuck => rw [q] at o; exact o
theorem nd_rev (cx : Cxt T k X W sc) {j : Nat} {p1 p2 p3 : Pos} (ha : PE X x (tE T.S W (evE C a))) : PE X (.Subscript x (.Slice none none (some (.UnaryOp .USub (.Constant (.int 1) j p1) p2)) p3) pos) (tF T.S W (evF C (.rev a))) := by
  refine PE.imp (pe_revL ha) ?_
  rintro σ H Q ⟨g, f, h, R, Fr, out⟩
  rw [Ev.evF] at out
  refine tE_bind R Fr ?_
  cases qa : evE C a f h with
  | ok d1 h1 =>
    rw [qa] at out
    intro v g1 H1 s1 R1 V1 F1
    dsimp only at out
    have vh := shal_vh R1 V1
    cases qs : Ev.shal h1 d1 with
    | lst t =>
      rw [qs] at out vh
      obtain ⟨p1, ws, e1, e2, e3⟩ := vh
      obtain ⟨ds', e, out⟩ := out
      cases e
      exact ⟨p1, ws, e1, .of e2, fun q hq => outF_new R R1 s1 hq e3.reverse out⟩
    | _ => rw [qs] at out; exact False.elim out
  | exc c1 x1 h1 => rw [qa] at out; exact out
  | stuck => rw [qa] at out; exact out
theorem nd_rep (cx : Cxt T k X W sc) (ha : PE X x (tE T.S W (evE C a))) (hb : PE X y (tE T.S W (evE C b))) : PE X (.BinOp x .Mult y pos) (tF T.S W (evF C (.rep a b))) := by
  refine PE.imp (pe_op op_rep ha hb) ?_
  rintro σ H Q ⟨g, f, h, R, Fr, out⟩
  rw [Ev.evF] at out
  refine tE_bind R Fr ?_
  cases qa : evE C a f h with
  | ok d1 h1 =>
    rw [qa] at out
    intro v g1 H1 s1 R1 V1 F1
    refine tE_bind R1 F1 ?_
    dsimp only at out
    cases qb : evE C b f h1 with
    | ok d2 h2 =>
      rw [qb] at out
      intro u g2 H2 s2 R2 V2 F2
      cases d2 with
      | int i =>
        cases V2
        dsimp only at out
        have vh := shal_vh R2 (VD.mono s2.ext _ _ V1)
        cases qs : Ev.shal h2 d1 with
        | lst t =>
          rw [qs] at out vh
          obtain ⟨p1, ws, e1, e2, e3⟩ := vh
          dsimp only at out
          split at out
          · rename_i hl
            obtain ⟨ds', e, out⟩ := out
            cases e
            have hL : (Ev.LIM : Int) < 2 ^ 62 := by decide
            exact ⟨p1, i, ws, e1, rfl, e2, by omega, by omega, by rw [← VDs.length e3]; exact lim_of hl.2.2, fun q hq => outF_new R R2 (s1.trans R R1 s2) hq (VDs.rep _ e3) out⟩
          · exact False.elim out
        | _ => rw [qs] at out; exact False.elim out
      | _ => exact False.elim out
    | exc c1 x1 h2 => rw [qb] at out; exact OkW.shift R R1 s1 out
    | stuck => rw [qb] at out; exact out
  | exc c1 x1 h1 => rw [qa] at out; exact out
  | stuck => rw [qa] at out; exact out
end
end So
end
section
set_option Elab.async false
set_option autoImplicit false
set_option linter.all false
/-! S10: targets, what is walked, comprehensions. -/
namespace So
open PySem PySem.Spec PyProof.Rows L2
open Ev (D Ob Mem R RS RL RB Bop Cop Bi Mt CE CEs CT CTs FE Src CO Tg Tgs evE evL evT evF evO evAnd evOr evTA evTO evSrc)

/-! ### targets -/
mutual
def SetT (S : Sx) (g : G) : Tg → D → L2.St → L2.St → Prop
  | .nm i, d, σ, σ' => ∃ v, VD S g d v ∧ σ' = σ.set i (some v)
  | .tp ts, .tup ds, σ, σ' => SetTs S g ts ds σ σ'
  | .tp ts, .lst ds, σ, σ' => SetTs S g ts ds σ σ'
  | _, _, _, _ => False
def SetTs (S : Sx) (g : G) : Tgs → List D → L2.St → L2.St → Prop
  | .nil, [], σ, σ' => σ' = σ
  | .cons t ts, d :: ds, σ, σ' => ∃ σ1, SetT S g t d σ σ1 ∧ SetTs S g ts ds σ1 σ'
  | _, _, _, _ => False
end
mutual
def okTg : Tg → D → Prop
  | .nm _, _ => True
  | .tp ts, .tup ds => okTgs ts ds
  | .tp ts, .lst ds => okTgs ts ds
  | _, _ => False
def okTgs : Tgs → List D → Prop
  | .nil, [] => True
  | .cons t ts, d :: ds => okTg t d ∧ okTgs ts ds
  | _, _ => False
end
def FrRp (S : Sx) (P : Nat → Prop) (g : G) (f : Ev.Fr) (σ : L2.St) : Prop :=
  f.length = σ.length ∧ ∀ (i : Nat) d, P i → f[i]? = some (some d) → ∃ v, σ[i]? = some (some v) ∧ VD S g d v
section
variable {S : Sx} {g g' : G}
mutual
theorem asgT_ok : ∀ (t : Tg) (d : D) (f f' : Ev.Fr), Ev.asgT t d f = some f' → okTg t d
  | .nm _, _, _, _, _ => trivial
  | .tp ts, d, f, f', q => by
    cases d with
    | tup ds => exact asgTs_ok ts ds f f' q
    | lst ds => exact asgTs_ok ts ds f f' q
    | _ => cases q
theorem asgTs_ok : ∀ (ts : Tgs) (ds : List D) (f f' : Ev.Fr), Ev.asgTs ts ds f = some f' → okTgs ts ds
  | .nil, ds, f, f', q => by
    cases ds with
    | nil => trivial
    | cons d ds => cases q
  | .cons t ts, ds, f, f', q => by
    cases ds with
    | nil => cases q
    | cons d ds =>
      rw [Ev.asgTs] at q
      cases k : Ev.asgT t d f with
      | none => rw [k] at q; cases q
      | some f1 =>
        rw [k] at q
        exact ⟨asgT_ok t d f f1 k, asgTs_ok ts ds f1 f' q⟩
end
mutual
theorem set_fr : ∀ (t : Tg) (d : D) (f f' : Ev.Fr) (σ σ' : L2.St) (P : Nat → Prop), Ev.asgT t d f = some f' → SetT S g t d σ σ' → FrRp S P g f σ → FrRp S (fun i => P i ∨ i ∈ tslots t) g f' σ'
  | .nm i, d, f, f', σ, σ', P, q, ⟨v, V, e⟩, r => by
    subst e
    rw [Ev.asgT] at q
    split at q
    · rename_i hl
      cases q
      refine ⟨by simp [r.1], fun j d' hj e => ?_⟩
      by_cases k : i = j
      · subst k
        rw [List.getElem?_set_self hl] at e
        cases e
        exact ⟨v, List.getElem?_set_self (by rw [← r.1]; exact hl), V⟩
      · rw [List.getElem?_set_ne k] at e ⊢
        rcases hj with hj | hj
        · exact r.2 j d' hj e
        · exact absurd (show j = i by simpa [tslots] using hj) (fun z => k z.symm)
    · cases q
  | .tp ts, d, f, f', σ, σ', P, q, st, r => by
    cases d with
    | tup ds => exact sets_fr ts ds f f' σ σ' P q st r
    | lst ds => exact sets_fr ts ds f f' σ σ' P q st r
    | _ => cases q
theorem sets_fr : ∀ (ts : Tgs) (ds : List D) (f f' : Ev.Fr) (σ σ' : L2.St) (P : Nat → Prop), Ev.asgTs ts ds f = some f' → SetTs S g ts ds σ σ' → FrRp S P g f σ → FrRp S (fun i => P i ∨ i ∈ tsslots ts) g f' σ'
  | .nil, ds, f, f', σ, σ', P, q, st, r => by
    cases ds with
    | nil =>
      cases q
      have : σ' = σ := st
      subst this
      exact ⟨r.1, fun i d hi e => r.2 i d (hi.elim id fun z => by simp [tsslots] at z) e⟩
    | cons d ds => cases q
  | .cons t ts, ds, f, f', σ, σ', P, q, st, r => by
    cases ds with
    | nil => cases q
    | cons d ds =>
      rw [Ev.asgTs] at q
      cases k : Ev.asgT t d f with
      | none => rw [k] at q; cases q
      | some f1 =>
        rw [k] at q
        obtain ⟨σ1, s1, s2⟩ := st
        have r1 := set_fr t d f f1 σ σ1 P k s1 r
        have r2 := sets_fr ts ds f1 f' σ1 σ' _ q s2 r1
        refine ⟨r2.1, fun i d hi e => r2.2 i d ?_ e⟩
        rcases hi with hi | hi
        · exact .inl (.inl hi)
        · rw [tsslots, List.mem_append] at hi
          rcases hi with hi | hi
          · exact .inl (.inr hi)
          · exact .inr hi
end
theorem wipe_set {σ : L2.St} {i : Nat} {v : Option V} : ∀ {vs : List Nat}, i ∈ vs → wipe (σ.set i v) vs = wipe σ vs
  | [], h => by simp at h
  | w :: vs, h => by
    show (wipe (σ.set i v) vs).set w none = (wipe σ vs).set w none
    by_cases q : i ∈ vs
    · rw [wipe_set q]
    · have : i = w := by
        rcases List.mem_cons.mp h with z | z
        · exact z
        · exact absurd z q
      subst this
      have aux : ∀ (us : List Nat) (τ : L2.St), i ∉ us → wipe (τ.set i v) us = (wipe τ us).set i v := by
        intro us
        induction us with
        | nil => intro τ _; rfl
        | cons u us ih =>
          intro τ hn
          show (wipe (τ.set i v) us).set u none = ((wipe τ us).set u none).set i v
          rw [ih τ (fun z => hn (List.mem_cons_of_mem _ z)), List.set_comm]
          exact fun z => hn (by rw [z]; exact List.mem_cons_self)
      rw [aux vs σ q, List.set_set]
mutual
theorem set_wipe : ∀ (t : Tg) (d : D) (σ σ' : L2.St) (vs : List Nat), SetT S g t d σ σ' → (∀ i ∈ tslots t, i ∈ vs) → wipe σ' vs = wipe σ vs
  | .nm i, d, σ, σ', vs, ⟨v, V, e⟩, h => by
    subst e
    exact wipe_set (h i (by simp [tslots]))
  | .tp ts, d, σ, σ', vs, st, h => by
    cases d with
    | tup ds => exact sets_wipe ts ds σ σ' vs st h
    | lst ds => exact sets_wipe ts ds σ σ' vs st h
    | _ => exact False.elim st
theorem sets_wipe : ∀ (ts : Tgs) (ds : List D) (σ σ' : L2.St) (vs : List Nat), SetTs S g ts ds σ σ' → (∀ i ∈ tsslots ts, i ∈ vs) → wipe σ' vs = wipe σ vs
  | .nil, ds, σ, σ', vs, st, h => by
    cases ds with
    | nil =>
      have : σ' = σ := st
      subst this
      rfl
    | cons d ds => exact False.elim st
  | .cons t ts, ds, σ, σ', vs, st, h => by
    cases ds with
    | nil => exact False.elim st
    | cons d ds =>
      obtain ⟨σ1, s1, s2⟩ := st
      rw [sets_wipe ts ds σ1 σ' vs s2 fun i hi => h i (by rw [tsslots]; exact List.mem_append_right _ hi), set_wipe t d σ σ1 vs s1 fun i hi => h i (by rw [tsslots]; exact List.mem_append_left _ hi)]
end
def tG (S : Sx) (t : Tg) : TG := fun v σ H Q => ∃ g h d, Rel S g h H ∧ VD S g d v ∧ okTg t d ∧ ∀ σ', SetT S g t d σ σ' → Q σ' H
def tGs (S : Sx) (ts : Tgs) : TGs := fun vs σ H Q => ∃ g h ds, Rel S g h H ∧ VDs S g ds vs ∧ okTgs ts ds ∧ ∀ σ', SetTs S g ts ds σ σ' → Q σ' H
end
section
variable {T : Tx} {k : Nat} {X : Cx} {W : WX} {sc : Sc}
theorem assignEach_len : ∀ (es : List Expr) (env : Env), (assignEach es env).length = es.length
  | [], _ => rfl
  | e :: es, env => by
    have := assignEach_len es env
    cases e <;> simp [assignEach, this]
theorem assignEach_nostar : ∀ (es : List Expr) (env : Env), noStar es = true → (assignEach es env).findIdx? (·.1) = none
  | [], _, _ => rfl
  | e :: es, env, h => by
    have ih := assignEach_nostar es env (noStar_head h).2
    cases e <;> first | (simp [noStar] at h; done) | (rw [List.findIdx?_eq_none_iff] at ih ⊢; intro x hx; rcases List.mem_cons.mp (show x ∈ _ :: assignEach es env from hx) with z | z; (subst z; rfl); exact ih x z)
theorem ckTgs_noStar : ∀ {ts : Tgs} {es : List Expr}, ckTgs sc ts es = true → noStar es = true
  | .nil, [], _ => rfl
  | .nil, _ :: _, h => by simp [ckTgs] at h
  | .cons _ _, [], h => by simp [ckTgs] at h
  | .cons t ts, e :: es, h => by
    rw [ckTgs, Bool.and_eq_true, Bool.and_eq_true] at h
    have ih := ckTgs_noStar (ts := ts) h.2
    have h1 := h.1.2
    cases e <;> first | exact ih | (simp [noStar] at h1)
theorem okTgs_len : ∀ {ts : Tgs} {es : List Expr} {ds : List D}, ckTgs sc ts es = true → okTgs ts ds → ds.length = es.length
  | .nil, [], [], _, _ => rfl
  | .nil, [], _ :: _, _, h => False.elim h
  | .nil, _ :: _, _, h, _ => by simp [ckTgs] at h
  | .cons _ _, [], _, h, _ => by simp [ckTgs] at h
  | .cons _ _, _ :: _, [], _, h => False.elim h
  | .cons t ts, e :: es, d :: ds, h, o => by
    rw [ckTgs, Bool.and_eq_true, Bool.and_eq_true] at h
    have := okTgs_len (ts := ts) h.2 o.2
    simp [this]
mutual
theorem sTg (cx : Cxt T k X W sc) : ∀ (t : Tg) (e : Expr), ckTg sc t e = true → PG X e (tG T.S t)
  | .nm i, e, h => by
    cases e <;> simp only [ckTg] at h <;> try (cases h; done)
    rename_i n np
    rw [Bool.and_eq_true, decide_eq_true_eq] at h
    obtain ⟨h1, h2⟩ := cx.oc n h.2
    refine ⟨fun pins s σ H v u Q I r hq => ?_⟩
    obtain ⟨g, m, d, R, V, _, q⟩ := hq
    exact (pg_name (i := i) (by rw [cx.N]; exact cx.nd) (by rw [cx.N]; exact h.1) h1 h2).run pins s σ H v u Q I r (q _ ⟨v, V, rfl⟩)
  | .tp ts, e, h => by
    cases e <;> simp only [ckTg] at h <;> try (cases h; done)
    rename_i es j tp
    have ns := ckTgs_noStar h
    have gs := sTgs cx ts es h
    refine ⟨fun pins s σ H v u Q I r hq => ?_⟩
    obtain ⟨g, m, d, R, V, o, q⟩ := hq
    cases d with
    | tup ds =>
      obtain ⟨a, vs, e1, e2, e3⟩ := V
      refine (pg_tup cx.calm gs (assignEach_len es _) (assignEach_nostar es _ ns)).run pins s σ H v u Q I r ⟨a, vs, e1, by rw [cx.K]; exact sqT_mono R.fz e2, by rw [← VDs.length e3]; exact okTgs_len h o, g, m, ds, R, e3, o, fun σ' st => q σ' st⟩
    | lst ds =>
      obtain ⟨a, vs, e1, e2, e3⟩ := V
      refine (pg_lst cx.calm gs (assignEach_len es _) (assignEach_nostar es _ ns)).run pins s σ H v u Q I r ⟨a, vs, e1, .of (R.fz _ _ e2), by rw [← VDs.length e3]; exact okTgs_len h o, g, m, ds, R, e3, o, fun σ' st => q σ' st⟩
    | _ => exact False.elim o
theorem sTgs (cx : Cxt T k X W sc) : ∀ (ts : Tgs) (es : List Expr), ckTgs sc ts es = true → PGs X es (tGs T.S ts)
  | .nil, es, h => by
    cases es with
    | nil =>
      refine ⟨fun pins s σ H vs us Q I r hq => ?_⟩
      obtain ⟨g, m, ds, R, V, o, q⟩ := hq
      cases ds with
      | nil =>
        have : vs = [] := V
        subst this
        exact pgs_nil.run pins s σ H [] us Q I r ⟨rfl, q σ rfl⟩
      | cons d ds => exact False.elim o
    | cons e es => simp [ckTgs] at h
  | .cons t ts, es, h => by
    cases es with
    | nil => simp [ckTgs] at h
    | cons e es =>
      rw [ckTgs, Bool.and_eq_true, Bool.and_eq_true] at h
      have g1 := sTg cx t e h.1.1
      have g2 := sTgs cx ts es h.2
      have h1 := h.1.2
      refine ⟨fun pins s σ H vs us Q I r hq => ?_⟩
      obtain ⟨g, m, ds, R, V, o, q⟩ := hq
      cases ds with
      | nil => exact False.elim o
      | cons d ds =>
        obtain ⟨v, vr, e1, V1, V2⟩ := V
        exact (pgs_cons g1 g2 (by cases e <;> first | rfl | (simp [noStar] at h1))).run pins s σ H vs us Q I r ⟨v, vr, e1, g, m, d, R, V1, o.1, fun σ1 s1 => ⟨g, m, ds, R, V2, o.2, fun σ2 s2 => q σ2 ⟨σ1, s1, s2⟩⟩⟩
end

/-! ### what is walked -/
/-- J walks what ds stands for -/
def Wk (S : Sx) (g : G) (ds : List D) (J : It) : Prop := ∀ (g2 : G) (h2 : Mem) (H2 : L2.Hp), Ext g g2 → Rel S g2 h2 H2 → ∀ i : Nat,
  (∀ d, ds[i]? = some d → J.go i H2 ∧ ∀ x H3, J.yld i H2 x H3 → ∃ g3, Rel S g3 h2 H3 ∧ Step g2 h2 H2 g3 h2 H3 ∧ VD S g3 d x) ∧ (ds.length ≤ i → J.stop i H2)
def tS (S : Sx) (W : WX) (ev : Ev.Fr → Mem → RL) : TI := fun σ H Rj => ∃ g f h, Rel S g h H ∧ FrR S g f σ ∧ match ev f h with
  | .ok ds h1 => ∀ J g1 H1, Step g h H g1 h1 H1 → Rel S g1 h1 H1 → Wk S g1 ds J → Rj J H1
  | .exc c x h1 => OkW S W σ g h H c x h1
  | .stuck => False
theorem wk_list {S : Sx} {g : G} {ds : List D} {a : Addr} {vs : List V} (e : g.F a = some (.lst vs)) (w : VDs S g ds vs) (K : PySem.W.Frag) : Wk S g ds (Itl K a) := by
  intro g2 h2 H2 E R i
  have q := R.fz a _ (E.fz a _ e)
  refine ⟨fun d hd => ?_, fun hl => ⟨vs, .of q, by rw [← VDs.length w]; exact hl⟩⟩
  obtain ⟨v, e1, e2⟩ := VDs.get w hd
  refine ⟨⟨vs, v, .of q, e1⟩, fun x H3 y => ?_⟩
  obtain ⟨e3, y⟩ := y
  subst e3
  have := y vs (.of q)
  rw [e1] at this
  cases this
  exact ⟨g2, R, Step.refl R, VD.mono E _ _ e2⟩
theorem wk_tup {S : Sx} {g : G} {ds : List D} {a : Addr} {vs : List V} {K : PySem.W.Frag} (hK : K = S.K) (e : SqT S.K g.F a vs) (w : VDs S g ds vs) : Wk S g ds (Itt K a) := by
  intro g2 h2 H2 E R i
  have q : SqT K H2 a vs := by rw [hK]; exact sqT_mono R.fz (sqT_mono E.fz e)
  refine ⟨fun d hd => ?_, fun hl => ⟨vs, q, by rw [← VDs.length w]; exact hl⟩⟩
  obtain ⟨v, e1, e2⟩ := VDs.get w hd
  refine ⟨⟨vs, v, q, e1⟩, fun x H3 y => ?_⟩
  obtain ⟨e3, y⟩ := y
  subst e3
  have := y vs q
  rw [e1] at this
  cases this
  exact ⟨g2, R, Step.refl R, VD.mono E _ _ e2⟩
theorem wk_str {S : Sx} {g : G} {s : List Nat} (o : OkS s) : Wk S g (s.map fun c => D.str [c]) (Its (tx s)) := by
  intro g2 h2 H2 E R i
  refine ⟨fun d hd => ?_, fun hl => by show (tx s).cps.size ≤ i; simpa [tx] using hl⟩
  have hi : i < s.length := by
    have := (List.getElem?_eq_some_iff.mp hd).1
    simpa using this
  refine ⟨by show i < (tx s).cps.size; simpa [tx] using hi, fun x H3 y => ?_⟩
  obtain ⟨e3, c, y1, y2⟩ := y
  subst e3; subst y2
  have e1 : s[i]? = some c := by simpa [tx] using y1
  rw [List.getElem?_map, e1] at hd
  cases hd
  exact ⟨g2, R, Step.refl R, rfl, fun c' hc => by
    simp at hc
    subst hc
    exact o _ (List.mem_of_getElem? e1)⟩
theorem rngL_len (c : Int) : ∀ (n : Nat) (lo : Int), (Ev.rngL lo c n).length = n
  | 0, _ => rfl
  | n + 1, lo => by simp [Ev.rngL, rngL_len c n]
theorem rngL_get (c : Int) : ∀ (n : Nat) (lo : Int) (i : Nat), i < n → (Ev.rngL lo c n)[i]? = some (.int (lo + i * c))
  | 0, _, _, h => by omega
  | n + 1, lo, 0, _ => by simp [Ev.rngL]
  | n + 1, lo, i + 1, h => by
    rw [Ev.rngL, List.getElem?_cons_succ, rngL_get c n (lo + c) i (by omega)]
    congr 2
    rw [Int.add_assoc, Int.natCast_succ, Int.add_mul, Int.one_mul]
    omega
theorem wk_rng {S : Sx} {g : G} {lo : Int} {n : Nat} : Wk S g (Ev.rngL lo 1 n) (Itr lo n) := by
  intro g2 h2 H2 E R i
  refine ⟨fun d hd => ?_, fun hl => by rw [rngL_len] at hl; exact hl⟩
  have hi : i < n := by
    have := (List.getElem?_eq_some_iff.mp hd).1
    rw [rngL_len] at this; exact this
  rw [rngL_get 1 n lo i hi] at hd
  cases hd
  refine ⟨hi, fun x H3 y => ?_⟩
  obtain ⟨e3, y⟩ := y
  subst e3; subst y
  exact ⟨g2, R, Step.refl R, by show V.int _ = V.int _; rw [Int.mul_one]⟩
theorem wk_rngC {S : Sx} {g : G} {lo c : Int} {n : Nat} : Wk S g (Ev.rngL lo c n) (Itc lo c n) := by
  intro g2 h2 H2 E R i
  refine ⟨fun d hd => ?_, fun hl => by rw [rngL_len] at hl; exact hl⟩
  have hi : i < n := by
    have := (List.getElem?_eq_some_iff.mp hd).1
    rw [rngL_len] at this; exact this
  rw [rngL_get c n lo i hi] at hd
  cases hd
  refine ⟨hi, fun x H3 y => ?_⟩
  obtain ⟨e3, y⟩ := y
  subst e3; subst y
  exact ⟨g2, R, Step.refl R, rfl⟩
variable {C : Ev.Cx} {a : CE} {x tg : Expr}
theorem nd_it (cx : Cxt T k X W sc) (ha : PE X x (tE T.S W (evE C a))) : PI X tg x (tS T.S W (evSrc C (.it a))) := by
  refine ⟨fun pins s σ H Rj I hq => ?_⟩
  obtain ⟨g, f, h, R, Fr, out⟩ := hq
  rw [Ev.evSrc] at out
  cases qa : evE C a f h with
  | ok d h1 =>
    rw [qa] at out
    dsimp only at out
    cases qd : Ev.itD d with
    | none => rw [qd] at out; exact False.elim out
    | some ds =>
      rw [qd] at out
      dsimp only at out
      have rd : ∀ Q : VK, (∀ v g1 H1, Step g h H g1 h1 H1 → Rel T.S g1 h1 H1 → VD T.S g1 d v → Q v H1) → tE T.S W (evE C a) σ H Q := fun Q hQ => ⟨g, f, h, R, Fr, by rw [qa]; exact hQ⟩
      unfold Ev.itD at qd
      split at qd
      · cases qd
        refine (pi_tup ha).run pins s σ H Rj I (rd _ fun v g1 H1 s1 R1 V1 => ?_)
        obtain ⟨p, vs, e1, e2, e3⟩ := V1
        exact ⟨p, e1, ⟨vs, by rw [cx.K]; exact sqT_mono R1.fz e2⟩, out _ g1 H1 s1 R1 (wk_tup cx.K e2 e3)⟩
      · cases qd
        refine (pi_list ha).run pins s σ H Rj I (rd _ fun v g1 H1 s1 R1 V1 => ?_)
        obtain ⟨p, vs, e1, e2, e3⟩ := V1
        exact ⟨p, e1, ⟨vs, .of (R1.fz _ _ e2)⟩, out _ g1 H1 s1 R1 (wk_list e2 e3 _)⟩
      · cases qd
        refine (pi_str ha).run pins s σ H Rj I (rd _ fun v g1 H1 s1 R1 V1 => ?_)
        obtain ⟨e1, o⟩ := V1
        exact ⟨_, e1, out _ g1 H1 s1 R1 (wk_str o)⟩
      · cases qd
  | exc c1 x1 h1 =>
    rw [qa] at out
    exact (pi_tup ha).run pins s σ H Rj I ⟨g, f, h, R, Fr, by rw [qa]; exact out⟩
  | stuck => rw [qa] at out; exact False.elim out
theorem small_of {i : Int} (h : Ev.small62 i = true) : -(2 ^ 62) ≤ i ∧ i < 2 ^ 62 := by
  unfold Ev.small62 at h
  simpa using h
theorem nd_rng (cx : Cxt T k X W sc) {es : CEs} {n : Str} {np pos : Pos} {vs : List Expr} (hn : n = "range") (hg : glB sc n = true) (hs : noStar vs = true) (he : vs ≠ []) (ha : PA X vs (tL T.S W (evL C es))) (hl : vs.length ≤ 3)
    (hlen : ∀ f h ds h1, evL C es f h = .ok ds h1 → ds.length = vs.length) : PI X tg (.Call (.Name n np) vs [] pos) (tS T.S W (evSrc C (.rng es))) := by
  obtain ⟨g1, g2⟩ := cx.gl_of hg
  subst hn
  have hm : X.mg "range" = none := by rw [cx.mg]; exact cx.ok.blt "range" (by decide)
  have key : ∀ {σ : L2.St} {H : L2.Hp} {Rj : It → L2.Hp → Prop}, tS T.S W (evSrc C (.rng es)) σ H Rj → tL T.S W (evL C es) σ H fun us H1 => ∃ g1 h1 ds xs, Rel T.S g1 h1 H1 ∧ VDs T.S g1 ds us ∧ Ev.rngD ds = some xs ∧ ds.length = vs.length ∧ ∀ J, Wk T.S g1 xs J → Rj J H1 := fun {σ H Rj} hq => by
    obtain ⟨g, f, h, R, Fr, out⟩ := hq
    rw [Ev.evSrc] at out
    refine tL_bind R Fr ?_
    cases qa : evL C es f h with
    | ok ds h1 =>
      rw [qa] at out
      intro us g1 H1 s1 R1 V1 F1
      dsimp only at out
      cases qr : Ev.rngD ds with
      | none => rw [qr] at out; exact False.elim out
      | some xs =>
        rw [qr] at out
        exact ⟨g1, h1, ds, xs, R1, V1, qr, hlen f h ds h1 qa, fun J w => out J g1 H1 s1 R1 w⟩
    | exc c1 x1 h1 => rw [qa] at out; exact out
    | stuck => rw [qa] at out; exact out
  match vs, he, hl with
  | [v], _, _ =>
    refine PI.imp (pi_range1 g1 hm ha (noStar_cons hs)) fun σ H Rj hq => ?_
    obtain ⟨g, f, h, R, Fr, o⟩ := key hq
    refine ⟨g, f, h, R, Fr, ?_⟩
    cases q : evL C es f h with
    | ok ds h1 =>
      rw [q] at o
      intro us g1 H1 s1 R1 V1
      obtain ⟨g2, h2, ds2, xs, R2, V2, qr, hl2, k⟩ := o us g1 H1 s1 R1 V1
      unfold Ev.rngD at qr
      split at qr <;> try (first | (cases qr; done) | (simp at hl2; done))
      split at qr
      · rename_i n hn
        cases qr
        obtain ⟨v2, e, V⟩ := VDs.one_of V2
        cases V
        exact ⟨n, e, (small_of hn).1, (small_of hn).2, k _ wk_rng⟩
      · cases qr
    | exc c1 x1 h1 => rw [q] at o; exact o
    | stuck => rw [q] at o; exact o
  | [v, w], _, _ =>
    obtain ⟨n1, n2⟩ := noStar_head hs
    refine PI.imp (pi_range2 g1 hm ha (by rw [noStar_cons n1, noStar_cons n2]; rfl) (noStar_cons n2)) fun σ H Rj hq => ?_
    obtain ⟨g, f, h, R, Fr, o⟩ := key hq
    refine ⟨g, f, h, R, Fr, ?_⟩
    cases q : evL C es f h with
    | ok ds h1 =>
      rw [q] at o
      intro us g1 H1 s1 R1 V1
      obtain ⟨g2, h2, ds2, xs, R2, V2, qr, hl2, k⟩ := o us g1 H1 s1 R1 V1
      unfold Ev.rngD at qr
      split at qr <;> try (first | (cases qr; done) | (simp at hl2; done))
      split at qr
      · rename_i i j hn
        rw [Bool.and_eq_true] at hn
        cases qr
        obtain ⟨v2, w2, e, V, V'⟩ := VDs.two_of V2
        cases V; cases V'
        exact ⟨i, j, e, ⟨(small_of hn.1).1, (small_of hn.1).2, (small_of hn.2).1, (small_of hn.2).2⟩, k _ wk_rng⟩
      · cases qr
    | exc c1 x1 h1 => rw [q] at o; exact o
    | stuck => rw [q] at o; exact o
  | [v, w, z], _, _ =>
    obtain ⟨n1, n2⟩ := noStar_head hs
    obtain ⟨n2, n3⟩ := noStar_head n2
    refine PI.imp (pi_range3 g1 hm ha (by rw [noStar_cons n1]) (noStar_any (by cases w <;> first | exact n3 | (simp [noStar] at n2)))) fun σ H Rj hq => ?_
    obtain ⟨g, f, h, R, Fr, o⟩ := key hq
    refine ⟨g, f, h, R, Fr, ?_⟩
    cases q : evL C es f h with
    | ok ds h1 =>
      rw [q] at o
      intro us g1 H1 s1 R1 V1
      obtain ⟨g2, h2, ds2, xs, R2, V2, qr, hl2, k⟩ := o us g1 H1 s1 R1 V1
      unfold Ev.rngD at qr
      split at qr <;> try (first | (cases qr; done) | (simp at hl2; done))
      split at qr
      · rename_i i j c hn
        simp only [Bool.and_eq_true, decide_eq_true_eq] at hn
        obtain ⟨⟨h3, h4⟩, h5⟩ := hn
        subst h5
        cases qr
        obtain ⟨v2, vr, e, V, V3⟩ := V2
        obtain ⟨w2, z2, e2, V', V''⟩ := VDs.two_of V3
        subst e2
        cases V; cases V'; cases V''
        exact ⟨i, j, -1, _, e, RgC.neg (small_of h3).1 (small_of h3).2 (small_of h4).1 (small_of h4).2, k _ wk_rngC⟩
      · cases qr
    | exc c1 x1 h1 => rw [q] at o; exact o
    | stuck => rw [q] at o; exact o
end
end So
end
section
set_option Elab.async false
set_option autoImplicit false
set_option linter.all false
/-! S11: tests, comprehensions, and all expressions at once. -/
namespace So
open PySem PySem.Spec PyProof.Rows L2
open Ev (D Ob Mem R RS RL RB Bop Cop Bi Mt CE CEs CT CTs FE Src CO Tg Tgs evE evL evT evF evO evAnd evOr evTA evTO evSrc)

section
variable {T : Tx} {k : Nat} {X : Cx} {W : WX} {sc : Sc} {C : Ev.Cx} {x y z tg it : Expr} {a b c : CE} {pos : Pos} {es : CEs} {vs : List Expr}

/-! ### tests -/
theorem nd_val (hp : plainE x = true) (ha : PE X x (tE T.S W (evE C a))) : PT X x (So.tB T.S W (evT C (.e a))) :=
  PT.imp (pt_val ha (by cases x <;> first | (intro _; rfl) | (simp [plainE] at hp; done) | (rename_i op v p; cases op <;> first | (intro _; rfl) | (simp [plainE] at hp; done)))) fun σ H Q hq => tE_test (fun _ _ _ h => h) hq
theorem nd_chnT (cx : Cxt T k X W sc) {o p : Cop} (h1 : isSet y = false) (h2 : isSet z = false) (ha : PE X x (tE T.S W (evE C a))) (hb : PE X y (tE T.S W (evE C b))) (hc : PE X z (tE T.S W (evE C c))) :
    PT X (.Compare x [co o, co p] [y, z] pos) (So.tB T.S W (evT C (.e (.chn o p a b c)))) :=
  PT.imp (pt_chain (nd_cmpR cx) (nd_cmpR cx) ha hb hc (show lastMarks [co o, co p] [y, z] = false from mark_of h2 _)) fun σ H Q hq => tE_test (fun _ _ _ => chn_read) hq
theorem nd_chn (cx : Cxt T k X W sc) {o p : Cop} (h1 : isSet y = false) (h2 : isSet z = false) (ha : PE X x (tE T.S W (evE C a))) (hb : PE X y (tE T.S W (evE C b))) (hc : PE X z (tE T.S W (evE C c))) :
    PE X (.Compare x [co o, co p] [y, z] pos) (tE T.S W (evE C (.chn o p a b c))) :=
  PE.imp (pe_chain (nd_cmpR cx) (nd_cmpR cx) ha hb hc (show lastMarks [co o, co p] [y, z] = false from mark_of h2 _)) fun σ H Q hq => chn_read hq
theorem nd_notT {t : CT} (ha : PT X x (So.tB T.S W (evT C t))) : PT X (.UnaryOp .Not x pos) (So.tB T.S W (evT C (.not t))) := by
  refine PT.imp (pt_not ha) ?_
  rintro σ H Q ⟨g, f, h, R, Fr, out⟩
  rw [Ev.evT] at out
  refine tB_bind R Fr ?_
  cases qa : evT C t f h with
  | ok d1 h1 => rw [qa] at out; intro g1 H1 s1 R1 F1; exact out g1 H1 s1 R1
  | exc c1 x1 h1 => rw [qa] at out; exact out
  | stuck => rw [qa] at out; exact out
theorem nd_andT {t : CT} {ts : CTs} (hn : ts ≠ .nil) {ys : List Expr} (ha : PT X x (So.tB T.S W (evT C t))) (hb : PW X (.BoolOp .And (y :: ys) pos) (So.tB T.S W (evTA C ts))) : PW X (.BoolOp .And (x :: y :: ys) pos) (So.tB T.S W (evTA C (.cons t ts))) := by
  refine PW.imp (pw_and ha hb) ?_
  rintro σ H Q ⟨g, f, h, R, Fr, out⟩
  rw [Ev.evTA.eq_2 _ _ _ _ _ (fun z => hn z)] at out
  refine tB_bind R Fr ?_
  cases qa : evT C t f h with
  | ok d1 h1 =>
    rw [qa] at out
    intro g1 H1 s1 R1 F1
    cases d1 with
    | true => rw [if_pos rfl]; exact ⟨g1, f, h1, R1, F1, OutB.shift R R1 s1 out⟩
    | false => rw [if_neg (by decide)]; exact out g1 H1 s1 R1
  | exc c1 x1 h1 => rw [qa] at out; exact out
  | stuck => rw [qa] at out; exact out
theorem nd_orT {t : CT} {ts : CTs} (hn : ts ≠ .nil) {ys : List Expr} (ha : PT X x (So.tB T.S W (evT C t))) (hb : PW X (.BoolOp .Or (y :: ys) pos) (So.tB T.S W (evTO C ts))) : PW X (.BoolOp .Or (x :: y :: ys) pos) (So.tB T.S W (evTO C (.cons t ts))) := by
  refine PW.imp (pw_or ha hb) ?_
  rintro σ H Q ⟨g, f, h, R, Fr, out⟩
  rw [Ev.evTO.eq_2 _ _ _ _ _ (fun z => hn z)] at out
  refine tB_bind R Fr ?_
  cases qa : evT C t f h with
  | ok d1 h1 =>
    rw [qa] at out
    intro g1 H1 s1 R1 F1
    cases d1 with
    | true => rw [if_pos rfl]; exact out g1 H1 s1 R1
    | false => rw [if_neg (by decide)]; exact ⟨g1, f, h1, R1, F1, OutB.shift R R1 s1 out⟩
  | exc c1 x1 h1 => rw [qa] at out; exact out
  | stuck => rw [qa] at out; exact out

/-! ### len(set(..)) -/
theorem isInts : ∀ {ns : List Int} {us : List Value}, Vals (ns.map V.int) us → PyProof.Rows.IntsAre us ns
  | [], _, .nil => .nil
  | _ :: _, _, .cons ⟨_, e⟩ r => by
    subst e
    exact .cons _ _ (isInts r)
theorem nd_lenset (cx : Cxt T k X W sc) {np mp q : Pos} {v : Expr} (hl : glB sc "len" = true) (hs : glB sc "set" = true) (hn : noStar [v] = true) (ha : PE X v (tE T.S W (evE C a))) :
    PE X (.Call (.Name "len" np) [.Call (.Name "set" mp) [v] [] q] [] pos) (tE T.S W (evE C (.bi .lenset (.cons a .nil)))) := by
  obtain ⟨g1, _⟩ := cx.gl_of hl
  obtain ⟨g2, _⟩ := cx.gl_of hs
  have mn : ∀ x ∈ used, X.mg x = none := fun x hx => by rw [cx.mg]; exact cx.ok.blt x hx
  have st := noStar_cons (r := []) (env := X.env) hn
  refine ⟨fun pins s σ H Q I hq => ?_⟩
  have rd : tE T.S W (evE C a) σ H fun x H1 => ∃ (l : Addr) (ns : List Int), x = V.ref l ∧ SqL X.K H1 l (ns.map V.int) ∧ ns.length ≤ 4000 ∧ Q (.int ns.eraseDups.length) H1 := by
    obtain ⟨g, f, h, R, Fr, out⟩ := hq
    rw [Ev.evE] at out
    simp only [Ev.evL] at out
    refine tE_bind R Fr ?_
    cases qa : evE C a f h with
    | exc c1 x1 h1 => rw [qa] at out; exact out
    | stuck => rw [qa] at out; exact out
    | ok d h1 =>
      rw [qa] at out
      intro x g1 H1 s1 R1 V1 F1
      dsimp only [Ev.biF] at out
      have vh := shal_vh R1 V1
      cases qs : Ev.shal h1 d with
      | lst t =>
        rw [qs] at out vh
        obtain ⟨p1, ws, e1, e2, e3⟩ := vh
        dsimp only at out
        by_cases hz : t.length ≤ 4000
        · rw [if_pos hz] at out
          cases qi : Ev.intsD t with
          | none => rw [qi] at out; exact False.elim out
          | some ns =>
            rw [qi] at out
            have e4 := VDs.intsD qi e3
            subst e4
            refine ⟨p1, ns, e1, .inl (.of e2), ?_, out _ g1 H1 s1 R1 rfl⟩
            have := VDs.length e3
            rw [List.length_map] at this
            omega
        · rw [if_neg hz] at out
          exact False.elim out
      | _ => rw [qs] at out; exact False.elim out
  refine Call_ (ld_blt I g1 (mn "len" (by decide)) PySem.boot_len ?_)
  refine callWith_builtin1 (args_cons ?_ rfl) rfl rfl
  refine Call_ (ld_blt I g2 (mn "set" (by decide)) PyProof.Rows.boot_set ?_)
  refine callWith_type1 (args_cons (thn (ha.run pins s σ H _ I rd) fun u s1 ⟨x, H1, I1, ru, l, ns, ex, sq, lim, fin⟩ => args_nil ?_) st) st rfl
  subst ex
  obtain rfl : u = Value.ref l := ru
  obtain ⟨items, rv, hpl, _⟩ := I1.list sq
  have size : items.toArray.size = ns.length := by
    have := rv.length
    rw [List.length_map] at this
    rw [List.size_toArray, this]
  have small : items.toArray.size ≤ 4000 := by omega
  refine call_set_list (I1.ok.hd cx.calm) hpl.isList (by simpa using isInts rv) (by unfold scanBound; omega) fun h2 tk made kept => args_nil ?_
  rw [size, PySem.W.oss_met, PySem.W.oss_dups] at made
  obtain ⟨o, es, ep, t, e1, e2, e3, _, _, _, e4, e5⟩ := made
  have J : Inv X pins σ H1 { s1 with heap := h2, toks := tk } := I1.kept fun b o e => kept b o (Heap.lt_size e) e
  have le := PySem.W.oss_len ns
  rw [PySem.W.oss_dups] at le
  refine call_len_set e1 e2 e3 e4 (by rw [e5]; omega) ⟨V.int ns.eraseDups.length, H1, J.tok _, ⟨_, by rw [e5]⟩, fin⟩

/-! ### comprehensions -/
abbrev W0 : WX := fun _ _ _ _ => False
theorem Cxt.blk (cx : Cxt T k X W sc) {scope : Scope} {own : List (Str × Nat)} (ok : BlkOk X.N X.env.scope scope own) (s : Shared) (H : L2.Hp) (c : Addr) (cl : List (Str × Addr)) (fp : List Addr) :
    Cxt T k (X.blk s H scope (compEnvC scope cl c X.env) fp) W0 (blkSc sc scope) := by
  refine ⟨cx.ok, cx.prog, cx.w, cx.K, cx.mg, cx.base, cx.N, cx.nd, ?_, ?_, fun x hx => ?_, cx.gl, cx.fs, cx.xs, cx.sub, cx.rz, cx.calm, ?_, PassesOwn.never, cx.gd, cx.rm⟩
  · show (scope.names.map fun (n, k) => if (k == NameKind.free && X.env.scope.kind == ScopeKind.function && X.env.kindOf n == some NameKind.cell) then (n, NameKind.cell) else (n, k)) = _
    unfold blkSc
    dsimp only
    congr 1
    funext ⟨n, k⟩
    have e1 : X.env.kindOf n = sc.nm.lookup n := by show X.env.scope.names.lookup n = _; rw [cx.nm]
    dsimp only
    rw [e1, cx.kind]
    simp
  · exact ok.kind
  · have hl : scope.names.lookup x = some .local ∨ scope.names.lookup x = some .cell := by
      unfold locB blkSc at hx
      dsimp only at hx
      split at hx <;> rename_i q
      · exact .inl q
      · exact .inr q
      · cases hx
    have keep : ∀ kk, kk ≠ NameKind.free → scope.names.lookup x = some kk → (X.blk s H scope (compEnvC scope cl c X.env) fp).env.scope.names.lookup x = some kk := fun kk hk q => lookup_relS_keep (sc := X.env.scope) hk q
    rcases hl with q | q
    · exact ⟨.inl (keep _ (by decide) q), .inr (keep _ (by decide) q)⟩
    · exact ⟨.inr (keep _ (by decide) q), .inl (by show (scope.names.lookup x == some .cell) = true; rw [q]; rfl)⟩
  · intro u s' hx
    obtain ⟨a, B, sI, pins, σ, H, cls, d, e, I, nb, up, sky, na, os, ag, w⟩ := hx
    exact w.elim
theorem blk_of (cx : Cxt T k X W sc) {scope : Scope} {own : List (Str × Nat)} (h : blkC sc.N (scScope sc) scope own = true) : BlkOk X.N X.env.scope scope own := by
  have b := blkOk_by h
  rw [cx.N]
  refine ⟨b.kind, b.uniq, b.ix, fun y hy e => ?_, b.own⟩
  have := b.free y hy e
  rw [cx.nm]
  exact this
theorem wipe_rd {σ : L2.St} : ∀ {vs : List Nat} {i : Nat}, i ∉ vs → (wipe σ vs)[i]? = σ[i]?
  | [], _, _ => rfl
  | v :: vs, i, h => by
    show ((wipe σ vs).set v none)[i]? = _
    rw [List.getElem?_set_ne (fun z => h (by rw [z]; exact List.mem_cons_self))]
    exact wipe_rd fun z => h (List.mem_cons_of_mem _ z)
theorem wipe_none {σ : L2.St} : ∀ {vs : List Nat} {i : Nat}, i ∈ vs → i < σ.length → (wipe σ vs)[i]? = some none
  | v :: vs, i, h, l => by
    show ((wipe σ vs).set v none)[i]? = _
    by_cases q : v = i
    · subst q
      exact List.getElem?_set_self (by rw [wipe_length]; exact l)
    · rw [List.getElem?_set_ne q]
      exact wipe_none (by rcases List.mem_cons.mp h with z | z; exact absurd z.symm q; exact z) l
theorem wipe_wipe {σ : L2.St} {vs : List Nat} : wipe (wipe σ vs) vs = wipe σ vs := by
  have aux : ∀ (us : List Nat), (∀ u ∈ us, u ∈ vs) → wipe (wipe σ vs) us = wipe σ vs := by
    intro us
    induction us with
    | nil => intro _; rfl
    | cons u us ih =>
      intro hu
      show (wipe (wipe σ vs) us).set u none = wipe σ vs
      rw [ih fun v hv => hu v (List.mem_cons_of_mem _ hv)]
      by_cases l : u < σ.length
      · have := wipe_none (σ := σ) (hu u List.mem_cons_self) l
        exact List.ext_getElem? fun j => by
          by_cases q : u = j
          · subst q
            rw [List.getElem?_set_self (by rw [wipe_length]; exact l), this]
          · rw [List.getElem?_set_ne q]
      · exact List.set_eq_of_length_le (by rw [wipe_length]; omega)
  exact aux vs fun _ h => h
theorem nd_lc (cx : Cxt T k X W sc) {scope : Scope} {t : Tg} {s : Src} {ct : CT} {e : CE} {ifs : List Expr} (hb : blkC sc.N (scScope sc) scope (tgOwn t tg) = true) (hw : (tgOwn t tg).map (·.2) = tslots t)
    (ht : ckTg (blkSc sc scope) t tg = true) (hns : isSet it = false) (hi : PI X tg it (tS T.S W (evSrc C s)))
    (he : ∀ X', Cxt T k X' W0 (blkSc sc scope) → PE X' x (tE T.S W0 (evE C e)))
    (hc : ∀ X', Cxt T k X' W0 (blkSc sc scope) → PTs X' ifs (So.tB T.S W0 (evT C ct))) :
    PE X (.ListComp x [⟨tg, it, ifs, 0⟩] scope pos) (tF T.S W (evF C (.lc e t s ct))) ∧
    ∀ {i : Nat} {n : Str} {np spos : Pos}, sc.N[i]? = some n → sc.nm.lookup n = some .local → (np.line == pos.line) = true → (scope.names.any fun (m, k) => m == n && (k == .local || k == .cell)) = false →
      ∀ {tr : TE}, (∀ σ H Q, tr σ H Q → tF T.S W (evF C (.lc e t s ct)) σ H Q) → PS X (.Assign [.Name n np] (.ListComp x [⟨tg, it, ifs, 0⟩] scope pos) spos) (tAsg tr (gName i)) := by
  have ok := blk_of cx hb
  have fold : ∀ v, foldedSetIterable it X.env v = pure v := fun v => by cases it <;> first | rfl | (simp [isSet] at hns)
  have hN : X.N.Nodup := by rw [cx.N]; exact cx.nd
  have read : ∀ σ H Q, tF T.S W (evF C (.lc e t s ct)) σ H Q → tLc (tS T.S W (evSrc C s)) (tG T.S t) (So.tB T.S W0 (evT C ct)) (tE T.S W0 (evE C e)) ((tgOwn t tg).map (·.2)) σ H Q := by
    rintro σ H Q ⟨g, f, h, R, Fr, out⟩
    rw [Ev.evF] at out
    refine ⟨g, f, h, R, Fr, ?_⟩
    cases qa : evSrc C s f h with
    | exc c1 x1 h1 => rw [qa] at out; exact out
    | stuck => rw [qa] at out; exact out
    | ok ds h1 =>
      rw [qa] at out
      dsimp only at out
      intro J g1 H1 s1 R1 wk Dp hD
      cases ql : Ev.lcL (evE C e) (evT C ct) t f ds [] h1 with
      | exc c1 x1 h2 => rw [ql] at out; exact False.elim out
      | stuck => rw [ql] at out; exact False.elim out
      | ok rs hf =>
        rw [ql] at out
        obtain ⟨rs', er, out⟩ := out
        cases er
        have hD0 := s1.back hD
        refine ⟨fun i m H => m = ds.length - i ∧ i ≤ ds.length ∧ ∃ g' h' acc ws, Rel T.S g' h' H ∧ Step g h _ g' h' H ∧ Ext g1 g' ∧ H Dp = some (.lst ws) ∧ g'.F Dp = none ∧ (∀ n, g'.μ[n]? = some Dp → ¬ live h' n) ∧ VDs T.S g' acc ws ∧
          Ev.lcL (evE C e) (evT C ct) t f (ds.drop i) acc h' = .ok rs hf, ⟨ds.length, by simp, Nat.zero_le _, g1, h1, [], [], R1.new hD, s1.trans R R1 (Step.new R1 hD), Ext.refl, upd_same, R1.free hD, fun n e => R1.notBox hD e, rfl, by simpa using ql⟩, ?_⟩
        rintro i m H2 ⟨rfl, hi, g2, h2, acc, ws, R2, s2, E2, hH, hF, nb, V2, q2⟩
        obtain ⟨w1, w2⟩ := wk g2 h2 H2 E2 R2 i
        by_cases hlt : i < ds.length
        · have hd : ds[i]? = some ds[i] := by simp [hlt]
          obtain ⟨go, yl⟩ := w1 _ hd
          refine .inr ⟨go, _, fun H' n => ⟨ds.length - (i + 1), by omega, n⟩, fun v H3 y => ?_⟩
          obtain ⟨g3, R3, s3, V3⟩ := yl v H3 y
          rw [List.drop_eq_getElem_cons hlt, Ev.lcL] at q2
          cases qt : Ev.asgT t ds[i] f with
          | none => rw [qt] at q2; cases q2
          | some f' =>
            rw [qt] at q2
            dsimp only at q2
            refine ⟨g3, h2, ds[i], R3, V3, asgT_ok t _ _ _ qt, fun σ2 st => ⟨?_, ?_⟩⟩
            · rw [set_wipe t _ _ _ _ st fun j hj => by rw [hw]; exact hj]
              exact wipe_wipe
            · -- the block's frame
              have fr0 : FrRp T.S (fun j => j ∉ tslots t) g3 f (wipe σ ((tgOwn t tg).map (·.2))) := by
                refine ⟨by rw [wipe_length]; exact Fr.1, fun j d' hj e => ?_⟩
                rw [hw]
                obtain ⟨v', e1, e2⟩ := Fr.2 j d' e
                exact ⟨v', by rw [wipe_rd hj]; exact e1, VD.mono (s2.ext.trans s3.ext) _ _ e2⟩
              have fr1 := set_fr t _ _ _ _ _ _ qt st fr0
              have fr2 : FrR T.S g3 f' σ2 := ⟨fr1.1, fun j d' e => fr1.2 j d' (by by_cases z : j ∈ tslots t; exact .inr z; exact .inl z) e⟩
              have keepD : ∀ {g4 : G} {h4 : Mem} {H4 : L2.Hp}, Step g3 h2 H3 g4 h4 H4 → H4 Dp = some (.lst ws) := fun {g4 h4 H4} st4 => by
                have a1 := s3.keep Dp _ hH nb
                exact st4.keep Dp _ a1 fun n e => s3.notBox R2 hH nb n e
              have extra : ∀ {g4 : G} {h4 : Mem} {H4 : L2.Hp}, Step g3 h2 H3 g4 h4 H4 → Rel T.S g4 h4 H4 → Step g2 h2 H2 g4 h4 H4 := fun st4 r4 => s3.trans R2 R3 st4
              refine ⟨g3, f', h2, R3, fr2, ?_⟩
              cases qc : evT C ct f' h2 with
              | exc c1 x1 h3 => rw [qc] at q2; cases q2
              | stuck => rw [qc] at q2; cases q2
              | ok bb h3 =>
                rw [qc] at q2
                intro g4 H4 s4 R4
                have s24 := extra s4 R4
                cases bb with
                | false =>
                  rw [if_neg (by decide)]
                  dsimp only at q2
                  exact ⟨rfl, hlt, g4, h3, acc, ws, R4, s2.trans R R2 s24, E2.trans s24.ext, keepD s4, s24.frz _ _ hH nb hF, s24.notBox R2 hH nb, VDs.mono s24.ext _ _ V2, q2⟩
                | true =>
                  rw [if_pos rfl]
                  dsimp only at q2
                  refine tE_bind R4 (fr2.mono s4.ext) ?_
                  cases qe : evE C e f' h3 with
                  | exc c1 x1 h4 => rw [qe] at q2; cases q2
                  | stuck => rw [qe] at q2; cases q2
                  | ok d h4 =>
                    rw [qe] at q2
                    intro u g5 H5 s5 R5 V5 _
                    have s25 := s24.trans R2 R4 s5
                    dsimp only at q2
                    split at q2
                    · rename_i hl
                      have hH5 : H5 Dp = some (.lst ws) := keepD (s4.trans R3 R4 s5)
                      have hF5 := s25.frz _ _ hH nb hF
                      have nb5 := s25.notBox R2 hH nb
                      refine ⟨ws, hH5, by rw [← VDs.length V2]; exact Nat.lt_of_lt_of_le hl lim_line, rfl, hlt, g5, h4, acc ++ [d], ws ++ [u], R5.other hF5 nb5, (s2.trans R R2 s25).other hD0, E2.trans s25.ext, upd_same, hF5, nb5, (VDs.mono s25.ext _ _ V2).append (VDs.one V5), q2⟩
                    · cases q2
        · have e : i = ds.length := by omega
          subst e
          refine .inl ⟨w2 (Nat.le_refl _), ?_⟩
          rw [List.drop_length, Ev.lcL] at q2
          cases q2
          exact out Dp ws g2 H2 hD0 s2 R2 hH hF nb V2
  have hg : ∀ (s : Shared) (H : L2.Hp) (c : Addr) (cl : List (Str × Addr)) (fp : List Addr), PG (X.blk s H scope (compEnvC scope cl c X.env) fp) tg (tG T.S t) := fun s H c cl fp => sTg (cx.blk ok s H c cl fp) t tg ht
  refine ⟨PE.imp (pe_lc cx.calm hN hi ok hg (fun s H c cl fp => hc _ (cx.blk ok s H c cl fp)) (fun s H c cl fp => he _ (cx.blk ok s H c cl fp)) fold) read, ?_⟩
  intro i n np spos h1 h2 h3 h4 tr htr
  refine PS.imp (ps_setLc (i := i) cx.calm hN (by rw [cx.N]; exact h1) (by rw [cx.nm]; exact h2) (sw_true cx.kind (by rw [cx.nm]; exact h2) h3 h4) hi ok hg (fun s H c cl fp => hc _ (cx.blk ok s H c cl fp)) (fun s H c cl fp => he _ (cx.blk ok s H c cl fp)) fold) ?_
  intro Dd σ H hq
  exact read σ H _ (htr σ H _ hq)
end
end So
end
section
set_option Elab.async false
set_option autoImplicit false
set_option linter.all false
set_option maxRecDepth 100000
/-! S26: sets of nested tuples. -/
namespace So
open PySem PySem.Spec PyProof.Rows L2
abbrev NK := NestedKey
abbrev KIs (h : Heap) (k : NK) (b : Addr) : Prop := NestedIs h k (.ref b) ∧ k.depth ≤ 8
theorem KIs.go {h h' : Heap} {k : NK} {b : Addr} (x : KIs h k b) (m : ∀ c o, h.get? c = some o → h'.get? c = some o) : KIs h' k b :=
  ⟨NestedIs.at (fun c o _ _ q _ => m c o q) k _ x.1, x.2⟩
theorem KIs.but {h h' : Heap} {k : NK} {a b : Addr} {o : Obj} {es : Array (Int × Value)} {ep : Nat} {t : SetTable} (x : KIs h k b) (q : h.get? a = some o) (d : o.data = .set es ep t) (m : Heap.SameBut a h h') : KIs h' k b := by
  refine ⟨NestedIs.at (fun c u vs n e f => (m.2 c fun z => ?_).trans e) k _ x.1, x.2⟩
  subst z
  rw [q] at e
  cases e
  rw [d] at f
  cases f
section
variable {P : Program} {w : World} {A : Around} {E : Value → Shared → Prop} {s : Shared}
theorem wpB (m : Sem Bool) (P : Program) (w : World) (s : Shared) (v : Bool) (r : m = pure v) (A : Around) (E : Value → Shared → Prop) (Q : Bool → Shared → Prop) (q : Q v s) : wpAny (model P w) A m Q E s := by
  rw [r]; exact wpAny_pure q
/-- a key is of no class statement -/
def NoCls (P : Program) (w : World) (n : Nat) (s : Shared) (v : Value) : Prop := ∀ (A : Around) (E : Value → Shared → Prop) (Q : Bool → Shared → Prop), Q false s → wpAny (model P w) A (ofAClassStatement n v) Q E s
mutual
theorem nocls : ∀ (k : NK) (v : Value) (n : Nat) (s : Shared), NestedIs s.heap k v → k.depth ≤ n → NoCls P w n s v
  | .none, _, n, s, x, _ => by cases x; exact fun A E Q q => wpB _ P w s false (by cases n <;> rfl) A E Q q
  | .num _, _, n, s, x, _ => by cases x <;> exact fun A E Q q => wpB _ P w s false (by cases n <;> rfl) A E Q q
  | .text _, _, n, s, x, _ => by cases x; exact fun A E Q q => wpB _ P w s false (by cases n <;> rfl) A E Q q
  | .tup ks, _, n, s, x, l => by
    cases x with
    | @tup b o vs m _ g c d r =>
      rw [NestedKey.depth] at l
      cases n with
      | zero => omega
      | succ n =>
        intro A E Q q
        have each := noclss ks vs.toList n s r (by omega)
        have ty : s.TypeIs (.ref b) "tuple" := ⟨o, g, c⟩
        unfold ofAClassStatement
        refine wpAny_bind (wpAny_typeOf ty ?_)
        dsimp only
        simp only [show (("tuple" : String) == "tuple") = true from by decide, if_true, Bool.not_true, Bool.false_eq_true, if_false]
        try refine wpAny_bind (wpAny_pure ?_)
        try simp only [Bool.not_true, Bool.false_eq_true, if_false]
        show wpAny _ _ (seqItems? (.ref b) >>= _) _ _ s
        refine wpAny_bind (wpAny_seqItems g d ?_)
        dsimp only
        refine wpAny_bind ?_
        show wpAny _ _ (forIn vs _ _) _ _ s
        rw [← Array.forIn_toList]
        refine wpAny_forIn_list _ (fun left a s' => s' = s ∧ a.1 = none ∧ ∀ v ∈ left, NoCls P w n s v) _ ?_ ?_ _ _ ⟨rfl, rfl, each⟩
        · rintro v left a s' ⟨rfl, ha, al⟩
          refine wpAny_bind (al v List.mem_cons_self _ _ _ ?_)
          simp only [Bool.false_eq_true, if_false]
          exact wpAny_pure ⟨rfl, rfl, fun u m => al u (List.mem_cons_of_mem _ m)⟩
        · rintro ⟨a1, a2⟩ s' ⟨rfl, ha, _⟩
          simp only at ha
          subst ha
          exact wpAny_pure q
theorem noclss : ∀ (ks : List NK) (vs : List Value) (n : Nat) (s : Shared), NestedAll s.heap ks vs → NestedKey.depthAll ks ≤ n → ∀ v ∈ vs, NoCls P w n s v
  | [], _, n, s, x, _, v, m => by cases x; cases m
  | k :: ks, _, n, s, x, l, v, m => by
    cases x with
    | cons x1 x2 =>
      rw [NestedKey.depthAll] at l
      rcases List.mem_cons.mp m with e | m
      · subst e; exact nocls k _ n s x1 (by omega)
      · exact noclss ks _ n s x2 (by omega) v m
end
/-- whether its hash is by value: some answer -/
def Asked (P : Program) (w : World) (n : Nat) (s : Shared) (v : Value) : Prop := ∀ (A : Around) (E : Value → Shared → Prop) (Q : Bool → Shared → Prop), (∀ b, Q b s) → wpAny (model P w) A (hashByValue n v) Q E s
theorem ask0 {n : Nat} {s : Shared} {v : Value} (b : Bool) (r : hashByValue n v = pure b) : Asked P w n s v := fun A E Q q => wpB _ P w s b r A E Q (q b)
mutual
theorem asked : ∀ (k : NK) (v : Value) (n : Nat) (s : Shared), NestedIs s.heap k v → Asked P w n s v
  | .none, _, n, s, x => by cases x; exact ask0 true (by cases n <;> rfl)
  | .num _, _, n, s, x => by cases x <;> exact ask0 true (by cases n <;> rfl)
  | .text _, _, n, s, x => by cases x; exact ask0 false (by cases n <;> rfl)
  | .tup ks, _, n, s, x => by
    cases x with
    | @tup b o vs m _ g c d r =>
      cases n with
      | zero => exact ask0 false rfl
      | succ n =>
        intro A E Q q
        have each := askeds ks vs.toList n s r
        have ty : s.TypeIs (.ref b) "tuple" := ⟨o, g, c⟩
        unfold hashByValue
        refine wpAny_bind (wpAny_specialOf ty F.slot_tuple_hash.lookup ?_)
        show wpAny _ _ (seqItems? (.ref b) >>= _) _ _ s
        refine wpAny_bind (wpAny_seqItems g d ?_)
        refine wpAny_bind ?_
        show wpAny _ _ (forIn vs _ _) _ _ s
        rw [← Array.forIn_toList]
        refine wpAny_forIn_list _ (fun left a s' => s' = s ∧ a.1 = none ∧ ∀ v ∈ left, Asked P w n s v) _ ?_ ?_ _ _ ⟨rfl, rfl, each⟩
        · rintro v left a s' ⟨rfl, ha, al⟩
          refine wpAny_bind (al v List.mem_cons_self _ _ _ fun z => ?_)
          cases z with
          | true =>
            simp only [Bool.not_true, Bool.false_eq_true, if_false]
            exact wpAny_pure ⟨rfl, rfl, fun u m => al u (List.mem_cons_of_mem _ m)⟩
          | false =>
            simp only [Bool.not_false, if_true]
            exact wpAny_pure (wpAny_pure (q false))
        · rintro ⟨a1, a2⟩ s' ⟨rfl, ha, _⟩
          simp only at ha
          subst ha
          exact wpAny_pure (q true)
theorem askeds : ∀ (ks : List NK) (vs : List Value) (n : Nat) (s : Shared), NestedAll s.heap ks vs → ∀ v ∈ vs, Asked P w n s v
  | [], _, n, s, x, v, m => by cases x; cases m
  | k :: ks, _, n, s, x, v, m => by
    cases x with
    | cons x1 x2 =>
      rcases List.mem_cons.mp m with e | m
      · subst e; exact asked k _ n s x1
      · exact askeds ks _ n s x2 v m
end
end
end So
end
section
set_option Elab.async false
set_option autoImplicit false
set_option linter.all false
set_option maxRecDepth 100000
/-! S27: looking and adding in a set of nested tuples. -/
namespace So
open PySem PySem.Spec PyProof.Rows L2
/-- a row of the set: the key, and where its tuple stands -/
abbrev Rw := NK × Addr
def ent (w : World) (p : Rw) : Int × Value := (p.1.hash w, .ref p.2)
abbrev hsh (w : World) (L : List Rw) : List Int := L.map fun p => p.1.hash w
structure SetN (P : Program) (w : World) (h : Heap) (a : Addr) (L : List Rw) (es : Array (Int × Value)) (ep : Nat) (t : SetTable) : Prop where
  at_ : ∃ o, h.get? a = some o ∧ o.ExactSet ∧ o.data = .set es ep t
  rows : es.toList = L.map (ent w)
  tab : TabOk t (hsh w L)
  one : (L.map Prod.fst).Nodup
  key : ∀ p ∈ L, KIs h p.1 p.2
  led : w.params.followText "set-order" = true ∨ t.led = true
  gap : L.length * 5 < t.mask * 3
  few : L.length < 64
section
variable {P : Program} {w : World} {A : Around} {E : Value → Shared → Prop} {s : Shared} {h h' : Heap} {a : Addr} {L : List Rw} {es : Array (Int × Value)} {ep : Nat} {t : SetTable}
theorem SetN.many (R : SetN P w h a L es ep t) : es.size = L.length := by
  rw [← Array.length_toList, R.rows, List.length_map]
theorem fits_of {n : Nat} (T : TabOk t (hsh w L)) (z : n = L.length) (g : L.length ≤ t.mask) : t.fits n = true := by
  have sz := T.sz
  rw [List.length_map] at sz
  unfold SetTable.fits SetTable.fill
  rw [T.dm, Bool.and_eq_true, beq_iff_eq, decide_eq_true_eq]
  show t.place.size = n ∧ t.place.size + 0 ≤ t.mask
  omega
theorem SetN.fit (R : SetN P w h a L es ep t) : t.fits es.size = true := fits_of R.tab R.many (by have := R.gap; omega)
theorem row_at {i : Nat} {p : Rw} (r : es.toList = L.map (ent w)) (q : L[i]? = some p) : es[i]? = some (ent w p) := by
  rw [← Array.getElem?_toList, r, List.getElem?_map, q]; rfl
theorem SetN.go (R : SetN P w h a L es ep t) (m : ∀ c o, h.get? c = some o → h'.get? c = some o) : SetN P w h' a L es ep t := by
  obtain ⟨o, g, x⟩ := R.at_
  exact ⟨⟨o, m a o g, x⟩, R.rows, R.tab, R.one, fun p hp => (R.key p hp).go m, R.led, R.gap, R.few⟩
theorem odd_mask {n : Nat} (m : MaskOk n) : n % 2 = 1 := by
  rcases m with e | e | e <;> subst e <;> rfl
theorem no_dummy (m : Nat) : ∀ (n : Nat) (p : SetTable.Probe), p.dummy = none → (nth m p n).dummy = none
  | 0, p, q => q
  | n + 1, p, q => by
    rw [show n + 1 = 1 + n from Nat.add_comm _ _, nth_add]
    exact no_dummy m n _ (by
      show (adv m p).dummy = none
      unfold adv
      split <;> exact q)
/-- a search among keys shows nothing -/
theorem unseen {k : NK} {b : Addr} (x : KIs s.heap k b) {ys : List Value} (y : ∀ v ∈ ys, ∃ k' c, v = Value.ref c ∧ KIs s.heap k' c) {Q : Bool → Shared → Prop} (q : Q false s) : wpAny (model P w) A (searchCouldBeSeen (.ref b) ys) Q E s := by
  unfold searchCouldBeSeen
  refine wpAny_bind (wpAny_forIn_list _ (fun left r s' => s' = s ∧ r.1 = none ∧ ∀ v ∈ left, ∃ k' c, v = Value.ref c ∧ KIs s.heap k' c) _ (fun v left r s' i => ?_) (fun r s' i => ?_) _ _ ⟨rfl, rfl, y⟩)
  · obtain ⟨rfl, hr, al⟩ := i
    obtain ⟨k', c, rfl, z⟩ := al v List.mem_cons_self
    have al' := fun u m => al u (List.mem_cons_of_mem _ m)
    dsimp only
    by_cases d : (b == c || (carriedByValue (.ref b) && carriedByValue (.ref c))) = true
    · exact wp_if_pos d (wpAny_pure ⟨rfl, rfl, al'⟩)
    · refine wp_if_neg d (wpAny_bind (quiet_key k _ 8 s' x.1 x.2 _ _ _ ?_))
      simp only [Bool.not_true, Bool.false_eq_true, if_false]
      refine wpAny_bind (quiet_key k' _ 8 s' z.1 z.2 _ _ _ ?_)
      simp only [Bool.not_true, Bool.false_eq_true, if_false]
      refine wpAny_bind (nocls k _ 8 s' x.1 x.2 _ _ _ ?_)
      simp only [Bool.false_eq_true, if_false]
      refine wpAny_bind (nocls k' _ 8 s' z.1 z.2 _ _ _ ?_)
      simp only [Bool.false_eq_true, if_false]
      exact wpAny_pure ⟨rfl, rfl, al'⟩
  · obtain ⟨r1, r2⟩ := r
    obtain ⟨rfl, hr, _⟩ := i
    simp only at hr
    subst hr
    exact wpAny_pure q
/-- the c-th stop of the way of hash v -/
abbrev stop (m : Nat) (v : Int) (c : Nat) : SetTable.Probe := nth m (runAt m (SetTable.bits v % (m + 1)) (SetTable.bits v)) c
theorem stop_go (m : Nat) (v : Int) (c q : Nat) : nth m (stop m v c) q = stop m v (c + q) := (nth_add m c _ q).symm
theorem find_from (R : SetN P w s.heap a L es ep t) {x : Addr} {k : NK} (hx : KIs s.heap k x) (hu : A.units + 8 < cLine) {K : Nat} (k1 : K < 10 * SetTable.turns t.mask) (k2 : way t.mask (k.hash w) K ∉ t.place.toList) (k3 : ∀ c, c < K → way t.mask (k.hash w) c ∈ t.place.toList)
    {Q : SetFound → Shared → Prop} (yes : k ∈ L.map Prod.fst → Q (.there none) s) (no : k ∉ L.map Prod.fst → Q (.free (way t.mask (k.hash w) K) false) s) : ∀ (n c : Nat) (pr : Option SetTable.Probe), pr.getD (t.probeStart (k.hash w)) = stop t.mask (k.hash w) c → c ≤ K → K - c < n →
      (∀ (i : Nat) p, L[i]? = some p → p.1 = k → ∃ c', c ≤ c' ∧ c' < K ∧ t.place.toList[i]? = some (way t.mask (k.hash w) c')) → wpAny (model P w) A (setSearchFrom a (.ref x) (k.hash w) true n pr) Q E s := by
  intro n
  induction n with
  | zero => intro c pr _ _ z _; exact absurd z (Nat.not_lt_zero _)
  | succ n ih =>
    intro c pr e le lt left
    obtain ⟨o, g, exs, d⟩ := R.at_
    rw [setSearchFrom_succ]
    refine wpAny_bind (wpAny_setState_of g d R.fit ?_)
    dsimp only
    refine wp_if_neg (by unfold SetTable.gaveWay; rw [odd_mask R.tab.mok]; decide) ?_
    try refine wpAny_bind (wpAny_pure ?_)
    have cK : c + (K - c) = K := by omega
    have sp := go_spec t R.tab.ris R.tab.dm (fun i => (es[i]?.map (·.1)).getD 0) (k.hash w) (10 * SetTable.turns t.mask) (K - c) (stop t.mask (k.hash w) c) (no_dummy _ _ _ rfl) (by omega)
      (fun q l => by rw [stop_go]; exact k3 _ (by omega)) (by rw [stop_go, cK]; exact k2)
    have hv : ∀ (i : Nat) p, L[i]? = some p → (fun i => (es[i]?.map (·.1)).getD 0) i = p.1.hash w := fun i p z => by
      show (es[i]?.map (·.1)).getD 0 = _
      rw [row_at R.rows z]; rfl
    have pe : t.probe (fun i => (es[i]?.map (·.1)).getD 0) (k.hash w) (pr.getD (t.probeStart (k.hash w))) = SetTable.probe.go t (fun i => (es[i]?.map (·.1)).getD 0) (k.hash w) (10 * SetTable.turns t.mask) (stop t.mask (k.hash w) c) := by rw [e]; rfl
    rcases sp with ⟨q, i, q1, q2, q3, q4, q5⟩ | ⟨q4, q5⟩
    · rw [pe, q5]
      dsimp only
      rw [stop_go] at q2
      have il : i < L.length := by
        have z1 := (List.getElem?_eq_some_iff.mp q2).1
        have z2 := R.tab.sz
        rw [List.length_map] at z2
        rw [Array.length_toList, z2] at z1
        exact z1
      obtain ⟨p, hp⟩ : ∃ p, L[i]? = some p := ⟨_, List.getElem?_eq_getElem il⟩
      have pm : p ∈ L := List.mem_of_getElem? hp
      have ei : es[i]? = some (p.1.hash w, Value.ref p.2) := row_at R.rows hp
      have sl : t.slot (way t.mask (k.hash w) (c + q)) = .live i := slot_live R.tab.ris q2
      have core : wpAny (model P w) A (searchRest a (.ref x) (k.hash w) true n es t (nth t.mask (stop t.mask (k.hash w) c) q).j i (nth t.mask (stop t.mask (k.hash w) c) (q + 1))) Q E s := by
        rw [stop_go, stop_go]
        unfold searchRest
        rw [ei]
        dsimp only
        refine wpAny_bind (wpAny_holding ((nestedKind P w).eqBool hu (R.key p pm) hx ?_))
        refine wpAny_bind (wpAny_setState_of g d R.fit ?_)
        dsimp only
        by_cases same : p.1 = k
        · exact wp_if_pos (by simp [same]) (wpAny_pure (yes (List.mem_map.mpr ⟨p, pm, same⟩)))
        · refine wp_if_neg (by simp [same]) ?_
          try refine wpAny_bind (wpAny_pure ?_)
          rw [sameMem]
          dsimp only
          simp only [if_true, sl, ei]
          refine wpAny_bind (wpAny_isSame_ref_self (wpAny_bind (wpAny_pure ?_)))
          simp only [if_true]
          refine wp_if_neg (by simp [same]) (ih (c + (q + 1)) _ rfl (by omega) (by omega) fun j r hj hr => ?_)
          obtain ⟨c', b1, b2, b3⟩ := left j r hj hr
          refine ⟨c', ?_, b2, b3⟩
          by_cases lo : c' < c + q
          · exact absurd ((hv j r hj).trans (by rw [hr])) (q4 (c' - c) j (by omega) (by rw [stop_go, show c + (c' - c) = c' by omega]; exact b3))
          · by_cases eqq : c' = c + q
            · exfalso
              subst eqq
              have sl2 := slot_live R.tab.ris b3
              rw [sl] at sl2
              cases sl2
              rw [hp] at hj
              cases hj
              exact same hr
            · omega
      by_cases ld : t.led = true
      · refine wp_if_neg (by simp [ld]) ?_
        try refine wpAny_bind (wpAny_pure ?_)
        exact core
      · refine wp_if_pos (by simp [ld]) (wpAny_bind (unseen hx (fun v m => ?_) (wp_if_neg (by decide) ?_)))
        · obtain ⟨u, m1, m2⟩ := List.mem_map.mp m
          have m3 : u ∈ es := by
            have := m1
            simp at this
            exact this.1
          have m4 : u ∈ L.map (ent w) := by rw [← R.rows]; simpa using m3
          obtain ⟨r, m5, m6⟩ := List.mem_map.mp m4
          exact ⟨r.1, r.2, by rw [← m2, ← m6]; rfl, R.key r m5⟩
        · try refine wpAny_bind (wpAny_pure ?_)
          exact core
    · rw [pe, q5, stop_go, cK]
      dsimp only
      refine wpAny_pure (no fun m => ?_)
      obtain ⟨r, m1, m2⟩ := List.mem_map.mp m
      obtain ⟨j, jl, je⟩ := List.getElem_of_mem m1
      have hj : L[j]? = some r := by rw [List.getElem?_eq_getElem jl, je]
      obtain ⟨c', b1, b2, b3⟩ := left j r hj m2
      exact absurd ((hv j r hj).trans (by rw [m2])) (q4 (c' - c) j (by omega) (by rw [stop_go, show c + (c' - c) = c' by omega]; exact b3))
theorem find_in (R : SetN P w s.heap a L es ep t) {x : Addr} {k : NK} (hx : KIs s.heap k x) (hu : A.units + 8 < cLine) {Q : SetFound → Shared → Prop} (yes : k ∈ L.map Prod.fst → Q (.there none) s)
    (no : ∀ K, k ∉ L.map Prod.fst → way t.mask (k.hash w) K ∉ t.place.toList → (∀ c, c < K → way t.mask (k.hash w) c ∈ t.place.toList) → Q (.free (way t.mask (k.hash w) K) false) s) : wpAny (model P w) A (setSearch a (.ref x) (k.hash w) true) Q E s := by
  obtain ⟨K, k1, k2, k3⟩ := R.tab.first (by rw [List.length_map]; have := R.gap; omega) (k.hash w)
  have small : 10 * SetTable.turns t.mask ≤ 1420 := by
    unfold SetTable.turns
    rcases R.tab.mok with z | z | z <;> omega
  refine find_from R hx hu k1 k2 k3 yes (fun z => no K z k2 k3) 100000 0 none rfl (Nat.zero_le _) (by omega) fun i p hp hk => ?_
  have hi : (hsh w L)[i]? = some (k.hash w) := by rw [List.getElem?_map, hp, ← hk]; rfl
  have il : i < t.place.toList.length := by
    have z := R.tab.sz
    rw [List.length_map] at z
    rw [Array.length_toList, z]
    exact (List.getElem?_eq_some_iff.mp hp).1
  obtain ⟨c, c1, c2⟩ := R.tab.before k2 hi (List.getElem?_eq_getElem il)
  exact ⟨c, Nat.zero_le _, c1, by rw [List.getElem?_eq_getElem il, c2]⟩
end
end So
end
section
set_option Elab.async false
set_option autoImplicit false
set_option linter.all false
set_option maxRecDepth 100000
/-! S28: adding to a set of nested tuples. -/
namespace So
open PySem PySem.Spec PyProof.Rows L2
theorem range_all {α : Type} : ∀ L : List α, (List.range L.length).filterMap (fun i => L[i]?) = L
  | [] => rfl
  | x :: L => by
    rw [List.length_cons, List.range_succ_eq_map, List.filterMap_cons_some (f := fun i => (x :: L)[i]?) (b := x) rfl, List.filterMap_map]
    congr 1
    exact range_all L
theorem picked (w : World) (L : List Rw) : ∀ l : List Nat, (∀ i ∈ l, i < L.length) → hsh w (l.filterMap fun i => L[i]?) = l.map fun i => ((L.map (ent w)).toArray.map (·.1)).getD i 0
  | [], _ => rfl
  | i :: l, h => by
    have il := h i List.mem_cons_self
    have e := List.getElem?_eq_getElem il
    rw [List.filterMap_cons_some (f := fun i => L[i]?) e, hsh, List.map_cons, List.map_cons]
    congr 1
    · simp [Array.getD_eq_getD_getElem?, il, ent]
    · exact picked w L l fun j m => h j (List.mem_cons_of_mem _ m)
theorem free_flag {t : SetTable} {hs : List Int} (T : TabOk t hs) (b : Bool) : TabOk { t with plain := b } hs := ⟨T.ris, T.dm, T.sz, T.mok, T.bd, T.reach⟩
section
variable {P : Program} {w : World} {A : Around} {E : Value → Shared → Prop} {s : Shared} {h h' : Heap} {a : Addr} {L : List Rw} {es : Array (Int × Value)} {ep : Nat} {t : SetTable}
theorem relay_in {o : Obj} (g : s.heap.get? a = some o) (ex : o.ExactSet) (d : o.data = .set es ep t) (rows : es.toList = L.map (ent w)) (T : TabOk t (hsh w L)) (one : (L.map Prod.fst).Nodup) (key : ∀ p ∈ L, KIs s.heap p.1 p.2)
    (led : w.params.followText "set-order" = true ∨ t.led = true) (few : L.length < 64) (inn : L.length ≤ t.mask) {want M : Nat} (hM : SetTable.sizeAbove want - 1 = M) (mok : MaskOk M) (big : SetTable.sizeAbove want ≤ 128) (gap : L.length * 5 < M * 3) {Q : Unit → Shared → Prop}
    (q : ∀ h' L' es' ep' t', Heap.SameBut a s.heap h' → SetN P w h' a L' es' ep' t' → L'.Perm L → Q () { s with heap := h' }) : wpAny (model P w) A (setRelay a want) Q E s := by
  have ee : es = (L.map (ent w)).toArray := by rw [← rows]
  have many : es.size = L.length := by rw [← Array.length_toList, rows, List.length_map]
  have fit : t.fits es.size = true := fits_of T many inn
  obtain ⟨t2, order, r1, r2, r3, r4, r5, _, _⟩ := relaid_ok t (hs := es.map (·.1)) (wanted := want) hM mok (by rw [Array.size_map, many]; omega)
  rw [Array.size_map, many] at r2
  have inb : ∀ i ∈ order.toList, i < L.length := fun i m => List.mem_range.mp (r2.mem_iff.mp m)
  have hs2 := picked w L order.toList inb
  rw [← ee] at hs2
  rw [← hs2] at r3
  have rows2 : (order.filterMap (es[·]?)).toList = (order.toList.filterMap fun i => L[i]?).map (ent w) := by
    rw [List.map_filterMap, ee]
    simp
  have pm : (order.toList.filterMap fun i => L[i]?).Perm L := by
    have := r2.filterMap fun i => L[i]?
    rw [range_all] at this
    exact this
  generalize (order.toList.filterMap fun i => L[i]?) = L2 at r3 rows2 pm
  have many2 : (order.filterMap (es[·]?)).size = es.size := by rw [← Array.length_toList, rows2, List.length_map, pm.length_eq, many]
  rw [setRelay_eq]
  refine wpAny_bind (wpAny_setState_of g d fit ?_)
  dsimp only
  refine wp_if_neg (by rw [sizeLine_eq]; omega) ?_
  try refine wpAny_bind (wpAny_pure ?_)
  rw [r1]
  dsimp only
  refine wpAny_bind (wp_if_neg (by rw [many2]; simp) ?_)
  try refine wpAny_bind (wpAny_pure ?_)
  refine wpAny_pure ?_
  dsimp only
  refine wpAny_storeSet_of g d ?_ (by rw [many2, many, sizeLine_eq]; omega)
  have sb : Heap.SameBut a s.heap (s.heap.update a (Obj.putSet (order.filterMap (es[·]?)) t2)) := Heap.SameBut.update ..
  refine q _ L2 _ (ep + 1) t2 sb ⟨⟨_, store_at g d, ⟨ex.1, ex.2.1, ex.2.2⟩, rfl⟩, rows2, r3, (pm.map Prod.fst).nodup_iff.mpr one, fun p m => (key p (pm.mem_iff.mp m)).but g d sb, by rw [r5]; exact led, by rw [pm.length_eq, r4]; exact gap, by rw [pm.length_eq]; exact few⟩ pm
theorem add_in (R : SetN P w s.heap a L es ep t) {x : Addr} {k : NK} (hx : KIs s.heap k x) (hu : A.units + 8 < cLine) (few : L.length + 1 < 64) {Q : Bool → Shared → Prop}
    (q : ∀ b h' L' es' ep' t', Heap.SameBut a s.heap h' → SetN P w h' a L' es' ep' t' → (k ∈ L.map Prod.fst → L' = L) → (k ∉ L.map Prod.fst → L'.Perm ((k, x) :: L)) → Q b { s with heap := h' }) : wpAny (model P w) A (setAddHashed a (.ref x) (k.hash w)) Q E s := by
  obtain ⟨o, g, ex, d⟩ := R.at_
  unfold setAddHashed
  refine wpAny_holding ?_
  rw [show (100000 : Nat) = 99999 + 1 from rfl, setAddHashedIn_succ]
  refine wpAny_bind (wpAny_setState_of g d R.fit ?_)
  dsimp only
  refine wp_if_neg (by simp [byScan, Value.scannable]) ?_
  try refine wpAny_bind (wpAny_pure ?_)
  refine wpAny_bind (find_in R hx hu (fun m => ?_) fun K m k2 k3 => ?_)
  · dsimp only
    exact wpAny_pure (q false s.heap L es ep t (Heap.SameBut.refl a s.heap) R (fun _ => rfl) fun z => absurd m z)
  dsimp only
  refine wpAny_bind (wpAny_setState_of g d R.fit ?_)
  dsimp only
  obtain ⟨b1, b2, b3, b4, b5, _, _, _, b9⟩ := R.tab.put k2 k3
  generalize t.put (way t.mask (k.hash w) K) = tp at b1 b3 b4 b5 b9 ⊢
  obtain ⟨t1, j⟩ := tp
  dsimp only at b1 b3 b4 b5 b9 ⊢
  subst b1
  generalize hj : SetTable.below t.place (way t.mask (k.hash w) K) = j at b2 b3 ⊢
  -- what follows does not hang on whether the hash is by value
  have after : ∀ t2 : SetTable, TabOk t2 (List.take j (hsh w L) ++ k.hash w :: List.drop j (hsh w L)) → t2.mask = t.mask → t2.led = t.led → t2.fill = (hsh w L).length + 1 →
      wpAny (model P w) A (do
        storeSet a (SetTable.insertAt es j (k.hash w, .ref x)) t2
        if !false && t2.tooFull then setRelay a (SetTable.grown (es.size + 1))
        return true) Q E s := by
    intro t2 c3 c4 c5 c9
    have rows1 : (SetTable.insertAt es j (k.hash w, Value.ref x)).toList = (L.take j ++ (k, x) :: L.drop j).map (ent w) := by
      rw [SetTable.toList_insertAt, R.rows, List.map_append, List.map_cons, List.map_take, List.map_drop]
      rfl
    have pm := put_perm L j (k, x)
    have hh1 : List.take j (hsh w L) ++ k.hash w :: List.drop j (hsh w L) = hsh w (L.take j ++ (k, x) :: L.drop j) := by
      unfold hsh
      rw [List.map_append, List.map_cons, List.map_take, List.map_drop]
    rw [hh1] at c3
    have one1 : ((L.take j ++ (k, x) :: L.drop j).map Prod.fst).Nodup := by
      refine (pm.map Prod.fst).nodup_iff.mpr ?_
      rw [List.map_cons, List.nodup_cons]
      exact ⟨m, R.one⟩
    generalize L.take j ++ (k, x) :: L.drop j = L1 at rows1 pm c3 one1
    have n1 : L1.length = L.length + 1 := pm.length_eq
    have m1 : (SetTable.insertAt es j (k.hash w, Value.ref x)).size = L.length + 1 := by rw [← Array.length_toList, rows1, List.length_map, n1]
    generalize SetTable.insertAt es j (k.hash w, Value.ref x) = es1 at rows1 m1 ⊢
    refine wpAny_bind (wpAny_storeSet_of g d ?_ (by rw [m1, sizeLine_eq]; omega))
    have sb : Heap.SameBut a s.heap (s.heap.update a (Obj.putSet es1 t2)) := Heap.SameBut.update ..
    have g1 := store_at (es' := es1) (t' := t2) g d
    generalize s.heap.update a (Obj.putSet es1 t2) = h1 at sb g1 ⊢
    have key1 : ∀ p ∈ L1, KIs h1 p.1 p.2 := fun p z => by
      rcases List.mem_cons.mp (pm.mem_iff.mp z) with e | y
      · subst e; exact hx.but g d sb
      · exact (R.key p y).but g d sb
    have led1 : w.params.followText "set-order" = true ∨ t2.led = true := by rw [c5]; exact R.led
    have gap := R.gap
    rw [List.length_map] at c9
    by_cases full : t2.tooFull = true
    · have fl := full
      unfold SetTable.tooFull at fl
      rw [decide_eq_true_eq, c9, c4] at fl
      have two : (t.mask = 7 ∧ L.length = 4) ∨ (t.mask = 31 ∧ L.length = 18) := by
        rcases R.tab.mok with e | e | e <;> rw [e] at fl gap
        · exact .inl ⟨e, by omega⟩
        · exact .inr ⟨e, by omega⟩
        · omega
      have run : ∀ M, SetTable.sizeAbove (SetTable.grown (L.length + 1)) - 1 = M → MaskOk M → SetTable.sizeAbove (SetTable.grown (L.length + 1)) ≤ 128 → (L.length + 1) * 5 < M * 3 →
          wpAny (model P w) A (setRelay a (SetTable.grown (es.size + 1))) (fun _ s' => wpAny (model P w) A (pure true) Q E s') E { s with heap := h1 } := by
        intro M y1 y2 y3 y4
        rw [R.many]
        refine relay_in (s := { s with heap := h1 }) g1 ⟨ex.1, ex.2.1, ex.2.2⟩ rfl rows1 c3 one1 key1 led1 (by omega) (by rw [n1, c4]; rcases two with ⟨z1, z2⟩ | ⟨z1, z2⟩ <;> omega) y1 y2 y3 (by rw [n1]; exact y4) ?_
        intro h2 L2 es2 ep2 t3 sb2 R2 pm2
        exact wpAny_pure (q true h2 L2 es2 ep2 t3 (sb.trans sb2) R2 (fun z => absurd z m) fun _ => pm2.trans pm)
      have go : wpAny (model P w) A (setRelay a (SetTable.grown (es.size + 1))) (fun _ s' => wpAny (model P w) A (pure true) Q E s') E { s with heap := h1 } := by
        rcases two with ⟨_, z⟩ | ⟨_, z⟩
        · exact run 31 (by rw [z, size_20]) (.inr (.inl rfl)) (by rw [z, size_20]; decide) (by omega)
        · exact run 127 (by rw [z, size_76]) (.inr (.inr rfl)) (by rw [z, size_76]; decide) (by omega)
      first
        | exact wpAny_bind (wp_if_pos (by simp [full]) go)
        | exact wp_if_pos (by simp [full]) (wpAny_bind go)
    · have done : wpAny (model P w) A (pure true) Q E { s with heap := h1 } := by
        refine wpAny_pure (q true h1 L1 es1 (ep + 1) t2 sb ⟨⟨_, g1, ⟨ex.1, ex.2.1, ex.2.2⟩, rfl⟩, rows1, c3, one1, key1, led1, ?_, by omega⟩ (fun z => absurd z m) fun _ => pm)
        have fl := full
        unfold SetTable.tooFull at fl
        rw [decide_eq_true_eq, c9] at fl
        rw [n1]
        omega
      first
        | exact wp_if_neg (by simp [full]) done
        | exact wpAny_bind (wp_if_neg (by simp [full]) (wpAny_pure done))
  have tail : ∀ b : Bool, wpAny (model P w) A (do
        let t := if b then t1 else { t1 with plain := false }
        storeSet a (SetTable.insertAt es j (k.hash w, .ref x)) t
        if !false && t.tooFull then setRelay a (SetTable.grown (es.size + 1))
        return true) Q E s := fun b => by
    cases b with
    | true => exact after t1 b3 b4 b5 b9
    | false => exact after { t1 with plain := false } (free_flag b3 false) b4 b5 b9
  by_cases pl : t1.plain = true
  · first
      | exact wpAny_bind (wp_if_pos pl (asked k _ 8 s hx.1 _ _ _ tail))
      | exact wp_if_pos pl (wpAny_bind (asked k _ 8 s hx.1 _ _ _ tail))
  · first
      | exact wpAny_bind (wp_if_neg pl (wpAny_pure (tail true)))
      | exact wp_if_neg pl (tail true)
end
end So
end
section
set_option Elab.async false
set_option autoImplicit false
set_option linter.all false
set_option maxRecDepth 100000
/-! S29: set(xs), xs a list of nested tuples; sorted(set(xs)). -/
namespace So
open PySem PySem.Spec PyProof.Rows L2
/-- what the set has of the first i items -/
structure Coll (ks : List Rw) (i : Nat) (L : List Rw) : Prop where
  from_ : ∀ p ∈ L, p ∈ ks.take i
  all_ : ∀ p ∈ ks.take i, p.1 ∈ L.map Prod.fst
  few_ : L.length ≤ i
theorem Coll.next {ks L L' : List Rw} {i : Nat} {x : Rw} (g : Coll ks i L) (h : ks[i]? = some x) (c1 : x.1 ∈ L.map Prod.fst → L' = L) (c2 : x.1 ∉ L.map Prod.fst → L'.Perm (x :: L)) : Coll ks (i + 1) L' := by
  have tk := take_next h
  by_cases m : x.1 ∈ L.map Prod.fst
  · rw [c1 m]
    refine ⟨fun p hp => by rw [tk]; exact List.mem_append_left _ (g.from_ p hp), fun p hp => ?_, Nat.le_succ_of_le g.few_⟩
    rw [tk] at hp
    rcases List.mem_append.mp hp with z | z
    · exact g.all_ p z
    · rw [List.mem_singleton] at z; subst z; exact m
  · have pm := c2 m
    refine ⟨fun p hp => ?_, fun p hp => ?_, by rw [pm.length_eq, List.length_cons]; have := g.few_; omega⟩
    · rw [tk]
      rcases List.mem_cons.mp (pm.mem_iff.mp hp) with z | z
      · subst z; simp
      · exact List.mem_append_left _ (g.from_ p z)
    · refine (pm.map Prod.fst).mem_iff.mpr ?_
      rw [tk] at hp
      rw [List.map_cons]
      rcases List.mem_append.mp hp with z | z
      · exact List.mem_cons_of_mem _ (g.all_ p z)
      · rw [List.mem_singleton] at z; subst z; exact List.mem_cons_self
abbrev set0 (w : World) : Obj := { cls := .type "set", dict := none, data := .set #[] 0 (.fresh 0 0 (!w.params.followText "set-order")) }
section
variable {P : Program} {w : World} {A : Around} {E : Value → Shared → Prop} {s : Shared}
theorem setN_new {h : Heap} {a : Addr} (g : h.get? a = some (set0 w)) : SetN P w h a [] #[] 0 (.fresh 0 0 (!w.params.followText "set-order")) where
  at_ := ⟨_, g, ⟨rfl, rfl, rfl⟩, rfl⟩
  rows := rfl
  tab := ⟨List.Pairwise.nil, rfl, rfl, .inl rfl, (fun x m => by cases m), fun i v j e => by simp at e⟩
  one := List.nodup_nil
  key := fun p m => by cases m
  led := by
    show _ ∨ (!w.params.followText "set-order") = true
    cases w.params.followText "set-order"
    · exact .inr rfl
    · exact .inl rfl
  gap := show 0 * 5 < 7 * 3 by decide
  few := show 0 < 64 by decide
theorem fill_loop {I : Addr} {fp wr : List Addr} {G : Array GenState → Array GenState → Prop} {n : Nat} {Pv : Nat → Value → Prop} {St : Nat → Shared → Prop} {R : Result → Shared → Prop}
    (W : WalksS P w A.in1 I fp wr G n Pv St) (S : Addr) (sf : S ∉ fp) (ks : List Rw) (hn : n = ks.length) (few : ks.length < 64) (val : ∀ i v, Pv i v → ∃ p, ks[i]? = some p ∧ v = .ref p.2)
    (h0 : Heap) (key : ∀ p ∈ ks, KIs h0 p.1 p.2) (s0 : h0.get? S = none) (w0 : ∀ b ∈ wr, h0.get? b = none) (room : A.in1.units + 8 < cLine) :
    ∀ (m i : Nat) (s : Shared), n - i = m → i ≤ n → St i s → (∀ b o, h0.get? b = some o → s.heap.get? b = some o) → (∃ L es ep t, SetN P w s.heap S L es ep t ∧ Coll ks i L) →
      (∀ s' L es ep t, Moved (S :: wr) G s s' → SetN P w s'.heap S L es ep t → Coll ks n L → (∀ b o, h0.get? b = some o → s'.heap.get? b = some o) → R (.ok (.ret .none)) s') →
      codeAny (model P w) A (.builtin "set.update.loop" ⟨[.ref S, .ref I], []⟩) R s := by
  have nw : S ∉ wr := fun z => sf (W.sub _ z)
  have up : ∀ b ∈ wr, b ∈ S :: wr := fun b z => List.mem_cons_of_mem _ z
  have old : ∀ {s s' : Shared}, Moved wr G s s' → (∀ b o, h0.get? b = some o → s.heap.get? b = some o) → ∀ b o, h0.get? b = some o → s'.heap.get? b = some o := fun mv k b o e => mv.heap b o (fun z => by rw [w0 b z] at e; cases e) (k b o e)
  have stay : ∀ {s s' : Shared} {L es ep t} {i : Nat}, Moved wr G s s' → (∀ b o, h0.get? b = some o → s'.heap.get? b = some o) → Coll ks i L → SetN P w s.heap S L es ep t → SetN P w s'.heap S L es ep t := fun {s s' L es ep t i} mv k g R => by
    obtain ⟨o, q, x⟩ := R.at_
    exact ⟨⟨o, mv.heap S o nw q, x⟩, R.rows, R.tab, R.one, fun p hp => (key p (List.mem_of_mem_take (g.from_ p hp))).go k, R.led, R.gap, R.few⟩
  intro m
  induction m with
  | zero =>
    intro i s e le st k ⟨L, es, ep, t, R0, g⟩ out
    obtain rfl : i = n := by omega
    refine codeAny_builtin F.entry_set_update_loop ?_
    rw [Around.under_plainId F.plain_set_update_loop _]
    show wpAny _ A.in1 (pyNext (.ref I) >>= _) _ _ s
    refine wpAny_bind (W.done s _ _ st fun s' mv => ?_)
    show wpAny _ A.in1 (ret Value.none) _ _ s'
    exact wpAny_pure (out s' L es ep t (mv.mono up) (stay mv (old mv k) g R0) g (old mv k))
  | succ m ih =>
    intro i s e le st k ⟨L, es, ep, t, R0, g⟩ out
    have lt : i < n := by omega
    refine codeAny_builtin F.entry_set_update_loop ?_
    rw [Around.under_plainId F.plain_set_update_loop _]
    show wpAny _ A.in1 (pyNext (.ref I) >>= _) _ _ s
    refine wpAny_bind (W.item i s _ _ lt st fun v s' pv st' mv => ?_)
    obtain ⟨p, hp, rfl⟩ := val i v pv
    have k' := old mv k
    have R1 := stay mv k' g R0
    have hx : KIs s'.heap p.1 p.2 := (key p (List.mem_of_getElem? hp)).go k'
    show wpAny _ A.in1 (holding [Value.ref p.2] (setAdd S (.ref p.2)) >>= _) _ _ s'
    refine wpAny_bind (wpAny_holding ?_)
    unfold setAdd
    refine wpAny_holding (wpAny_bind ((nestedKind P w).pyHash room hx ?_))
    refine add_in (s := { s' with toks := s'.toks + p.1.draws }) R1 hx room (by have := g.few_; omega) fun b h' L' es' ep' t' sb R2 c1 c2 => ?_
    have k2 : ∀ b o, h0.get? b = some o → h'.get? b = some o := fun b o q => (sb.2 b (fun z => by rw [z, s0] at q; cases q)).trans (k' b o q)
    refine wpAny_pure ⟨plainId_quiet F.plain_set_update_loop _, ih (i + 1) _ (by omega) lt (W.frame _ s' _ _ st' (Nat.le_add_right _ _) fun b hb o q => ?_) k2 ⟨L', es', ep', t', R2, g.next hp c1 c2⟩ fun s'' L2 es2 ep2 t2 mv2 R3 g2 k3 => ?_⟩
    · rw [sb.2 b (fun z : b = S => sf (by rw [← z]; exact hb))]
      exact q
    · refine out s'' L2 es2 ep2 t2 (Moved.trans W.gtrans ((mv.mono up).then_heap (Nat.le_add_right _ _) fun b o hb q => ?_) mv2) R3 g2 k3
      rw [sb.2 b (fun z : b = S => hb (by rw [z]; exact List.mem_cons_self))]
      exact q
set_option maxHeartbeats 3200000 in
/-- set(xs) of a list -/
theorem call_setN {l : Addr} {items : Array Value} (ks : List Rw) {Q : Value → Shared → Prop} (hh : A.handled = none) (hl : s.heap.IsList l items) (hit : items.toList = ks.map fun p => Value.ref p.2) (key : ∀ p ∈ ks, KIs s.heap p.1 p.2) (few : ks.length < 64) (room : A.units + 12 < cLine)
    (q : ∀ (h' : Heap) (tk : Nat) L es ep t, SetN P w h' s.heap.objs.size L es ep t → Coll ks ks.length L → (∀ b o, s.heap.get? b = some o → h'.get? b = some o) → Q (.ref s.heap.objs.size) { s with heap := h', toks := tk }) :
    wpAny (model P w) A (call (.type "set") [.ref l]) Q E s := by
  have isz : items.size = ks.length := by rw [← Array.length_toList, hit, List.length_map]
  obtain ⟨c, tl, hmro⟩ := F.called_set.mro
  have hmade := F.called_set.made
  have hsub := F.called_set.sub
  refine wpAny_call (codeAny_of_tree ?_)
  show wpAny _ _ (callAny (.type "set") _) _ _ _
  refine wpAny_pure ⟨Code.quiet_builtin _ (by decide +kernel), codeAny_builtin F.entry_type_call ?_⟩
  rw [Around.under_plain (weight_type_call_type "set" [.ref l] []) rfl]
  have h1 := F.called_set.notType
  have h2 := F.called_set.canCreate
  have hct := F.typeCall_set_1 (.ref l)
  repeat (any_goals (first | assumption | wp_step))
  refine codeAny_mono (code_set_led1 (.ref l) (E := E) (Q₁ := fun v s1 => v = .ref s.heap.objs.size ∧ s1 = { s with heap := s.heap.push (set0 w) }) ⟨rfl, rfl⟩) fun r s1 hr => ?_
  cases r with
  | error e => exact hr
  | ok fl =>
    cases fl with
    | ret v =>
      obtain ⟨rfl, rfl⟩ := hr
      have g0 : (s.heap.push (set0 w)).get? s.heap.objs.size = some (set0 w) := Heap.get?_push_size _ rfl
      have hT : Shared.TypeIs { s with heap := s.heap.push (set0 w) } (.ref s.heap.objs.size) "set" := ⟨_, g0, rfl⟩
      have hli := F.called_set.init.lookup
      have hbi := F.called_set.init.bind (.ref s.heap.objs.size)
      repeat (any_goals (first | assumption | wp_step))
      refine codeAny_mono (codeAny_call_builtin (R := wants (fun r s2 => r = .none ∧ ∃ h' tk L es ep t, s2 = { s with heap := h', toks := tk } ∧ SetN P w h' s.heap.objs.size L es ep t ∧ Coll ks ks.length L ∧ (∀ b o, s.heap.get? b = some o → h'.get? b = some o)) E) F.called_set.init.plain F.entry_set_init (check_set_init_1 hT ?_)) fun r2 s2 hr2 => ?_
      · obtain ⟨ol, hol, hcl, nl, hdl⟩ := hl
        obtain ⟨ocls, odict, odata, oslots⟩ := ol
        simp only at hcl hdl
        subst hcl; subst hdl
        have hol' : (s.heap.push (set0 w)).get? l = some { cls := .type "list", dict := odict, data := .seq items nl, slots := oslots } := Heap.get?_push_of_some _ hol
        have hsls := F.sub_list_set
        have hslf := F.sub_list_frozenset
        have hne : (Value.type "list" == Value.type "dict") = false := by decide
        have hl1 : (s.heap.push (set0 w)).IsList l items := ⟨_, hol', rfl, nl, rfl⟩
        unfold Builtin.«set.__init__» noKeywords Builtin.Frozenset.updateFrom
        generalize hPI : pyIter = PI
        wp_walk
        subst hPI
        refine wpAny_pyIter_list hl1 (wpAny_bind (wpAny_runValue ?_))
        have ll : l < s.heap.objs.size := Heap.lt_size hol
        have sz1 : (s.heap.push (set0 w)).objs.size = s.heap.objs.size + 1 := Heap.size_push ..
        have none_of : ∀ b, s.heap.objs.size ≤ b → s.heap.get? b = none := fun b hb => by
          cases z : s.heap.get? b with
          | none => rfl
          | some o => exact absurd (Heap.lt_size z) (Nat.not_lt.mpr hb)
        refine fill_loop ((Walks.list (by simp [hh]) _ l (by rw [Heap.size_push]; exact Nat.ne_of_lt (Nat.lt_succ_of_lt ll)) items).toS) s.heap.objs.size (by
          rw [Heap.size_push]
          simp only [List.mem_cons, List.not_mem_nil, or_false, not_or]
          exact ⟨Nat.ne_of_lt (Nat.lt_succ_self _), Nat.ne_of_gt ll⟩) ks isz few (fun i v hv => ?_) s.heap key (none_of _ (Nat.le_refl _)) (fun b hb => none_of b (by rw [List.mem_singleton.mp hb, Heap.size_push]; exact Nat.le_succ _)) ?_ (items.size - 0) 0 _ (by omega) (Nat.zero_le _)
          ⟨⟨_, Heap.get?_push_size _ rfl, rfl, rfl⟩, hl1.push _⟩ (fun b o e => Heap.get?_push_of_some _ (Heap.get?_push_of_some _ e)) ⟨[], #[], 0, _, setN_new (Heap.get?_push_of_some _ g0), ⟨(fun p m => by cases m), (fun p m => by simp at m), Nat.le_refl _⟩⟩ ?_
        · have e1 : items.toList[i]? = some v := by rw [Array.getElem?_toList]; exact hv
          rw [hit, List.getElem?_map] at e1
          cases z : ks[i]? with
          | none => rw [z] at e1; cases e1
          | some p => rw [z] at e1; exact ⟨p, rfl, (Option.some.inj e1).symm⟩
        · show A.units + 1 + 1 + 1 + 8 < cLine
          omega
        · intro s' L es ep t mv R g k
          obtain ⟨h', g2, d', tk', os'⟩ := s'
          have eg : g2 = s.gens := mv.gens
          have ed : d' = s.drawn := mv.drawn
          have eo : os' = s.os := mv.os
          subst eg; subst ed; subst eo
          show wpAny _ _ _ _ _ _
          refine wpAny_pure ?_
          show wpAny _ _ (ret Value.none) _ _ _
          rw [isz] at g
          exact wpAny_pure ⟨rfl, h', tk', L, es, ep, t, rfl, R, g, k⟩
      · cases r2 with
        | error e => exact hr2
        | ok fl2 =>
          cases fl2 with
          | ret r =>
            obtain ⟨rfl, h', tk, L, es, ep, t, rfl, R, g, k⟩ := hr2
            repeat (any_goals (first | assumption | wp_step))
            exact q _ _ _ _ _ _ R g k
          | _ => exact hr2.elim
    | _ => exact hr.elim
end
end So
end
section
set_option Elab.async false
set_option autoImplicit false
set_option linter.all false
set_option maxRecDepth 100000
/-! S30: sorted(set(xs)). -/
namespace So
open PySem PySem.Spec PyProof.Rows L2 PySem.W
open Ev (D Ob Mem R RS RL RB Bop Cop Bi Mt CE CEs CT CTs FE Src CO Tg Tgs evE evL evT evF evO evAnd evOr evTA evTO evSrc)
/-! ### the order of data -/
theorem le_tr (a b c : D) (h1 : (!b.lt a) = true) (h2 : (!c.lt b) = true) : (!c.lt a) = true := by
  rw [Bool.not_eq_true'] at *
  cases q : c.lt a with
  | false => rfl
  | true =>
    unfold D.lt at *
    rw [lexTok_is] at *
    rcases lex_negTrans (O := itemOrd) _ b.toks _ q with z | z
    · rw [h2] at z; cases z
    · rw [h1] at z; cases z
theorem le_tot (a b : D) : ((!b.lt a) || (!a.lt b)) = true := by
  cases q : b.lt a with
  | false => rfl
  | true =>
    cases r : a.lt b with
    | false => rfl
    | true =>
      unfold D.lt at *
      rw [lexTok_is] at *
      have := lex_trans (O := itemOrd) _ _ _ q r
      rw [lex_irrefl] at this
      cases this
mutual
theorem toks_inj : ∀ (a b : D) (r t : List (Int ⊕ List Nat)), a.alike b = true → a.toks ++ r = b.toks ++ t → a = b ∧ r = t
  | .non, b, r, t, k, e => by
    cases b <;> first | (simp [D.alike] at k; done) | skip
    exact ⟨rfl, e⟩
  | .bl x, b, r, t, k, e => by
    cases b with
    | bl y =>
      simp only [D.toks, List.cons_append, List.nil_append, List.cons.injEq, Sum.inl.injEq] at e
      refine ⟨?_, e.2⟩
      have e1 := e.1
      cases x <;> cases y <;> simp at e1 <;> rfl
    | _ => simp [D.alike] at k
  | .int x, b, r, t, k, e => by
    cases b with
    | int y =>
      simp only [D.toks, List.cons_append, List.nil_append, List.cons.injEq, Sum.inl.injEq] at e
      exact ⟨by rw [e.1], e.2⟩
    | _ => simp [D.alike] at k
  | .str x, b, r, t, k, e => by
    cases b with
    | str y =>
      simp only [D.toks, List.cons_append, List.nil_append, List.cons.injEq, Sum.inr.injEq] at e
      exact ⟨by rw [e.1], e.2⟩
    | _ => simp [D.alike] at k
  | .tup x, b, r, t, k, e => by
    cases b with
    | tup y =>
      rw [D.alike] at k
      rw [D.toks, D.toks] at e
      obtain ⟨h1, h2⟩ := tokss_inj x y r t k e
      exact ⟨by rw [h1], h2⟩
    | _ => simp [D.alike] at k
  | .lst x, b, r, t, k, e => by
    cases b with
    | lst y =>
      rw [D.alike] at k
      rw [D.toks, D.toks] at e
      obtain ⟨h1, h2⟩ := tokss_inj x y r t k e
      exact ⟨by rw [h1], h2⟩
    | _ => simp [D.alike] at k
  | .loc _, b, r, t, k, e => by simp [D.alike] at k
  | .fn _, b, r, t, k, e => by simp [D.alike] at k
  | .scr _, b, r, t, k, e => by simp [D.alike] at k
  | .rep _, b, r, t, k, e => by simp [D.alike] at k
theorem tokss_inj : ∀ (a b : List D) (r t : List (Int ⊕ List Nat)), D.alikes a b = true → D.tokss a ++ r = D.tokss b ++ t → a = b ∧ r = t
  | [], [], r, t, k, e => by
    rw [D.tokss] at e
    simpa using e
  | [], y :: ys, r, t, k, e => by
    rw [D.tokss, D.tokss] at e
    simp at e
  | x :: xs, [], r, t, k, e => by
    rw [D.tokss, D.tokss] at e
    simp at e
  | x :: xs, y :: ys, r, t, k, e => by
    rw [D.alikes, Bool.and_eq_true] at k
    rw [D.tokss, D.tokss] at e
    simp only [List.cons_append, List.append_assoc, List.cons.injEq, true_and] at e
    obtain ⟨h1, h2⟩ := toks_inj x y _ _ k.1 e
    obtain ⟨h3, h4⟩ := tokss_inj xs ys _ _ k.2 h2
    exact ⟨by rw [h1, h3], h4⟩
end
/-- the same things in two orders are sorted alike -/
theorem sortD_perm {xs ys : List D} (al : ∀ a ∈ xs, ∀ b ∈ xs, a.alike b = true) (pm : xs.Perm ys) : Ev.sortD xs = Ev.sortD ys := by
  unfold Ev.sortD
  have p1 := List.mergeSort_perm xs fun a b => !b.lt a
  have p2 := List.mergeSort_perm ys fun a b => !b.lt a
  refine List.Perm.eq_of_pairwise (le := fun a b => (!b.lt a) = true) (fun a b ha hb h1 h2 => ?_) (List.pairwise_mergeSort le_tr le_tot xs) (List.pairwise_mergeSort le_tr le_tot ys) (p1.trans (pm.trans p2.symm))
  have ma := p1.mem_iff.mp ha
  have mb := pm.mem_iff.mpr (p2.mem_iff.mp hb)
  rw [Bool.not_eq_true'] at h1 h2
  unfold D.lt at h1 h2
  rw [lexTok_is] at h1 h2
  have e := lex_total (O := itemOrd) _ _ h2 h1
  exact (toks_inj a b [] [] (al a ma b mb) (by rw [List.append_nil, List.append_nil]; exact e)).1
mutual
theorem eqv_inj : ∀ (a b : D), a.alike b = true → a.eqv b = true → a = b
  | .non, b, k, e => by cases b <;> first | rfl | (simp [D.alike] at k)
  | .bl x, b, k, e => by cases b <;> first | (simp [D.alike] at k; done) | (simp [D.eqv] at e; rw [e])
  | .int x, b, k, e => by cases b <;> first | (simp [D.alike] at k; done) | (simp [D.eqv] at e; rw [e])
  | .str x, b, k, e => by cases b <;> first | (simp [D.alike] at k; done) | (simp [D.eqv] at e; rw [e])
  | .tup x, b, k, e => by
    cases b with
    | tup y => rw [D.alike] at k; rw [D.eqv] at e; rw [eqvs_inj x y k e]
    | _ => simp [D.alike] at k
  | .lst x, b, k, e => by
    cases b with
    | lst y => rw [D.alike] at k; rw [D.eqv] at e; rw [eqvs_inj x y k e]
    | _ => simp [D.alike] at k
  | .loc _, b, k, e => by simp [D.alike] at k
  | .fn _, b, k, e => by simp [D.alike] at k
  | .scr _, b, k, e => by simp [D.alike] at k
  | .rep _, b, k, e => by simp [D.alike] at k
theorem eqvs_inj : ∀ (a b : List D), D.alikes a b = true → D.eqvs a b = true → a = b
  | [], [], _, _ => rfl
  | [], _ :: _, _, e => by simp [D.eqvs] at e
  | _ :: _, [], _, e => by simp [D.eqvs] at e
  | x :: xs, y :: ys, k, e => by
    rw [D.alikes, Bool.and_eq_true] at k
    rw [D.eqvs, Bool.and_eq_true] at e
    rw [eqv_inj x y k.1 e.1, eqvs_inj xs ys k.2 e.2]
end
mutual
theorem eqv_self : ∀ d : D, d.pure = true → d.eqv d = true
  | .non, _ => rfl
  | .bl b, _ => by simp [D.eqv]
  | .int b, _ => by simp [D.eqv]
  | .str b, _ => by simp [D.eqv]
  | .tup xs, p => by rw [D.eqv]; exact eqvs_self xs (by rw [D.pure] at p; exact p)
  | .lst xs, p => by rw [D.eqv]; exact eqvs_self xs (by rw [D.pure] at p; exact p)
  | .loc _, p => by simp [D.pure] at p
  | .fn _, p => by simp [D.pure] at p
  | .scr _, p => by simp [D.pure] at p
  | .rep _, p => by simp [D.pure] at p
theorem eqvs_self : ∀ ds : List D, D.pures ds = true → D.eqvs ds ds = true
  | [], _ => rfl
  | d :: ds, p => by
    rw [D.pures, Bool.and_eq_true] at p
    rw [D.eqvs, eqv_self d p.1, eqvs_self ds p.2]; rfl
end
theorem dedup_is : ∀ (xs acc : List D), (∀ a ∈ acc ++ xs, a.pure = true) → (∀ a ∈ acc ++ xs, ∀ b ∈ acc ++ xs, a.alike b = true) → acc.Nodup → (Ev.dedup acc xs).Nodup ∧ ∀ z, z ∈ Ev.dedup acc xs ↔ z ∈ acc ++ xs
  | [], acc, _, _, n => by simp [Ev.dedup, n]
  | x :: xs, acc, p, al, n => by
    rw [Ev.dedup]
    have mx : x ∈ acc ++ x :: xs := by simp
    by_cases q : acc.any (fun z => z.eqv x) = true
    · rw [if_pos q]
      obtain ⟨y, my, ey⟩ := List.any_eq_true.mp q
      have e : y = x := eqv_inj y x (al y (by simp [my]) x mx) ey
      subst e
      obtain ⟨h1, h2⟩ := dedup_is xs acc (fun a m => p a (by simp at m ⊢; rcases m with z | z <;> simp [z])) (fun a m b m' => al a (by simp at m ⊢; rcases m with z | z <;> simp [z]) b (by simp at m' ⊢; rcases m' with z | z <;> simp [z])) n
      refine ⟨h1, fun z => ?_⟩
      rw [h2 z]
      simp only [List.mem_append, List.mem_cons]
      constructor
      · rintro (m | m)
        · exact .inl m
        · exact .inr (.inr m)
      · rintro (m | m | m)
        · exact .inl m
        · subst m; exact .inl my
        · exact .inr m
    · rw [if_neg q]
      have nx : x ∉ acc := fun m => q (List.any_eq_true.mpr ⟨x, m, eqv_self x (p x mx)⟩)
      obtain ⟨h1, h2⟩ := dedup_is xs (acc ++ [x]) (fun a m => p a (by simpa using m)) (fun a m b m' => al a (by simpa using m) b (by simpa using m')) (by
        rw [List.nodup_append]
        refine ⟨n, by simp, fun a ha b hb e => ?_⟩
        rw [List.mem_singleton] at hb
        subst hb e
        exact nx ha)
      exact ⟨h1, fun z => by rw [h2 z]; simp⟩
/-! ### keys -/
mutual
def toNK : D → NK
  | .bl b => .num (if b = true then 1 else 0)
  | .int i => .num i
  | .str s => .text (tx s)
  | .tup xs => .tup (toNKs xs)
  | _ => .none
def toNKs : List D → List NK
  | [] => []
  | x :: xs => toNK x :: toNKs xs
end
mutual
theorem nk_depth : ∀ d : D, (toNK d).depth ≤ d.dep
  | .tup xs => by rw [toNK, NestedKey.depth, D.dep]; have := nks_depth xs; omega
  | .non => Nat.zero_le _
  | .bl _ => Nat.zero_le _
  | .int _ => Nat.zero_le _
  | .str _ => Nat.zero_le _
  | .lst _ => Nat.zero_le _
  | .loc _ => Nat.zero_le _
  | .fn _ => Nat.zero_le _
  | .scr _ => Nat.zero_le _
  | .rep _ => Nat.zero_le _
theorem nks_depth : ∀ ds : List D, NestedKey.depthAll (toNKs ds) ≤ D.deps ds
  | [] => Nat.le_refl _
  | d :: ds => by
    have h1 := nk_depth d
    have h2 := nks_depth ds
    rw [toNKs, NestedKey.depthAll, D.deps]
    omega
end
mutual
theorem nk_inj : ∀ (a b : D), a.keyB = true → a.alike b = true → toNK a = toNK b → a = b
  | .non, b, _, k, e => by cases b <;> first | rfl | (simp [D.alike] at k)
  | .bl x, b, _, k, e => by
    cases b with
    | bl y =>
      simp only [toNK, NestedKey.num.injEq] at e
      cases x <;> cases y <;> simp at e <;> rfl
    | _ => simp [D.alike] at k
  | .int x, b, _, k, e => by
    cases b with
    | int y => simp only [toNK, NestedKey.num.injEq] at e; rw [e]
    | _ => simp [D.alike] at k
  | .str x, b, _, k, e => by
    cases b with
    | str y =>
      simp only [toNK, NestedKey.text.injEq] at e
      have := congrArg (fun z : Str => z.cps.toList) e
      simp only [tx_list] at this
      rw [this]
    | _ => simp [D.alike] at k
  | .tup x, b, q, k, e => by
    cases b with
    | tup y =>
      rw [D.alike] at k
      rw [D.keyB] at q
      simp only [toNK, NestedKey.tup.injEq] at e
      rw [nks_inj x y q k e]
    | _ => simp [D.alike] at k
  | .lst _, b, q, k, e => by simp [D.keyB] at q
  | .loc _, b, q, k, e => by simp [D.keyB] at q
  | .fn _, b, q, k, e => by simp [D.keyB] at q
  | .scr _, b, q, k, e => by simp [D.keyB] at q
  | .rep _, b, q, k, e => by simp [D.keyB] at q
theorem nks_inj : ∀ (a b : List D), D.keyBs a = true → D.alikes a b = true → toNKs a = toNKs b → a = b
  | [], [], _, _, _ => rfl
  | [], _ :: _, _, _, e => by simp [toNKs] at e
  | _ :: _, [], _, _, e => by simp [toNKs] at e
  | x :: xs, y :: ys, q, k, e => by
    rw [D.alikes, Bool.and_eq_true] at k
    rw [D.keyBs, Bool.and_eq_true] at q
    simp only [toNKs, List.cons.injEq] at e
    rw [nk_inj x y q.1 k.1 e.1, nks_inj xs ys q.2 k.2 e.2]
end
section
variable {S : Sx} {g : G} {X : Cx} {pins : List (Addr × Obj)} {σ : L2.St} {H : L2.Hp} {s : Shared}
mutual
theorem key_is (I : Inv X pins σ H s) (hK : X.K = S.K) (fz : ∀ a o, g.F a = some o → H a = some o) : ∀ (d : D) (v : V) (u : Value), d.keyB = true → VD S g d v → RelV v u → NestedIs s.heap (toNK d) u
  | .non, v, u, _, z, r => by cases z; cases r; exact .none
  | .bl b, v, u, _, z, r => by cases z; cases r; exact .bool rfl
  | .int i, v, u, _, z, r => by cases z; obtain ⟨t, rfl⟩ := r; exact .int i t
  | .str x, v, u, _, z, r => by obtain ⟨z, _⟩ := z; cases z; obtain ⟨t, rfl⟩ := r; exact .text (tx x) t
  | .tup xs, v, u, q, z, r => by
    obtain ⟨a, vs, e, q1, w⟩ := z
    subst e
    cases r
    rw [D.keyB] at q
    obtain ⟨its, rv, ⟨o, ho, hc, n, hd⟩, _⟩ := I.tuple (by rw [hK]; exact sqT_mono fz q1 : SqT X.K H a vs)
    exact .tup ho hc hd (by simpa using keys_are I hK fz xs vs its q w rv)
  | .lst _, v, u, q, z, r => by simp [D.keyB] at q
  | .loc _, v, u, q, z, r => by simp [D.keyB] at q
  | .fn _, v, u, q, z, r => by simp [D.keyB] at q
  | .scr _, v, u, q, z, r => by simp [D.keyB] at q
  | .rep _, v, u, q, z, r => by simp [D.keyB] at q
theorem keys_are (I : Inv X pins σ H s) (hK : X.K = S.K) (fz : ∀ a o, g.F a = some o → H a = some o) : ∀ (ds : List D) (vs : List V) (us : List Value), D.keyBs ds = true → VDs S g ds vs → Vals vs us → NestedAll s.heap (toNKs ds) us
  | [], vs, us, _, z, r => by cases z; cases r; exact .nil
  | d :: ds, vs, us, q, z, r => by
    rw [D.keyBs, Bool.and_eq_true] at q
    obtain ⟨v, vr, e, h1, h2⟩ := z
    subst e
    cases r with
    | cons r1 r2 => exact .cons (key_is I hK fz d v _ q.1 h1 r1) (keys_are I hK fz ds vr _ q.2 h2 r2)
end
end
/-! ### the call of sorted -/
theorem perm_map {α β : Type} {f : α → β} : ∀ {l1 l2 : List β}, l1.Perm l2 → ∀ L : List α, l2 = L.map f → ∃ L1 : List α, L1.Perm L ∧ l1 = L1.map f := by
  intro l1 l2 pm
  induction pm with
  | nil => intro L e; exact ⟨L, .refl _, e⟩
  | cons x p ih =>
    intro L e
    cases L with
    | nil => cases e
    | cons a L =>
      rw [List.map_cons] at e
      injection e with e1 e2
      obtain ⟨L1, h1, h2⟩ := ih L e2
      exact ⟨a :: L1, h1.cons a, by rw [List.map_cons, e1, h2]⟩
  | swap x y l =>
    intro L e
    match L, e with
    | a :: b :: L, e =>
      simp only [List.map_cons, List.cons.injEq] at e
      exact ⟨b :: a :: L, .swap .., by simp only [List.map_cons, List.cons.injEq]; exact ⟨e.2.1, e.1, e.2.2⟩⟩
  | trans p q i1 i2 =>
    intro L e
    obtain ⟨L2, h1, h2⟩ := i2 L e
    obtain ⟨L1, h3, h4⟩ := i1 L2 h2
    exact ⟨L1, h3.trans h1, h4⟩
theorem each_of {α : Type} {R1 : Value → D → Prop} (f : α → D) (u : α → Value) : ∀ L : List α, (∀ p ∈ L, R1 (u p) (f p)) → EachIs R1 (L.map u) (L.map f)
  | [], _ => .nil
  | p :: L, h => .cons (h p List.mem_cons_self) (each_of f u L fun q m => h q (List.mem_cons_of_mem _ m))
section
variable {P : Program} {w : World} {A : Around} {E : Value → Shared → Prop} {s : Shared} {a : Addr} {L : List Rw} {es : Array (Int × Value)} {ep : Nat} {t : SetTable}
theorem call_sortedN (R : SetN P w s.heap a L es ep t) (hh : A.handled = none) (f : Rw → D) (rd : ∀ p ∈ L, ∃ as, Reads s.heap (.ref p.2) (toP (f p)) as) (al : ∀ p ∈ L, ∀ q ∈ L, PySem.W.alike (toP (f p)) (toP (f q)) = true) (tp : ∀ p ∈ L, ∃ x r, toP (f p) = .tuple (x :: r))
    (dp : ∀ p ∈ L, A.units + 10 + (toP (f p)).depth < cLine) {Q : Value → Shared → Prop}
    (q : ∀ (s' : Shared) (c : Addr) (out : List Value) (L1 : List Rw), (∀ b o, s.heap.get? b = some o → s'.heap.get? b = some o) → s'.gens = s.gens → s'.os = s.os → s.heap.objs.size ≤ c → L1.Perm L → (∃ e, s'.heap.get? c = some (seqObj "list" out.toArray e)) → out.length = L.length →
      EachIs (fun u d => ∃ p ∈ L, u = .ref p.2 ∧ d = f p) out ((L1.map f).mergeSort (dataLe false toP)) → Q (.ref c) s') : wpAny (model P w) A (call (.builtin "sorted") [.ref a]) Q E s := by
  obtain ⟨o, g, ex, d⟩ := R.at_
  have few := R.few
  refine Calls.call_function_entry kind_sorted plain_sorted entry_sorted (args_sorted1 _) ?_
  unfold Builtin.«sorted»
  refine wpAny_bind (m := checkCount "sorted" 1 1 _) (wpAny_pure ?_)
  refine wpAny_bind (collect_set (A := A.in1) hh ⟨o, g, ex.1, d⟩ R.fit (by rw [R.many]; unfold scanBound; omega) R.tab.ris R.led fun s1 vs k1 hz g1 o1 pm => ?_)
  have hes : es.toList.map (·.2) = L.map fun p => Value.ref p.2 := by
    rw [R.rows, List.map_map]; rfl
  rw [hes] at pm
  obtain ⟨L1, pL, rfl⟩ := perm_map pm L rfl
  have m1 : ∀ p ∈ L1, p ∈ L := fun p m => pL.mem_iff.mp m
  have n1 := pL.length_eq
  refine wpAny_bind (wpAny_newList ?_ (by rw [List.length_map, sizeLine_eq]; omega))
  have gl : (s1.heap.push (seqObj "list" (L1.map fun p => Value.ref p.2).toArray 0)).get? s1.heap.objs.size = some (seqObj "list" (L1.map fun p => Value.ref p.2).toArray 0) := Heap.get?_push_size _ rfl
  have fresh : s1.heap.get? s1.heap.objs.size = none := by
    cases z : s1.heap.get? s1.heap.objs.size with
    | none => rfl
    | some o => exact absurd (Heap.lt_size z) (Nat.lt_irrefl _)
  refine wpAny_bind (wpAny_holding (PySem.W.list_sort_data (s := { s1 with heap := s1.heap.push (seqObj "list" (L1.map fun p => Value.ref p.2).toArray 0) }) (enc := toP) (bs := L1.map f) (R := fun u d => ∃ p ∈ L, u = Value.ref p.2 ∧ d = f p) gl (each_of f _ L1 fun p m => ⟨p, m1 p m, rfl, rfl⟩) (each_of f _ L1 fun p m => ?_) (fun x mx y my => ?_) (.inl fun x mx => ?_) (by rw [List.length_map, sizeLine_eq]; omega) (fun b mb => ?_) fun out lo eo => ?_))
  · obtain ⟨as, r⟩ := rd p (m1 p m)
    have r1 := Reads.keeps k1 r
    refine ⟨as, Reads.keeps (fun b o e => Heap.get?_push_of_some _ e) r1, fun z => ?_⟩
    obtain ⟨o, e⟩ := PyProof.On.reads_mem_get r1 _ z
    rw [fresh] at e
    cases e
  · obtain ⟨x1, h1, rfl⟩ := List.mem_map.mp mx
    obtain ⟨x2, h2, rfl⟩ := List.mem_map.mp h1
    obtain ⟨y1, h3, rfl⟩ := List.mem_map.mp my
    obtain ⟨y2, h4, rfl⟩ := List.mem_map.mp h3
    exact al x2 (m1 x2 h2) y2 (m1 y2 h4)
  · obtain ⟨x1, h1, rfl⟩ := List.mem_map.mp mx
    obtain ⟨x2, h2, rfl⟩ := List.mem_map.mp h1
    exact tp x2 (m1 x2 h2)
  · obtain ⟨x1, h1, rfl⟩ := List.mem_map.mp mb
    have := dp x1 (m1 x1 h1)
    show A.units + 1 + 1 + _ < cLine
    omega
  · have hc := sortedHeap_at (vs := L1.map fun p => Value.ref p.2) (out := out.toArray) gl
    have kk : ∀ b u, s.heap.get? b = some u → (sortedHeap (s1.heap.push (seqObj "list" (L1.map fun p => Value.ref p.2).toArray 0)) s1.heap.objs.size (L1.map fun p => Value.ref p.2) out.toArray).get? b = some u := fun b u e => by
      have e1 := k1 b u e
      have lt := Heap.lt_size e1
      rw [sortedHeap_old (Nat.ne_of_lt lt) (by rw [size_push']; exact Nat.lt_succ_of_lt lt)]
      exact Heap.get?_push_of_some _ e1
    have ll : out.length = L.length := by rw [lo, List.length_map, n1]
    exact wpAny_pure ⟨_, rfl, q _ s1.heap.objs.size out L1 kk g1 o1 hz pL hc ll eo⟩
end
end So
end
section
set_option Elab.async false
set_option autoImplicit false
set_option linter.all false
set_option maxRecDepth 100000
/-! S31: sorted(set(xs)), the rule. -/
namespace So
open PySem PySem.Spec PyProof.Rows L2 PySem.W
open Ev (D Ob Mem R RS RL RB Bop Cop Bi Mt CE CEs CT CTs FE Src CO Tg Tgs evE evL evT evF evO evAnd evOr evTA evTO evSrc)
theorem keyrows {S : Sx} {g : G} : ∀ {ds : List D} {ws : List V} {us : List Value}, VDs S g ds ws → Vals ws us → (∀ d ∈ ds, d.isTup = true) → ∃ ks : List (D × Addr), ks.map Prod.fst = ds ∧ us = ks.map (fun p => Value.ref p.2) ∧ ∀ p ∈ ks, VD S g p.1 (.ref p.2)
  | [], ws, us, z, r, _ => by cases z; cases r; exact ⟨[], rfl, rfl, fun _ m => by cases m⟩
  | d :: ds, ws, us, z, r, t => by
    obtain ⟨v, vr, e, h1, h2⟩ := z
    subst e
    cases r with
    | cons r1 r2 =>
      obtain ⟨ks, k1, k2, k3⟩ := keyrows h2 r2 fun x m => t x (List.mem_cons_of_mem _ m)
      have td := t d List.mem_cons_self
      cases d with
      | tup xs =>
        obtain ⟨a, vs, e, q, w⟩ := id h1
        subst e
        cases r1
        refine ⟨(.tup xs, a) :: ks, by rw [List.map_cons, k1], by rw [List.map_cons, k2], fun p m => ?_⟩
        rcases List.mem_cons.mp m with z | z
        · subst z; exact h1
        · exact k3 p z
      | _ => simp [D.isTup] at td
/-- the D of a row -/
noncomputable def rowD (S : Sx) (g : G) (ds : List D) (p : Rw) : D :=
  open Classical in if h : ∃ d, d ∈ ds ∧ toNK d = p.1 ∧ VD S g d (.ref p.2) then Classical.choose h else .non
theorem rowD_is {S : Sx} {g : G} {ds : List D} {p : Rw} (h : ∃ d, d ∈ ds ∧ toNK d = p.1 ∧ VD S g d (.ref p.2)) : rowD S g ds p ∈ ds ∧ toNK (rowD S g ds p) = p.1 ∧ VD S g (rowD S g ds p) (.ref p.2) := by
  unfold rowD
  rw [dif_pos h]
  exact Classical.choose_spec h
section
variable {T : Tx} {k : Nat} {X : Cx} {W : WX} {sc : Sc} {C : Ev.Cx} {a : CE} {pos : Pos}
theorem nd_sortset (cx : Cxt T k X W sc) {np mp q : Pos} {v : Expr} (hl : glB sc "sorted" = true) (hs : glB sc "set" = true) (hn : noStar [v] = true) (ha : PE X v (tE T.S W (evE C a))) :
    PE X (.Call (.Name "sorted" np) [.Call (.Name "set" mp) [v] [] q] [] pos) (tF T.S W (evF C (.sortset a))) := by
  obtain ⟨g1, _⟩ := cx.gl_of hl
  obtain ⟨g2, _⟩ := cx.gl_of hs
  have hu := cx.units
  have mn : ∀ x ∈ used, X.mg x = none := fun x hx => by rw [cx.mg]; exact cx.ok.blt x hx
  have st := noStar_cons (r := []) (env := X.env) hn
  refine ⟨fun pins s σ H Q I hq => ?_⟩
  have rd : tE T.S W (evE C a) σ H fun x H1 => ∃ (g : G) (h : Mem) (l : Addr) (ws : List V) (ds : List D), Rel T.S g h H1 ∧ x = V.ref l ∧ H1 l = some (.lst ws) ∧ VDs T.S g ds ws ∧ Ev.canSet ds = true ∧
      ∀ p us, H1 p = none → VDs T.S g (Ev.sortD (Ev.dedup [] ds)) us → Q (.ref p) (upd H1 p (.lst us)) := by
    obtain ⟨g, f, h, R, Fr, out⟩ := hq
    rw [Ev.evF] at out
    refine tE_bind R Fr ?_
    cases qa : evE C a f h with
    | exc c1 x1 h1 => rw [qa] at out; exact out
    | stuck => rw [qa] at out; exact out
    | ok d h1 =>
      rw [qa] at out
      intro x g1 H1 s1 R1 V1 F1
      dsimp only at out
      have vh := shal_vh R1 V1
      cases qs : Ev.shal h1 d with
      | lst t =>
        rw [qs] at out vh
        obtain ⟨p1, ws, e1, e2, e3⟩ := vh
        dsimp only at out
        split at out
        · rename_i can
          obtain ⟨ds', e, out⟩ := out
          cases e
          exact ⟨g1, h1, p1, ws, t, R1, e1, e2, e3, can, fun q us hq w => outF_new R R1 s1 hq w out⟩
        · exact False.elim out
      | _ => rw [qs] at out; exact False.elim out
  refine Call_ (ld_blt I g1 (mn "sorted" (by decide)) (by decide +kernel : bootBuiltins "sorted" = some (.builtin "sorted")) ?_)
  refine callWith_builtin1 (args_cons ?_ rfl) rfl rfl
  refine Call_ (ld_blt I g2 (mn "set" (by decide)) PyProof.Rows.boot_set ?_)
  refine callWith_type1 (args_cons (thn (ha.run pins s σ H _ I rd) fun u s1 ⟨x, H1, I1, ru, g, h, l, ws, ds, R, ex, hl, w, can, fin⟩ => args_nil ?_) st) st rfl
  subst ex
  obtain rfl : u = Value.ref l := ru
  unfold Ev.canSet at can
  simp only [Bool.and_eq_true, decide_eq_true_eq] at can
  obtain ⟨⟨⟨⟨⟨p1, p2⟩, p3⟩, p4⟩, p5⟩, p6⟩ := can
  have alk : ∀ x ∈ ds, ∀ y ∈ ds, x.alike y = true := fun x m y m' => List.all_eq_true.mp (List.all_eq_true.mp p5 x m) y m'
  have pm := pures_mem p1
  have km : ∀ {ds : List D}, D.keyBs ds = true → ∀ d ∈ ds, d.keyB = true := by
    intro ds
    induction ds with
    | nil => intro _ d m; cases m
    | cons x xs ih =>
      intro q d m
      rw [D.keyBs, Bool.and_eq_true] at q
      rcases List.mem_cons.mp m with z | z
      · subst z; exact q.1
      · exact ih q.2 d z
  have kb := km p2
  obtain ⟨its, rv, pl, hz⟩ := I1.list (.of hl)
  obtain ⟨ks, k1, k2, k3⟩ := keyrows w rv fun d m => List.all_eq_true.mp p6 d m
  have kd : ∀ p ∈ ks, p.1 ∈ ds := fun p m => by rw [← k1]; exact List.mem_map_of_mem m
  have len : ks.length = ds.length := by rw [← k1, List.length_map]
  refine call_setN (P := X.prog) (w := X.w) (ks.map fun p => (toNK p.1, p.2)) (I1.ok.hd cx.calm) pl.isList (by rw [List.map_map]; show its.toArray.toList = ks.map (fun p => Value.ref p.2); simpa using k2) (fun p m => ?_) (by rw [List.length_map, len]; exact p4) (by omega) fun h2 tk L es ep t RN co kept => args_nil ?_
  · obtain ⟨r, m1, rfl⟩ := List.mem_map.mp m
    have dd := kd r m1
    exact ⟨key_is I1 cx.K R.fz r.1 _ _ (kb _ dd) (k3 r m1) rfl, Nat.le_trans (nk_depth _) (Nat.le_trans (deps_mem _ dd) p3)⟩
  have J0 : Inv X pins σ H1 { s1 with heap := h2, toks := tk } := I1.kept fun b o e => kept b o e
  have inL : ∀ p ∈ L, ∃ d, d ∈ ds ∧ toNK d = p.1 ∧ VD T.S g d (.ref p.2) := fun p m => by
    have := List.mem_of_mem_take (co.from_ p m)
    obtain ⟨r, m1, rfl⟩ := List.mem_map.mp this
    exact ⟨r.1, kd r m1, rfl, k3 r m1⟩
  have fr := fun p m => rowD_is (inL p m)
  generalize hf : rowD T.S g ds = f at fr
  refine call_sortedN (s := { s1 with heap := h2, toks := tk }) RN (I1.ok.hd cx.calm) f (fun p m => ?_) (fun p m q m' => alike_p _ _ (pm _ (fr p m).1) (pm _ (fr q m').1) (alk _ (fr p m).1 _ (fr q m').1)) (fun p m => ?_) (fun p m => ?_) fun s' c out L1 kk gg oo cle pL gc lo eo => ?_
  · exact Dp.reads J0 (toP (f p)) (.ref p.2) _ (by rw [cx.K]; exact VD.dp R.fz _ _ (pm _ (fr p m).1) (fr p m).2.2) rfl
  · have := List.all_eq_true.mp p6 _ (fr p m).1
    cases q : f p with
    | tup xs =>
      rw [q] at this
      cases xs with
      | nil => simp [D.isTup] at this
      | cons b xs => exact ⟨toP b, toPs xs, by simp [toP, toPs]⟩
    | _ => rw [q] at this; simp [D.isTup] at this
  · have h1 := dep_p (f p) (pm _ (fr p m).1)
    have h2 := deps_mem _ (fr p m).1
    omega
  obtain ⟨e, gc⟩ := gc
  have mL : ∀ p ∈ L1, p ∈ L := fun p m => pL.mem_iff.mp m
  have srt : (L1.map f).mergeSort (dataLe false toP) = Ev.sortD (Ev.dedup [] ds) := by
    have e1 : (L1.map f).mergeSort (dataLe false toP) = Ev.sortD (L1.map f) := by
      unfold Ev.sortD
      have : ∀ x ∈ L1.map f, ∀ y ∈ L1.map f, dataLe false toP x y = !(y.lt x) := fun x hx y hy => by
        obtain ⟨x', m1, rfl⟩ := List.mem_map.mp hx
        obtain ⟨y', m2, rfl⟩ := List.mem_map.mp hy
        rw [lt_p (pm _ (fr y' (mL y' m2)).1) (pm _ (fr x' (mL x' m1)).1)]
        rfl
      exact sort_congr this
    rw [e1]
    obtain ⟨n1, n2⟩ := dedup_is ds [] (by simpa using pm) (by simpa using alk) List.nodup_nil
    refine sortD_perm (fun x mx y my => ?_) ((List.perm_ext_iff_of_nodup ?_ n1).mpr fun z => ?_)
    · obtain ⟨x', m1, rfl⟩ := List.mem_map.mp mx
      obtain ⟨y', m2, rfl⟩ := List.mem_map.mp my
      exact alk _ (fr x' (mL x' m1)).1 _ (fr y' (mL y' m2)).1
    · have : ((L1.map f).map toNK).Nodup := by
        rw [List.map_map]
        have e2 : L1.map (toNK ∘ f) = L1.map Prod.fst := List.map_congr_left fun p m => (fr p (mL p m)).2.1
        rw [e2]
        exact (pL.map Prod.fst).nodup_iff.mpr RN.one
      exact List.Pairwise.of_map toNK (fun _ _ ne e => ne (by rw [e])) this
    · rw [n2 z, List.nil_append]
      constructor
      · intro m
        obtain ⟨p, m1, rfl⟩ := List.mem_map.mp m
        exact (fr p (mL p m1)).1
      · intro m
        obtain ⟨r, m1, e2⟩ : ∃ r ∈ ks, r.1 = z := by
          have : z ∈ ks.map Prod.fst := by rw [k1]; exact m
          obtain ⟨r, a1, a2⟩ := List.mem_map.mp this
          exact ⟨r, a1, a2⟩
        have m2 := co.all_ (toNK r.1, r.2) (by rw [List.take_length]; exact List.mem_map.mpr ⟨r, m1, rfl⟩)
        obtain ⟨p, m3, e3⟩ := List.mem_map.mp m2
        have fp := fr p m3
        have : f p = z := nk_inj _ _ (kb _ fp.1) (alk _ fp.1 _ m) (by rw [fp.2.1, e3, e2])
        exact List.mem_map.mpr ⟨p, pL.mem_iff.mpr m3, this⟩
  rw [srt] at eo
  obtain ⟨us, w2, r2⟩ := vd_each (S := T.S) (g := g) (eo.mono fun u d ⟨p, m, e1, e2⟩ => ⟨.ref p.2, by rw [e1]; rfl, by rw [e2]; exact (fr p m).2.2⟩)
  have hn : H1 c = none := J0.hok.fresh cle
  have lus : us.length ≤ sizeLine := by
    have l1 := Vals.length r2
    have l2 := RN.few
    rw [l1, lo, sizeLine_eq]
    omega
  have J : Inv X pins σ (upd H1 c (.lst us)) { ({ s1 with heap := h2, toks := tk } : Shared) with heap := s'.heap, gens := s'.gens, drawn := s'.drawn, toks := s'.toks } :=
    J0.call (ch := []) (Un.laid kk cle hn) (J0.hok.laid kk cle ⟨lus, out, e, r2, gc⟩) (by rw [gg]; exact J0.bare) (fun _ z => nomatch z)
  have es' : s' = { s1 with heap := s'.heap, gens := s'.gens, drawn := s'.drawn, toks := s'.toks } := by
    cases s'
    cases s1
    cases oo
    rfl
  rw [es']
  exact ⟨.ref c, _, J, rfl, fin c us hn w2⟩
end
end So
end
section
set_option Elab.async false
set_option autoImplicit false
set_option linter.all false
/-! S32: walking two rows at once. -/
namespace So
open PySem PySem.Spec PyProof.Rows L2
open Ev (D Ob Mem Fr R RS RL RB Bop Cop Bi Mt CE CEs CT CTs FE Src CO Tg Tgs evE evL evT evF evO evAnd evOr evTA evTO evSrc)
theorem zipD_get : ∀ (xs ys : List D) (i : Nat) (d : D), (Ev.zipD xs ys)[i]? = some d → ∃ x y, xs[i]? = some x ∧ ys[i]? = some y ∧ d = .tup [x, y]
  | [], ys, i, d, e => by simp [Ev.zipD] at e
  | x :: xs, [], i, d, e => by simp [Ev.zipD] at e
  | x :: xs, y :: ys, 0, d, e => by
    simp [Ev.zipD] at e
    exact ⟨x, y, rfl, rfl, e.symm⟩
  | x :: xs, y :: ys, i + 1, d, e => by
    rw [Ev.zipD, List.getElem?_cons_succ] at e
    obtain ⟨x', y', h1, h2, h3⟩ := zipD_get xs ys i d e
    exact ⟨x', y', by simpa using h1, by simpa using h2, h3⟩
theorem zipD_end : ∀ (xs ys : List D) (i : Nat), (Ev.zipD xs ys).length ≤ i → xs.length ≤ i ∨ ys.length ≤ i
  | [], ys, i, _ => .inl (Nat.zero_le _)
  | x :: xs, [], i, _ => .inr (Nat.zero_le _)
  | x :: xs, y :: ys, i, h => by
    rw [Ev.zipD, List.length_cons] at h
    rcases zipD_end xs ys (i - 1) (by omega) with z | z
    · exact .inl (by rw [List.length_cons]; omega)
    · exact .inr (by rw [List.length_cons]; omega)
theorem wk_zipT {S : Sx} {g : G} {ds es : List D} {a b : Addr} {vs ws : List V} {K : PySem.W.Frag} (hK : K = S.K) (e1 : SqT S.K g.F a vs) (w1 : VDs S g ds vs) (e2 : SqT S.K g.F b ws) (w2 : VDs S g es ws) : Wk S g (Ev.zipD ds es) (RZ.ItzT K a b) := by
  intro g2 h2 H2 E R i
  have q1 : SqT K H2 a vs := by rw [hK]; exact sqT_mono R.fz (sqT_mono E.fz e1)
  have q2 : SqT K H2 b ws := by rw [hK]; exact sqT_mono R.fz (sqT_mono E.fz e2)
  refine ⟨fun d hd => ?_, fun hl => ⟨vs, ws, q1, q2, by rw [← VDs.length w1, ← VDs.length w2]; exact zipD_end ds es i hl⟩⟩
  obtain ⟨x, y, h1, h2', rfl⟩ := zipD_get ds es i d hd
  obtain ⟨v, f1, f2⟩ := VDs.get w1 h1
  obtain ⟨u, f3, f4⟩ := VDs.get w2 h2'
  refine ⟨⟨vs, ws, v, u, q1, q2, f1, f3⟩, fun z H3 yl => ?_⟩
  obtain ⟨T, v', u', rfl, hT, rfl, k1, k2⟩ := yl
  have r1 := k1 vs q1
  have r2 := k2 ws q2
  rw [f1] at r1
  rw [f3] at r2
  cases r1
  cases r2
  obtain ⟨g', r', st, vd'⟩ := new_tup R hT (VDs.cons (VD.mono E _ _ f2) (VDs.cons (VD.mono E _ _ f4) (show VDs S g2 [] [] from rfl)))
  exact ⟨g', r', st, vd'⟩
theorem wk_zipL {S : Sx} {g : G} {ds es : List D} {a b : Addr} {vs ws : List V} {K : PySem.W.Frag} (e1 : g.F a = some (.lst vs)) (w1 : VDs S g ds vs) (e2 : g.F b = some (.lst ws)) (w2 : VDs S g es ws) : Wk S g (Ev.zipD ds es) (Itz K a b) := by
  intro g2 h2 H2 E R i
  have q1 : SqL K H2 a vs := .of (R.fz a _ (E.fz a _ e1))
  have q2 : SqL K H2 b ws := .of (R.fz b _ (E.fz b _ e2))
  refine ⟨fun d hd => ?_, fun hl => ⟨vs, ws, q1, q2, by rw [← VDs.length w1, ← VDs.length w2]; exact zipD_end ds es i hl⟩⟩
  obtain ⟨x, y, h1, h2', rfl⟩ := zipD_get ds es i d hd
  obtain ⟨v, f1, f2⟩ := VDs.get w1 h1
  obtain ⟨u, f3, f4⟩ := VDs.get w2 h2'
  refine ⟨⟨vs, ws, v, u, q1, q2, f1, f3⟩, fun z H3 yl => ?_⟩
  obtain ⟨T, v', u', rfl, hT, rfl, k1, k2⟩ := yl
  have r1 := k1 vs q1
  have r2 := k2 ws q2
  rw [f1] at r1
  rw [f3] at r2
  cases r1
  cases r2
  obtain ⟨g', r', st, vd'⟩ := new_tup R hT (VDs.cons (VD.mono E _ _ f2) (VDs.cons (VD.mono E _ _ f4) (show VDs S g2 [] [] from rfl)))
  exact ⟨g', r', st, vd'⟩
section
variable {T : Tx} {k : Nat} {X : Cx} {W : WX} {sc : Sc} {C : Ev.Cx} {es : CEs} {v w : Expr} {pos tpos : Pos}
theorem nd_zip (cx : Cxt T k X W sc) {np : Pos} {elts : List Expr} {kk : Nat} (hg : glB sc "zip" = true) (hs : noStar [v, w] = true) (ha : PA X [v, w] (tL T.S W (evL C es))) : PI X (.Tuple elts kk tpos) (.Call (.Name "zip" np) [v, w] [] pos) (tS T.S W (evSrc C (.zip es))) := by
  obtain ⟨g1, _⟩ := cx.gl_of hg
  have hm : X.mg "zip" = none := by rw [cx.mg]; exact cx.ok.blt "zip" (by decide)
  obtain ⟨s1, s2⟩ := noStar_head hs
  refine PI.imp (RZ.pi_zipA g1 hm ha (noStar_cons s1) (by rw [noStar_cons (r := []) s2]; rfl)) fun σ H Rj hq => ?_
  obtain ⟨g, f, h, R, Fr, out⟩ := hq
  rw [Ev.evSrc] at out
  refine tL_bind R Fr ?_
  cases qa : evL C es f h with
  | exc c1 x1 h1 => rw [qa] at out; exact out
  | stuck => rw [qa] at out; exact out
  | ok ds h1 =>
    rw [qa] at out
    intro us g1 H1 s1 R1 V1 F1
    dsimp only at out
    cases qz : Ev.zip2 ds with
    | none => rw [qz] at out; exact False.elim out
    | some xs =>
      rw [qz] at out
      unfold Ev.zip2 at qz
      split at qz
      · cases qz
        obtain ⟨x, y, rfl, V2, V3⟩ := VDs.two_of V1
        obtain ⟨a, vs, rfl, q1, w1⟩ := V2
        obtain ⟨b, ws, rfl, q2, w2⟩ := V3
        exact ⟨a, b, vs, ws, rfl, .inr ⟨by rw [cx.K]; exact sqT_mono R1.fz q1, by rw [cx.K]; exact sqT_mono R1.fz q2, out _ g1 H1 s1 R1 (wk_zipT cx.K q1 w1 q2 w2)⟩⟩
      · cases qz
        obtain ⟨x, y, rfl, V2, V3⟩ := VDs.two_of V1
        obtain ⟨a, vs, rfl, q1, w1⟩ := V2
        obtain ⟨b, ws, rfl, q2, w2⟩ := V3
        exact ⟨a, b, vs, ws, rfl, .inl ⟨.of (R1.fz a _ q1), .of (R1.fz b _ q2), out _ g1 H1 s1 R1 (wk_zipL q1 w1 q2 w2)⟩⟩
      · cases qz
end
end So
end
section
set_option Elab.async false
set_option autoImplicit false
set_option linter.all false
set_option maxRecDepth 100000
/-! S33: {key: True for ..}, the keys nested tuples. -/
namespace So
open PySem PySem.Spec PyProof.Rows L2
abbrev Ent := NK × Addr × Value
section
variable {P : Program} {w : World} {a : Addr} {xs : List Ent}
/-- what stands at the dict's place -/
def rowsD (P : Program) (w : World) (a : Addr) (xs : List Ent) (h : Heap) : Prop :=
  (a == sysModules) = false ∧ ∃ ob es ep, h.get? a = some ob ∧ ob.ExactDict ∧ ob.data = .dict es ep ∧ es.toList = xs.map (entryOfKey (nestedKind P w)) ∧ (xs.map fun z => z.1).Nodup
def dictO (P : Program) (w : World) (a : Addr) (xs : List Ent) : HO := .ext (rowsD P w a xs)
theorem dictO_ok {H : Hp} {h : Heap} (z : rowsD P w a xs h) : ObjOk P w H h a (dictO P w a xs) :=
  ⟨z, (let ⟨_, ob, _, _, e, _⟩ := z; ⟨ob, e⟩), fun h1 h2 ⟨y, ob, es, ep, e, r⟩ keep => ⟨y, ob, es, ep, keep ob e, r⟩⟩
theorem dictO_at {H : Hp} {h : Heap} (ok : HOk P w H h) (e : H a = some (dictO P w a xs)) : rowsD P w a xs h :=
  (show ObjOk P w H h a (dictO P w a xs) from ok a _ e).1
theorem dictO_nil (h : Heap) {H : Hp} (big : sysModules < h.objs.size) : ObjOk P w H (h.push { cls := .type "dict", data := .dict #[] }) h.objs.size (dictO P w h.objs.size []) :=
  dictO_ok ⟨beq_eq_false_iff_ne.mpr (Nat.ne_of_gt big), _, #[], 0, Heap.get?_push_size _ rfl, ⟨rfl, rfl, rfl⟩, rfl, rfl, List.nodup_nil⟩
end
/-- a key, wherever the heap is held -/
def KeyAt (K : PySem.W.Frag) (H : Hp) (k : NK) (b : Addr) : Prop :=
  k.depth ≤ 8 ∧ ∀ (X : Cx) (pins : List (Addr × Obj)) (σ : L2.St) (s : Shared), X.K = K → Inv X pins σ H s → NestedIs s.heap k (.ref b)
theorem put_key {X : Cx} {pins : List (Addr × Obj)} {σ : L2.St} {H : Hp} {s : Shared} {E : Value → Shared → Prop} {a b : Addr} {xs : List Ent} {k : NK} {r : Value} {Q : Unit → Shared → Prop} (I : Inv X pins σ H s) (at_ : H a = some (dictO X.prog X.w a xs)) (room : X.A.units + 8 < cLine)
    (kb : KeyAt X.K H k b) (all : ∀ z ∈ xs, KeyAt X.K H z.1 z.2.1) (few : xs.length ≤ sizeLine) (q : ∀ s', Inv X pins σ (upd H a (dictO X.prog X.w a (storedH xs k b r))) s' → Q () s') : wpAny (model X.prog X.w) X.A (dictSet a (.ref b) r) Q E s := by
  obtain ⟨lo, ob, es, ep, e1, e2, e3, e4, e5⟩ := dictO_at I.hok at_
  refine wpAny_dictSet_heap (knd := nestedKind X.prog X.w) room ⟨kb.2 X pins σ s rfl I, kb.1⟩ ⟨ob, es, ep, e1, e2, e3, e4, fun z m => ⟨(all z m).2 X pins σ s rfl I, (all z m).1⟩, e5⟩ (fun h' now same => q _ ?_) few
  obtain ⟨ob', es', ep', f1, f2, f3, f4, _, f5⟩ := now
  exact d_write I (by rw [at_]; exact True.intro) same ⟨ob', f1⟩ (dictO_ok ⟨lo, ob', es', ep', f1, f2, f3, f4, f5⟩)
section
variable {X : Cx}
/-- {key: True for target in iter if ..} -/
def tDcN (P : Program) (w : World) (K : PySem.W.Frag) (wi : TI) (gt : TG) (tt : TT) (tk tv : TE) (vs : List Nat) : TE := fun σ H Q => wi σ H fun Jt H1 => ∀ Dp, H1 Dp = none → ∃ W : Nat → Nat → Hp → Prop, (∃ m, W 0 m (upd H1 Dp (dictO P w Dp []))) ∧ ∀ i m Hn, W i m Hn →
  (Jt.stop i Hn ∧ Q (.ref Dp) Hn) ∨ (Jt.go i Hn ∧ ∃ Nx : Hp → Prop, (∀ H', Nx H' → ∃ m', m' < m ∧ W (i + 1) m' H') ∧ ∀ x H', Jt.yld i Hn x H' → gt x (wipe σ vs) H' fun σ2 H2 => wipe σ2 vs = wipe σ vs ∧ tt σ2 H2 fun yes H3 =>
    if yes = true then tk σ2 H3 fun y H4 => tv σ2 H4 fun z H5 => z = .bl true ∧ ∃ xs k b, y = .ref b ∧ H5 Dp = some (dictO P w Dp xs) ∧ KeyAt K H5 k b ∧ (∀ u ∈ xs, KeyAt K H5 u.1 u.2.1) ∧ xs.length ≤ sizeLine ∧ Nx (upd H5 Dp (dictO P w Dp (storedH xs k b (.bool true)))) else Nx H3)
theorem dcN_core {pins : List (Addr × Obj)} {s : Shared} {σ : L2.St} {H : Hp} {Q : VK} {kx vx tg it : Expr} {ifs : List Expr} {scope : Scope} {own : List (Str × Nat)} {pos pos' : Pos} {wi : TI} {gt : TG} {tt : TT} {tk tv : TE} {use : Option (Value → Sem Unit)} {Qf : Value → Shared → Prop}
    (calm : X.calm = true) (nd : X.N.Nodup) (room : X.A.units + 8 < cLine) (I : Inv X pins σ H s) (hi : PI X tg it wi) (ok : BlkOk X.N X.env.scope scope own)
    (hg : ∀ (s : Shared) (H : Hp) (c : Addr) (cl : List (Str × Addr)) (fp : List Addr), PG (X.blk s H scope (compEnvC scope cl c X.env) fp) tg gt) (ht : ∀ (s : Shared) (H : Hp) (c : Addr) (cl : List (Str × Addr)) (fp : List Addr), PTs (X.blk s H scope (compEnvC scope cl c X.env) fp) ifs tt)
    (hk : ∀ (s : Shared) (H : Hp) (c : Addr) (cl : List (Str × Addr)) (fp : List Addr), PE (X.blk s H scope (compEnvC scope cl c X.env) fp) kx tk)
    (he : ∀ (s : Shared) (H : Hp) (c : Addr) (cl : List (Str × Addr)) (fp : List Addr), PE (X.blk s H scope (compEnvC scope cl c X.env) fp) vx tv) (fold : ∀ x, foldedSetIterable it X.env x = pure x)
    (h : tDcN X.prog X.w X.K wi gt tt tk tv (own.map fun p => p.2) σ H Q)
    (out : ∀ Dp c s' m H', Inv X pins σ H' s' → Q (.ref Dp) H' → s'.heap.Ns c m → FpOk X pins H' c → compPost (model X.prog X.w) X.A X.xe use Qf (.ref Dp) c (.ok .next) s') :
    wpAny (model X.prog X.w) X.A (comprehension (.DictComp kx vx [⟨tg, it, ifs, 0⟩] scope pos) scope X.env pos' newDict false (eval it X.env) use) Qf X.xe s := by
  have free : ∀ y ∈ scope.names, y.2 = .free → ∃ c, X.env.cells.lookup y.1 = some c := fun y my e => by
    rcases ok.free y my e with z | z
    · exact I.ok.has _ (.inl z)
    · exact I.ok.has _ (.inr z)
  refine wpAny_comprehension_free (use := use) rfl fold (closure_ok free) ok.kind (fun y my e => by rw [ok.uniq y my, e]) (thn (hi.run pins s σ H _ I h) fun xv t1 hx => thn hx fun iv t2 h2 => ?_)
  obtain ⟨ia, fp, tn, Jt, H2, e, I2, T, st2, f2, q⟩ := h2
  subst e
  refine wpAny_newObj_type (newEnv_comp ?_)
  generalize hD : t2.heap.objs.size = Dp
  have fresh : H2 Dp = none := I2.hok.fresh (Nat.le_of_eq hD)
  obtain ⟨W, ⟨m0, w0⟩, turn⟩ := q Dp fresh
  generalize et3 : ({ t2 with heap := t2.heap.push { cls := .type "dict", data := .dict #[] } } : Shared) = t3
  have I3 : Inv X pins σ (upd H2 Dp (dictO X.prog X.w Dp [])) t3 := by
    rw [← et3]
    refine I2.laid (t' := t2.toks) (fun b ob e => Heap.get?_push_of_some _ e) (Nat.le_of_eq hD) ?_
    rw [← hD]
    exact dictO_nil t2.heap I2.big
  have heap3 : t3.heap = t2.heap.push { cls := .type "dict", data := .dict #[] } := by rw [← et3]
  have low : ∀ b ∈ fp, b < t2.heap.objs.size := fun b mb => by
    obtain ⟨ob, e, _⟩ := T.obj _ _ st2 b mb
    exact Heap.lt_size e
  have f3 : ∀ b ∈ fp, FpOk X pins (upd H2 Dp (dictO X.prog X.w Dp [])) b ∧ b < t3.heap.objs.size := fun b mb => by
    have lt := low b mb
    refine ⟨⟨?_, (f2 b mb).2⟩, by rw [heap3, Heap.size_push]; exact Nat.lt_succ_of_lt lt⟩
    rw [upd_ne (by rw [← hD]; exact Nat.ne_of_lt lt)]
    exact (f2 b mb).1
  have st3 : tn 0 t3.heap := T.keep _ _ _ st2 fun b _ ob e => by rw [heap3]; exact Heap.get?_push_of_some _ e
  have I4 := block_start I3 ok nd f3
  have pg := hg t3 (upd H2 Dp (dictO X.prog X.w Dp [])) t3.heap.objs.size (cellsFrom (t3.heap.objs.size + 1) scope.names (cloFrom X.env.cells scope.names [])) fp
  have pt := ht t3 (upd H2 Dp (dictO X.prog X.w Dp [])) t3.heap.objs.size (cellsFrom (t3.heap.objs.size + 1) scope.names (cloFrom X.env.cells scope.names [])) fp
  have pk := hk t3 (upd H2 Dp (dictO X.prog X.w Dp [])) t3.heap.objs.size (cellsFrom (t3.heap.objs.size + 1) scope.names (cloFrom X.env.cells scope.names [])) fp
  have pe := he t3 (upd H2 Dp (dictO X.prog X.w Dp [])) t3.heap.objs.size (cellsFrom (t3.heap.objs.size + 1) scope.names (cloFrom X.env.cells scope.names [])) fp
  show codeAny _ _ (.compStart (.DictComp kx vx [⟨tg, it, ifs, 0⟩] scope pos) 0 (.ref ia) (.ref Dp) (compEnvC scope (cellsFrom (t3.heap.objs.size + 1) scope.names (cloFrom X.env.cells scope.names [])) t3.heap.objs.size X.env)) (compPost (model X.prog X.w) X.A X.xe use Qf (.ref Dp) t3.heap.objs.size) { t3 with heap := pushCells (t3.heap.push { cls := .type "dict", data := .dict #[] }) scope.names }
  have none3 : ∀ b ∈ fp, (upd H2 Dp (dictO X.prog X.w Dp [])) b = none := fun b mb => (f3 b mb).1.1
  generalize hce : compEnvC scope (cellsFrom (t3.heap.objs.size + 1) scope.names (cloFrom X.env.cells scope.names [])) t3.heap.objs.size X.env = ce at I4 pg pt pk pe ⊢
  have locE : ce.locals = t3.heap.objs.size := by subst hce; rfl
  generalize hH3 : upd H2 Dp (dictO X.prog X.w Dp []) = H3 at I3 I4 pg pt pk pe w0 none3 f3
  generalize et4 : ({ t3 with heap := pushCells (t3.heap.push { cls := .type "dict", data := .dict #[] }) scope.names } : Shared) = t4 at I4 ⊢
  have st4 : tn 0 t4.heap := T.keep _ _ _ st3 fun b _ ob e => by rw [← et4]; exact pushCells_keeps _ _ _ _ (Heap.get?_push_of_some _ e)
  have still : ∀ {σ' : L2.St} {H' : Hp} {s' : Shared}, Inv (X.blk t3 H3 scope ce fp) [] σ' H' s' → (∀ b ∈ fp, H' b = none) → ∀ b ∈ fp, FpOk (X.blk t3 H3 scope ce fp) [] H' b := fun {σ' H' s'} I' no b mb =>
    ⟨no b mb, (I'.ok.exf b mb).1, I'.ok.exfs b mb, .inl mb, fun x c e => (I'.ok.exf b mb).2 x c e, fun p mp => absurd (show p ∈ ([] : List (Addr × Obj)) ++ [] from mp) (by simp)⟩
  have loop : codeAny (model X.prog X.w) X.A (.compLoop (.DictComp kx vx [⟨tg, it, ifs, 0⟩] scope pos) 0 (.ref ia) (.ref Dp) ce) (compPost (model X.prog X.w) X.A X.xe use Qf (.ref Dp) t3.heap.objs.size) t4 := by
    refine compLoop_anyD (fun n s' => ∃ i H', Inv (X.blk t3 H3 scope ce fp) [] (wipe σ (own.map fun p => p.2)) H' s' ∧ tn i s'.heap ∧ (∀ b ∈ fp, H' b = none) ∧ W i n H') ?_ m0 ⟨0, H3, I4, st4, none3, w0⟩
    rintro n t5 ⟨i, H5, I5, st5, n5, w5⟩
    rcases turn i n H5 w5 with ⟨stop, qq⟩ | ⟨go, Nx, hNx, step⟩
    · have td := T.done (X.blk t3 H3 scope ce fp) rfl rfl rfl calm i [] t5 _ H5 (fun _ _ => False) I5 (still I5 n5) st5 stop
      refine thnF td fun r t6 ⟨hr, I6⟩ => ?_
      subst hr
      have I7 : Inv X pins σ H5 t6 := I3.call' (ch := fp) I6.os I6.base I6.hok I6.bare fun b mb => ⟨(f3 b mb).1.2.2.2.1, (f3 b mb).1.2.1, (f3 b mb).1.2.2.2.2.1, (f3 b mb).1.2.2.2.2.2⟩
      have noC : H5 t3.heap.objs.size = none := by
        have z : H5 ce.locals = none := I6.free
        rw [locE] at z
        exact z
      obtain ⟨m, hn, _⟩ := I6.loc
      have hn : t6.heap.Ns ce.locals m := hn
      rw [locE] at hn
      exact out Dp t3.heap.objs.size t6 m H5 I7 qq hn (I3.fpOk (Nat.le_refl _) noC)
    · have ti := T.item (X.blk t3 H3 scope ce fp) rfl rfl rfl calm i [] t5 _ H5 (fun _ _ => False) I5 (still I5 n5) st5 go
      refine thnF ti fun r t6 ⟨u, hr, h6⟩ => ?_
      subst hr
      refine thnF h6 fun _ t7 ⟨x, H7, I7, r7, y7, st7, n7⟩ => ?_
      have I7' := I7.pinned (still I7 n7) (T.obj _ _ st7)
      refine thnF (pg.run _ t7 _ H7 x u _ I7' r7 (step x H7 y7)) fun _ t8 ⟨σ8, H8, I8, hw8, q8⟩ => ?_
      refine thnF (pt.run _ t8 σ8 H8 _ I8 q8) fun yes t9 ⟨H9, I9, q9⟩ => ?_
      have fin : ∀ {s' : Shared} {H' : Hp}, Inv (X.blk t3 H3 scope ce fp) ([] ++ pinsAt fp t7.heap) σ8 H' s' → Nx H' → ∃ m, m < n ∧ ∃ i H', Inv (X.blk t3 H3 scope ce fp) [] (wipe σ (own.map fun p => p.2)) H' s' ∧ tn i s'.heap ∧ (∀ b ∈ fp, H' b = none) ∧ W i m H' := fun {s' H'} I' nx => by
        obtain ⟨m', hm, w'⟩ := hNx H' nx
        have pin' : ∀ b ∈ fp, ∀ ob, t7.heap.get? b = some ob → s'.heap.get? b = some ob ∧ H' b = none := fun b mb ob e =>
          let z := I'.pin (b, ob) (List.mem_append_right _ (List.mem_append_right _ (mem_pinsAt mb e)))
          ⟨z.1, z.2.1⟩
        have len : (wipe σ (own.map fun p => p.2)).length = σ8.length := by rw [← hw8, wipe_length]
        refine ⟨m', hm, i + 1, H', (I'.unpinned (pins := [])).weak len (fun j v e => ?_), T.keep _ _ _ st7 fun b mb ob e => (pin' b mb ob e).1, fun b mb => ?_, w'⟩
        · rw [← hw8] at e
          exact (wipe_some e).1
        · obtain ⟨ob, e, _⟩ := T.obj _ _ st7 b mb
          exact (pin' b mb ob e).2
      cases yes with
      | false =>
        simp only [Bool.false_eq_true, if_false] at q9 ⊢
        exact fin I9 q9
      | true =>
        simp only [if_true] at q9 ⊢
        refine thnF (pk.run _ t9 σ8 H9 _ I9 q9) fun z t10 ⟨yk, H10, I10, r10, q10⟩ => ?_
        refine thnF (pe.run _ t10 σ8 H10 _ I10 q10) fun z2 t11 ⟨yv, H11, I11, r11, ev, xs, k, b, ek, at_, kb, all, few, nx⟩ => ?_
        subst ek
        subst ev
        obtain rfl : z = Value.ref b := r10
        obtain rfl : z2 = Value.bool true := r11
        exact put_key (X := X.blk t3 H3 scope ce fp) I11 at_ room kb all few fun t12 I12 => fin I12 nx
  exact codeAny_compStart_dict loop (T.self X.A 0 _ _ _ st4 loop)
theorem pe_dcN {kx vx tg it : Expr} {ifs : List Expr} {scope : Scope} {own : List (Str × Nat)} {pos : Pos} {wi : TI} {gt : TG} {tt : TT} {tk tv : TE} (calm : X.calm = true) (nd : X.N.Nodup) (room : X.A.units + 8 < cLine) (hi : PI X tg it wi) (ok : BlkOk X.N X.env.scope scope own)
    (hg : ∀ (s : Shared) (H : Hp) (c : Addr) (cl : List (Str × Addr)) (fp : List Addr), PG (X.blk s H scope (compEnvC scope cl c X.env) fp) tg gt) (ht : ∀ (s : Shared) (H : Hp) (c : Addr) (cl : List (Str × Addr)) (fp : List Addr), PTs (X.blk s H scope (compEnvC scope cl c X.env) fp) ifs tt)
    (hk : ∀ (s : Shared) (H : Hp) (c : Addr) (cl : List (Str × Addr)) (fp : List Addr), PE (X.blk s H scope (compEnvC scope cl c X.env) fp) kx tk)
    (he : ∀ (s : Shared) (H : Hp) (c : Addr) (cl : List (Str × Addr)) (fp : List Addr), PE (X.blk s H scope (compEnvC scope cl c X.env) fp) vx tv) (fold : ∀ x, foldedSetIterable it X.env x = pure x) :
    PE X (.DictComp kx vx [⟨tg, it, ifs, 0⟩] scope pos) (tDcN X.prog X.w X.K wi gt tt tk tv (own.map fun p => p.2)) := by
  refine ⟨fun pins s σ H Q I h => ?_⟩
  rw [arm_eval_DictComp]
  refine dcN_core calm nd room I hi ok hg ht hk he fold h fun Dp c s' m H' I' q hn f => ⟨m, hn, fun h'' sb => ?_⟩
  obtain ⟨f0, f1, f2, f3, f4, f5⟩ := f
  exact ⟨.ref Dp, H', I'.turned (t' := s'.toks) (fun b ob mb e => (sb.2 b mb).trans e) f0 f1 f3 f4 f5, rfl, q⟩
end
end So
end
section
set_option Elab.async false
set_option autoImplicit false
set_option linter.all false
set_option maxRecDepth 100000
/-! S34: sorted({key: True for ..}). -/
namespace So
open PySem PySem.Spec PyProof.Rows L2 PySem.W
open Ev (D Ob Mem R RS RL RB Bop Cop Bi Mt CE CEs CT CTs FE Src CO Tg Tgs evE evL evT evF evO evAnd evOr evTA evTO evSrc)
/-- the rows' keys and places -/
def rws (xs : List Ent) : List Rw := xs.map fun z => (z.1, z.2.1)
theorem stored_rows {xs : List Ent} {k : NK} {b : Addr} {r : Value} : (∀ z ∈ rws (storedH xs k b r), z ∈ rws xs ∨ z = (k, b)) ∧ (∀ c ∈ (rws xs).map Prod.fst, c ∈ (rws (storedH xs k b r)).map Prod.fst) ∧ k ∈ (rws (storedH xs k b r)).map Prod.fst ∧ (storedH xs k b r).length ≤ xs.length + 1 := by
  cases q : atKey xs k with
  | none =>
    rw [storedH_new q]
    refine ⟨fun z m => ?_, fun c m => ?_, ?_, by simp⟩
    · rw [rws, List.map_append] at m
      rcases List.mem_append.mp m with y | y
      · exact .inl y
      · exact .inr (by simpa using y)
    · rw [rws, List.map_append, List.map_append]
      exact List.mem_append_left _ m
    · rw [rws, List.map_append, List.map_append]
      exact List.mem_append_right _ (by simp)
  | some p =>
    rw [storedH_old q]
    have e : rws (xs.map (putAt k r)) = rws xs := by
      rw [rws, List.map_map]
      refine List.map_congr_left fun z _ => ?_
      show ((putAt k r z).1, (putAt k r z).2.1) = _
      unfold putAt
      split <;> rfl
    rw [e]
    refine ⟨fun z m => .inl m, fun c m => m, ?_, by simp⟩
    unfold atKey at q
    obtain ⟨y, f, _⟩ := Option.map_eq_some_iff.mp q
    have := List.find?_some f
    have e1 : y.1 = k := of_decide_eq_true this
    have m1 := List.mem_of_find?_eq_some f
    rw [← e1]
    exact List.mem_map.mpr ⟨(y.1, y.2.1), List.mem_map.mpr ⟨y, m1, rfl⟩, rfl⟩
section
variable {P : Program} {w : World} {A : Around} {E : Value → Shared → Prop} {s : Shared} {a : Addr} {xs : List Ent}
theorem call_sortedDN (R : rowsD P w a xs s.heap) (few : xs.length < 64) (hh : A.handled = none) (f : Rw → D) (rd : ∀ p ∈ rws xs, ∃ as, Reads s.heap (.ref p.2) (toP (f p)) as) (al : ∀ p ∈ rws xs, ∀ q ∈ rws xs, PySem.W.alike (toP (f p)) (toP (f q)) = true) (tp : ∀ p ∈ rws xs, ∃ x r, toP (f p) = .tuple (x :: r))
    (dp : ∀ p ∈ rws xs, A.units + 10 + (toP (f p)).depth < cLine) {Q : Value → Shared → Prop}
    (q : ∀ (h' : Heap) (tk : Nat) (s' : Shared) (out : List Value), (∀ b o, s.heap.get? b = some o → h'.get? b = some o) → (∀ b o, h'.get? b = some o → s'.heap.get? b = some o) → s'.gens = s.gens → s'.os = s.os → (∃ e, s'.heap.get? h'.objs.size = some (seqObj "list" out.toArray e)) → out.length = xs.length →
      EachIs (fun u d => ∃ p ∈ rws xs, u = .ref p.2 ∧ d = f p) out (((rws xs).map f).mergeSort (dataLe false toP)) → Q (.ref h'.objs.size) s') : wpAny (model P w) A (call (.builtin "sorted") [.ref a]) Q E s := by
  obtain ⟨lo, ob, es, ep, e1, e2, e3, e4, e5⟩ := R
  have sz := size_of_entries e4
  refine Calls.call_function_entry kind_sorted plain_sorted entry_sorted (args_sorted1 _) ?_
  unfold Builtin.«sorted»
  refine wpAny_bind (m := checkCount "sorted" 1 1 _) (wpAny_pure ?_)
  refine wpAny_bind (kdu_collect (A := A.in1) (kdl_raw (prog := P) (w := w) lo e2 e3) hh e1 (by rw [sz, sizeLine_eq]; omega) fun h' tk acc k1 it => ?_)
  have ea : acc.toList = (rws xs).map fun p => Value.ref p.2 := by
    apply List.ext_getElem?
    intro j
    rw [List.getElem?_map, rws, List.getElem?_map]
    cases hj : acc.toList[j]? with
    | none =>
      have h1 := List.getElem?_eq_none_iff.mp hj
      rw [Array.length_toList, it.1, sz] at h1
      rw [List.getElem?_eq_none h1]
      rfl
    | some v =>
      obtain ⟨en, h1, hv⟩ := it.2 j v (by rw [← Array.getElem?_toList]; exact hj)
      have qe := entry_at e4 j
      rw [h1] at qe
      cases hb : xs[j]? with
      | none => rw [hb] at qe; exact nomatch (show some en = none from qe)
      | some b =>
        rw [hb] at qe
        have e6 : en = entryOfKey (nestedKind P w) b := Option.some.inj qe
        rw [hv, e6]
        rfl
  rw [ea]
  generalize hL : rws xs = L at *
  have nL : L.length = xs.length := by rw [← hL, rws, List.length_map]
  refine wpAny_bind (wpAny_newList ?_ (by rw [List.length_map, sizeLine_eq]; omega))
  have gl : (h'.push (seqObj "list" (L.map fun p => Value.ref p.2).toArray 0)).get? h'.objs.size = some (seqObj "list" (L.map fun p => Value.ref p.2).toArray 0) := Heap.get?_push_size _ rfl
  have nof : h'.get? h'.objs.size = none := by
    cases z : h'.get? h'.objs.size with
    | none => rfl
    | some o => exact absurd (Heap.lt_size z) (Nat.lt_irrefl _)
  refine wpAny_bind (wpAny_holding (list_sort_data (s := { s with heap := h'.push (seqObj "list" (L.map fun p => Value.ref p.2).toArray 0), toks := tk }) (enc := toP) (bs := L.map f) (R := fun u d => ∃ p ∈ L, u = Value.ref p.2 ∧ d = f p) gl (each_of f _ L fun p m => ⟨p, m, rfl, rfl⟩) (each_of f _ L fun p m => ?_) (fun x mx y my => ?_) (.inl fun x mx => ?_) (by rw [List.length_map, sizeLine_eq]; omega) (fun b mb => ?_) fun out lo eo => ?_))
  · obtain ⟨as, r⟩ := rd p m
    have r1 := Reads.keeps k1 r
    refine ⟨as, Reads.keeps (fun b o e => Heap.get?_push_of_some _ e) r1, fun z => ?_⟩
    obtain ⟨o, e⟩ := PyProof.On.reads_mem_get r1 _ z
    rw [nof] at e
    cases e
  · obtain ⟨x1, h1, rfl⟩ := List.mem_map.mp mx
    obtain ⟨x2, h2, rfl⟩ := List.mem_map.mp h1
    obtain ⟨y1, h3, rfl⟩ := List.mem_map.mp my
    obtain ⟨y2, h4, rfl⟩ := List.mem_map.mp h3
    exact al x2 h2 y2 h4
  · obtain ⟨x1, h1, rfl⟩ := List.mem_map.mp mx
    obtain ⟨x2, h2, rfl⟩ := List.mem_map.mp h1
    exact tp x2 h2
  · obtain ⟨x1, h1, rfl⟩ := List.mem_map.mp mb
    have := dp x1 h1
    show A.units + 1 + 1 + _ < cLine
    omega
  · have hc := sortedHeap_at (vs := L.map fun p => Value.ref p.2) (out := out.toArray) gl
    have kk : ∀ b u, h'.get? b = some u → (sortedHeap (h'.push (seqObj "list" (L.map fun p => Value.ref p.2).toArray 0)) h'.objs.size (L.map fun p => Value.ref p.2) out.toArray).get? b = some u := fun b u e => by
      have lt := Heap.lt_size e
      rw [sortedHeap_old (Nat.ne_of_lt lt) (by rw [size_push']; exact Nat.lt_succ_of_lt lt)]
      exact Heap.get?_push_of_some _ e
    have ll : out.length = xs.length := by rw [lo, List.length_map, nL]
    exact wpAny_pure ⟨_, rfl, q h' tk _ out k1 kk rfl rfl hc ll eo⟩
end
/-- what a comprehension's turns have told stays -/
theorem lcL_more {elt : Ev.Fr → Mem → R} {test : Ev.Fr → Mem → RB} {t : Tg} {f : Ev.Fr} {hf : Mem} {rs : List D} : ∀ (ds acc : List D) (h : Mem), Ev.lcL elt test t f ds acc h = .ok rs hf → ∃ more, rs = acc ++ more
  | [], acc, h, e => by
    rw [Ev.lcL] at e
    cases e
    exact ⟨[], by simp⟩
  | d :: ds, acc, h, e => by
    rw [Ev.lcL] at e
    cases q1 : Ev.asgT t d f with
    | none => rw [q1] at e; cases e
    | some f' =>
      rw [q1] at e
      dsimp only at e
      cases q2 : test f' h with
      | exc c x h1 => rw [q2] at e; cases e
      | stuck => rw [q2] at e; cases e
      | ok b h1 =>
        rw [q2] at e
        cases b with
        | false => exact lcL_more ds acc h1 e
        | true =>
          dsimp only at e
          cases q3 : elt f' h1 with
          | exc c x h2 => rw [q3] at e; cases e
          | stuck => rw [q3] at e; cases e
          | ok y h2 =>
            rw [q3] at e
            dsimp only at e
            split at e
            · obtain ⟨m, em⟩ := lcL_more ds (acc ++ [y]) h2 e
              exact ⟨y :: m, by rw [em]; simp⟩
            · cases e
/-- the rows stand for the data told so far -/
structure Rows (S : Sx) (g : G) (acc : List D) (xs : List Ent) : Prop where
  from_ : ∀ p ∈ rws xs, ∃ d, d ∈ acc ∧ toNK d = p.1 ∧ VD S g d (.ref p.2)
  all_ : ∀ d ∈ acc, toNK d ∈ (rws xs).map Prod.fst
  few : xs.length ≤ acc.length
theorem Rows.ext {S : Sx} {g g' : G} {acc : List D} {xs : List Ent} (E : Ext g g') (R : Rows S g acc xs) : Rows S g' acc xs :=
  ⟨fun p m => let ⟨d, h1, h2, h3⟩ := R.from_ p m; ⟨d, h1, h2, VD.mono E _ _ h3⟩, R.all_, R.few⟩
theorem Rows.put {S : Sx} {g : G} {acc : List D} {xs : List Ent} {d : D} {b : Addr} {r : Value} (R : Rows S g acc xs) (v : VD S g d (.ref b)) : Rows S g (acc ++ [d]) (storedH xs (toNK d) b r) := by
  obtain ⟨s1, s2, s3, s4⟩ := stored_rows (xs := xs) (k := toNK d) (b := b) (r := r)
  refine ⟨fun p m => ?_, fun y m => ?_, by rw [List.length_append]; have := R.few; simp; omega⟩
  · rcases s1 p m with z | z
    · obtain ⟨y, h1, h2, h3⟩ := R.from_ p z
      exact ⟨y, List.mem_append_left _ h1, h2, h3⟩
    · subst z
      exact ⟨d, by simp, rfl, v⟩
  · rcases List.mem_append.mp m with z | z
    · exact s2 _ (R.all_ y z)
    · rw [List.mem_singleton] at z
      subst z
      exact s3
theorem canSet_parts {ds : List D} (can : Ev.canSet ds = true) : D.pures ds = true ∧ D.keyBs ds = true ∧ D.deps ds ≤ 8 ∧ ds.length < 64 ∧ (∀ x ∈ ds, ∀ y ∈ ds, x.alike y = true) ∧ ∀ x ∈ ds, x.isTup = true := by
  unfold Ev.canSet at can
  simp only [Bool.and_eq_true, decide_eq_true_eq] at can
  obtain ⟨⟨⟨⟨⟨p1, p2⟩, p3⟩, p4⟩, p5⟩, p6⟩ := can
  exact ⟨p1, p2, p3, p4, fun x m y m' => List.all_eq_true.mp (List.all_eq_true.mp p5 x m) y m', List.all_eq_true.mp p6⟩
theorem keyBs_mem : ∀ {ds : List D}, D.keyBs ds = true → ∀ d ∈ ds, d.keyB = true
  | [], _, d, m => by cases m
  | x :: xs, q, d, m => by
    rw [D.keyBs, Bool.and_eq_true] at q
    rcases List.mem_cons.mp m with z | z
    · subst z; exact q.1
    · exact keyBs_mem q.2 d z
theorem key_of_vd {S : Sx} {g : G} {h : Mem} {H : L2.Hp} {K : PySem.W.Frag} (hK : K = S.K) (R : Rel S g h H) {d : D} {b : Addr} (kb : d.keyB = true) (dp : d.dep ≤ 8) (v : VD S g d (.ref b)) : KeyAt K H (toNK d) b :=
  ⟨Nat.le_trans (nk_depth d) dp, fun X pins σ s e I => key_is I (e.trans hK) R.fz d _ _ kb v rfl⟩
section
variable {T : Tx} {k : Nat} {X : Cx} {W : WX} {sc : Sc} {C : Ev.Cx} {pos : Pos}
set_option maxHeartbeats 1600000 in
theorem nd_sortdict (cx : Cxt T k X W sc) {np pd pv : Pos} {j : Nat} {scope : Scope} {t : Tg} {s : Src} {ct : CT} {e : CE} {x tg it : Expr} {ifs : List Expr} (hl : glB sc "sorted" = true) (hb : blkC sc.N (scScope sc) scope (tgOwn t tg) = true) (hw : (tgOwn t tg).map (·.2) = tslots t)
    (ht : ckTg (blkSc sc scope) t tg = true) (hns : isSet it = false) (hi : PI X tg it (tS T.S W (evSrc C s)))
    (he : ∀ X', Cxt T k X' W0 (blkSc sc scope) → PE X' x (tE T.S W0 (evE C e)))
    (hc : ∀ X', Cxt T k X' W0 (blkSc sc scope) → PTs X' ifs (So.tB T.S W0 (evT C ct))) :
    PE X (.Call (.Name "sorted" np) [.DictComp x (.Constant (.bool true) j pv) [⟨tg, it, ifs, 0⟩] scope pd] [] pos) (tF T.S W (evF C (.sortdict e t s ct))) := by
  have ok := blk_of cx hb
  have fold : ∀ v, foldedSetIterable it X.env v = pure v := fun v => by cases it <;> first | rfl | (simp [isSet] at hns)
  have nd : X.N.Nodup := by rw [cx.N]; exact cx.nd
  obtain ⟨g1, _⟩ := cx.gl_of hl
  have hu := cx.units
  have mn : ∀ x ∈ used, X.mg x = none := fun x hx => by rw [cx.mg]; exact cx.ok.blt x hx
  have hg : ∀ (s : Shared) (H : L2.Hp) (c : Addr) (cl : List (Str × Addr)) (fp : List Addr), PG (X.blk s H scope (compEnvC scope cl c X.env) fp) tg (tG T.S t) := fun s H c cl fp => sTg (cx.blk ok s H c cl fp) t tg ht
  have pd' := pe_dcN (kx := x) (vx := .Constant (.bool true) j pv) (pos := pd) (tv := tC (.bl true)) cx.calm nd (by omega) hi ok hg (fun s H c cl fp => hc _ (cx.blk ok s H c cl fp)) (fun s H c cl fp => he _ (cx.blk ok s H c cl fp)) (fun s H c cl fp => pe_bl) fold
  refine ⟨fun pins s0 σ H Q I hq => ?_⟩
  have rd : tDcN X.prog X.w X.K (tS T.S W (evSrc C s)) (tG T.S t) (So.tB T.S W0 (evT C ct)) (tE T.S W0 (evE C e)) (tC (.bl true)) ((tgOwn t tg).map fun p => p.2) σ H fun y H1 => ∃ (g : G) (h : Mem) (Dp : Addr) (xs : List Ent) (rs : List D), Rel T.S g h H1 ∧ y = V.ref Dp ∧ H1 Dp = some (dictO X.prog X.w Dp xs) ∧ Rows T.S g rs xs ∧ Ev.canSet rs = true ∧
      ∀ p us, H1 p = none → VDs T.S g (Ev.sortD (Ev.dedup [] rs)) us → Q (.ref p) (upd H1 p (.lst us)) := by
    obtain ⟨g, f, h, R, Fr, out⟩ := hq
    rw [Ev.evF] at out
    refine ⟨g, f, h, R, Fr, ?_⟩
    cases qa : evSrc C s f h with
    | exc c1 x1 h1 => rw [qa] at out; exact out
    | stuck => rw [qa] at out; exact out
    | ok ds h1 =>
      rw [qa] at out
      dsimp only at out
      intro J g1 H1 s1 R1 wk Dp hD
      cases ql : Ev.lcL (evE C e) (evT C ct) t f ds [] h1 with
      | exc c1 x1 h2 => rw [ql] at out; exact False.elim out
      | stuck => rw [ql] at out; exact False.elim out
      | ok rs hf =>
        rw [ql] at out
        dsimp only at out
        split at out
        case isFalse => exact False.elim out
        rename_i can
        obtain ⟨rs', er, out⟩ := out
        cases er
        obtain ⟨p1, p2, p3, p4, p5, p6⟩ := canSet_parts can
        have hD0 := s1.back hD
        refine ⟨fun i m H => m = ds.length - i ∧ i ≤ ds.length ∧ ∃ g' h' acc xs, Rel T.S g' h' H ∧ Step g h _ g' h' H ∧ Ext g1 g' ∧ H Dp = some (dictO X.prog X.w Dp xs) ∧ g'.F Dp = none ∧ (∀ n, g'.μ[n]? = some Dp → ¬ live h' n) ∧ Rows T.S g' acc xs ∧
          Ev.lcL (evE C e) (evT C ct) t f (ds.drop i) acc h' = .ok rs hf, ⟨ds.length, by simp, Nat.zero_le _, g1, h1, [], [], R1.new hD, s1.trans R R1 (Step.new R1 hD), Ext.refl, upd_same, R1.free hD, fun n e => R1.notBox hD e, ⟨(fun p m => by cases m), (fun d m => by cases m), Nat.le_refl _⟩, by simpa using ql⟩, ?_⟩
        rintro i m H2 ⟨rfl, hi, g2, h2, acc, xs, R2, s2, E2, hH, hF, nb, V2, q2⟩
        obtain ⟨w1, w2⟩ := wk g2 h2 H2 E2 R2 i
        by_cases hlt : i < ds.length
        · have hd : ds[i]? = some ds[i] := by simp [hlt]
          obtain ⟨go, yl⟩ := w1 _ hd
          refine .inr ⟨go, _, fun H' n => ⟨ds.length - (i + 1), by omega, n⟩, fun v H3 y => ?_⟩
          obtain ⟨g3, R3, s3, V3⟩ := yl v H3 y
          rw [List.drop_eq_getElem_cons hlt, Ev.lcL] at q2
          cases qt : Ev.asgT t ds[i] f with
          | none => rw [qt] at q2; cases q2
          | some f' =>
            rw [qt] at q2
            dsimp only at q2
            refine ⟨g3, h2, ds[i], R3, V3, asgT_ok t _ _ _ qt, fun σ2 st => ⟨?_, ?_⟩⟩
            · rw [set_wipe t _ _ _ _ st fun j hj => by rw [hw]; exact hj]
              exact wipe_wipe
            · have fr0 : FrRp T.S (fun j => j ∉ tslots t) g3 f (wipe σ ((tgOwn t tg).map (·.2))) := by
                refine ⟨by rw [wipe_length]; exact Fr.1, fun j d' hj e => ?_⟩
                rw [hw]
                obtain ⟨v', e1, e2⟩ := Fr.2 j d' e
                exact ⟨v', by rw [wipe_rd hj]; exact e1, VD.mono (s2.ext.trans s3.ext) _ _ e2⟩
              have fr1 := set_fr t _ _ _ _ _ _ qt st fr0
              have fr2 : FrR T.S g3 f' σ2 := ⟨fr1.1, fun j d' e => fr1.2 j d' (by by_cases z : j ∈ tslots t; exact .inr z; exact .inl z) e⟩
              have keepD : ∀ {g4 : G} {h4 : Mem} {H4 : L2.Hp}, Step g3 h2 H3 g4 h4 H4 → H4 Dp = some (dictO X.prog X.w Dp xs) := fun {g4 h4 H4} st4 => by
                have a1 := s3.keep Dp _ hH nb
                exact st4.keep Dp _ a1 fun n e => s3.notBox R2 hH nb n e
              have extra : ∀ {g4 : G} {h4 : Mem} {H4 : L2.Hp}, Step g3 h2 H3 g4 h4 H4 → Rel T.S g4 h4 H4 → Step g2 h2 H2 g4 h4 H4 := fun st4 r4 => s3.trans R2 R3 st4
              refine ⟨g3, f', h2, R3, fr2, ?_⟩
              cases qc : evT C ct f' h2 with
              | exc c1 x1 h3 => rw [qc] at q2; cases q2
              | stuck => rw [qc] at q2; cases q2
              | ok bb h3 =>
                rw [qc] at q2
                intro g4 H4 s4 R4
                have s24 := extra s4 R4
                cases bb with
                | false =>
                  rw [if_neg (by decide)]
                  dsimp only at q2
                  exact ⟨rfl, hlt, g4, h3, acc, xs, R4, s2.trans R R2 s24, E2.trans s24.ext, keepD s4, s24.frz _ _ hH nb hF, s24.notBox R2 hH nb, V2.ext s24.ext, q2⟩
                | true =>
                  rw [if_pos rfl]
                  dsimp only at q2
                  refine tE_bind R4 (fr2.mono s4.ext) ?_
                  cases qe : evE C e f' h3 with
                  | exc c1 x1 h4 => rw [qe] at q2; cases q2
                  | stuck => rw [qe] at q2; cases q2
                  | ok d h4 =>
                    rw [qe] at q2
                    intro u g5 H5 s5 R5 V5 _
                    have s25 := s24.trans R2 R4 s5
                    dsimp only at q2
                    split at q2
                    · obtain ⟨more, em⟩ := lcL_more _ _ _ q2
                      have inr : ∀ y ∈ acc ++ [d], y ∈ rs := fun y m => by rw [em]; exact List.mem_append_left _ m
                      have md := inr d (by simp)
                      have hH5 : H5 Dp = some (dictO X.prog X.w Dp xs) := keepD (s4.trans R3 R4 s5)
                      have hF5 := s25.frz _ _ hH nb hF
                      have nb5 := s25.notBox R2 hH nb
                      have V5' := V2.ext s25.ext
                      obtain ⟨b, rfl⟩ : ∃ b, u = V.ref b := by
                        have td := p6 d md
                        cases d with
                        | tup ys => obtain ⟨b, vs, e1, _, _⟩ := V5; exact ⟨b, e1⟩
                        | _ => simp [D.isTup] at td
                      have key : ∀ y ∈ acc ++ [d], ∀ b, VD T.S g5 y (.ref b) → KeyAt X.K H5 (toNK y) b := fun y m b v => key_of_vd cx.K R5 (keyBs_mem p2 y (inr y m)) (Nat.le_trans (deps_mem _ (inr y m)) p3) v
                      have lacc : acc.length < 64 := by
                        have := congrArg List.length em
                        rw [List.length_append, List.length_append] at this
                        omega
                      refine ⟨rfl, xs, toNK d, b, rfl, hH5, key d (by simp) b V5, fun z m => ?_, by have := V5'.few; rw [sizeLine_eq]; omega, rfl, hlt, g5, h4, acc ++ [d], storedH xs (toNK d) b (.bool true), R5.other hF5 nb5, (s2.trans R R2 s25).other hD0, E2.trans s25.ext, upd_same, hF5, nb5, V5'.put V5, q2⟩
                      obtain ⟨y, m1, e1, v1⟩ := V5'.from_ (z.1, z.2.1) (List.mem_map.mpr ⟨z, m, rfl⟩)
                      have := key y (List.mem_append_left _ m1) _ v1
                      rw [e1] at this
                      exact this
                    · cases q2
        · have e : i = ds.length := by omega
          subst e
          refine .inl ⟨w2 (Nat.le_refl _), ?_⟩
          rw [List.drop_length, Ev.lcL] at q2
          cases q2
          exact ⟨g2, hf, Dp, xs, rs, R2, rfl, hH, V2, can, fun p us hp w => outF_new R R2 s2 hp w out⟩
  refine Call_ (ld_blt I g1 (mn "sorted" (by decide)) (by decide +kernel : bootBuiltins "sorted" = some (.builtin "sorted")) ?_)
  refine callWith_builtin1 (args_cons ?_ rfl) rfl rfl
  refine thn (pd'.run pins s0 σ H _ I rd) fun u s1 ⟨y, H1, I1, ru, g, h, Da, xs, rs, R, ey, hD, rows, can, fin⟩ => args_nil ?_
  subst ey
  obtain rfl : u = Value.ref Da := ru
  obtain ⟨p1, p2, p3, p4, alk, p6⟩ := canSet_parts can
  have pm := pures_mem p1
  have kb := keyBs_mem p2
  have fr := fun p (m : p ∈ rws xs) => rowD_is (rows.from_ p m)
  generalize hf : rowD T.S g rs = f at fr
  have few : xs.length < 64 := Nat.lt_of_le_of_lt rows.few p4
  have one := (dictO_at I1.hok hD).2
  have one : ((rws xs).map Prod.fst).Nodup := by
    obtain ⟨_, _, _, _, _, _, _, n1⟩ := one
    rw [rws, List.map_map]
    exact n1
  refine call_sortedDN (s := s1) (dictO_at I1.hok hD) few (I1.ok.hd cx.calm) f (fun p m => ?_) (fun p m q m' => alike_p _ _ (pm _ (fr p m).1) (pm _ (fr q m').1) (alk _ (fr p m).1 _ (fr q m').1)) (fun p m => ?_) (fun p m => ?_) fun h' tk s' out k1 k2 gg oo gc lo eo => ?_
  · exact Dp.reads I1 (toP (f p)) (.ref p.2) _ (by rw [cx.K]; exact VD.dp R.fz _ _ (pm _ (fr p m).1) (fr p m).2.2) rfl
  · have := p6 _ (fr p m).1
    cases q : f p with
    | tup ys =>
      rw [q] at this
      cases ys with
      | nil => simp [D.isTup] at this
      | cons b ys => exact ⟨toP b, toPs ys, by simp [toP, toPs]⟩
    | _ => rw [q] at this; simp [D.isTup] at this
  · have h1 := dep_p (f p) (pm _ (fr p m).1)
    have h2 := deps_mem _ (fr p m).1
    omega
  obtain ⟨e2, gc⟩ := gc
  have srt : ((rws xs).map f).mergeSort (dataLe false toP) = Ev.sortD (Ev.dedup [] rs) := by
    have e1 : ((rws xs).map f).mergeSort (dataLe false toP) = Ev.sortD ((rws xs).map f) := by
      unfold Ev.sortD
      have : ∀ x ∈ (rws xs).map f, ∀ y ∈ (rws xs).map f, dataLe false toP x y = !(y.lt x) := fun x hx y hy => by
        obtain ⟨x', m1, rfl⟩ := List.mem_map.mp hx
        obtain ⟨y', m2, rfl⟩ := List.mem_map.mp hy
        rw [lt_p (pm _ (fr y' m2).1) (pm _ (fr x' m1).1)]
        rfl
      exact sort_congr this
    rw [e1]
    obtain ⟨n1, n2⟩ := dedup_is rs [] (by simpa using pm) (by simpa using alk) List.nodup_nil
    refine sortD_perm (fun x mx y my => ?_) ((List.perm_ext_iff_of_nodup ?_ n1).mpr fun z => ?_)
    · obtain ⟨x', m1, rfl⟩ := List.mem_map.mp mx
      obtain ⟨y', m2, rfl⟩ := List.mem_map.mp my
      exact alk _ (fr x' m1).1 _ (fr y' m2).1
    · have : (((rws xs).map f).map toNK).Nodup := by
        rw [List.map_map]
        have e2 : (rws xs).map (toNK ∘ f) = (rws xs).map Prod.fst := List.map_congr_left fun p m => (fr p m).2.1
        rw [e2]
        exact one
      exact List.Pairwise.of_map toNK (fun _ _ ne e => ne (by rw [e])) this
    · rw [n2 z, List.nil_append]
      constructor
      · intro m
        obtain ⟨p, m1, rfl⟩ := List.mem_map.mp m
        exact (fr p m1).1
      · intro m
        obtain ⟨p, m3, e3⟩ := List.mem_map.mp (rows.all_ z m)
        have fp := fr p m3
        have : f p = z := nk_inj _ _ (kb _ fp.1) (alk _ fp.1 _ m) (by rw [fp.2.1, e3])
        exact List.mem_map.mpr ⟨p, m3, this⟩
  rw [srt] at eo
  obtain ⟨us, w2, r2⟩ := vd_each (S := T.S) (g := g) (eo.mono fun u d ⟨p, m, e1, e2⟩ => ⟨.ref p.2, by rw [e1]; rfl, by rw [e2]; exact (fr p m).2.2⟩)
  have J0 : Inv X pins σ H1 { s1 with heap := h', toks := tk } := I1.kept k1
  have hn : H1 h'.objs.size = none := J0.hok.fresh (Nat.le_refl _)
  have lus : us.length ≤ sizeLine := by
    have l1 := Vals.length r2
    rw [l1, lo, sizeLine_eq]
    omega
  have J : Inv X pins σ (upd H1 h'.objs.size (.lst us)) { ({ s1 with heap := h', toks := tk } : Shared) with heap := s'.heap, gens := s'.gens, drawn := s'.drawn, toks := s'.toks } :=
    J0.call (ch := []) (Un.laid k2 (Nat.le_refl _) hn) (J0.hok.laid k2 (Nat.le_refl _) ⟨lus, out, e2, r2, gc⟩) (by rw [gg]; exact J0.bare) (fun _ z => nomatch z)
  have es' : s' = { s1 with heap := s'.heap, gens := s'.gens, drawn := s'.drawn, toks := s'.toks } := by
    cases s'
    cases s1
    cases oo
    rfl
  rw [es']
  exact ⟨.ref h'.objs.size, _, J, rfl, fin _ us hn w2⟩
end
end So
end
section
set_option Elab.async false
set_option autoImplicit false
set_option linter.all false
/-! S12: what the checks say, and all expressions at once. -/
namespace So
open PySem PySem.Spec PyProof.Rows L2
open Ev (D Ob Mem R RS RL RB Bop Cop Bi Mt CE CEs CT CTs FE Src CO Tg Tgs evE evL evT evF evO evAnd evOr evTA evTO evSrc)

section
variable {sc : Sc} {tp : Bool} {e : Expr} {a b c : CE} {es : CEs}
theorem iv_c {d : D} (h : ckE sc (.c d) e = true) : ∃ cn j p, e = .Constant cn j p ∧ ckC d cn = true := by
  unfold ckE at h
  split at h <;> first | contradiction | (rename_i heq; cases heq; exact ⟨_, _, _, rfl, h⟩)
theorem iv_v {i : Nat} (h : ckE sc (.v i) e = true) : ∃ n p, e = .Name n p ∧ varB sc i n = true := by
  unfold ckE at h
  split at h <;> first | contradiction | (rename_i heq; cases heq; exact ⟨_, _, rfl, h⟩)
theorem iv_g {i : Nat} (h : ckE sc (.g i) e = true) : ∃ n p, e = .Name n p ∧ sc.gl[i]? = some n ∧ glB sc n = true := by
  unfold ckE at h
  split at h <;> first | contradiction | (rename_i heq; cases heq; simp only [Bool.and_eq_true, decide_eq_true_eq] at h; exact ⟨_, _, rfl, h.1, h.2⟩)
theorem iv_f {i : Nat} (h : ckE sc (.f i) e = true) : ∃ n p, e = .Name n p ∧ sc.fs[i]? = some n ∧ glB sc n = true := by
  unfold ckE at h
  split at h <;> first | contradiction | (rename_i heq; cases heq; simp only [Bool.and_eq_true, decide_eq_true_eq] at h; exact ⟨_, _, rfl, h.1, h.2⟩)
theorem iv_bin {o : Bop} (h : ckE sc (.bin o a b) e = true) : ∃ x y p, e = .BinOp x (bo o) y p ∧ ckE sc a x = true ∧ ckE sc b y = true := by
  unfold ckE at h
  split at h <;> first | contradiction | (rename_i heq; cases heq; simp only [Bool.and_eq_true, decide_eq_true_eq] at h; obtain ⟨⟨h1, h2⟩, h3⟩ := h; subst h1; exact ⟨_, _, _, rfl, h2, h3⟩)
theorem iv_neg (h : ckE sc (.neg a) e = true) : ∃ x p, e = .UnaryOp .USub x p ∧ ckE sc a x = true := by
  unfold ckE at h
  split at h <;> first | contradiction | (rename_i heq; cases heq; exact ⟨_, _, rfl, h⟩)
theorem iv_cmp {o : Cop} (h : ckE sc (.cmp o a b) e = true) : ∃ x y p, e = .Compare x [co o] [y] p ∧ isSet y = false ∧ ckE sc a x = true ∧ ckE sc b y = true := by
  unfold ckE at h
  split at h <;> first | contradiction | (rename_i heq; cases heq; simp only [Bool.and_eq_true, decide_eq_true_eq, Bool.not_eq_true'] at h; obtain ⟨⟨⟨h1, h2⟩, h3⟩, h4⟩ := h; subst h1; exact ⟨_, _, _, rfl, h2, h3, h4⟩)
theorem iv_chn {o p : Cop} (h : ckE sc (.chn o p a b c) e = true) : ∃ x y z q, e = .Compare x [co o, co p] [y, z] q ∧ isSet y = false ∧ isSet z = false ∧ ckE sc a x = true ∧ ckE sc b y = true ∧ ckE sc c z = true := by
  unfold ckE at h
  split at h <;> first | contradiction | (rename_i heq; cases heq; simp only [Bool.and_eq_true, decide_eq_true_eq, Bool.not_eq_true'] at h; obtain ⟨⟨⟨⟨⟨⟨h1, h2⟩, h3⟩, h4⟩, h5⟩, h6⟩, h7⟩ := h; subst h1; subst h2; exact ⟨_, _, _, _, rfl, h3, h4, h5, h6, h7⟩)
theorem iv_and (h : ckE sc (.and es) e = true) : ∃ vs p, e = .BoolOp .And vs p ∧ ckB sc es vs = true := by
  unfold ckE at h
  split at h <;> first | contradiction | (rename_i heq; cases heq; exact ⟨_, _, rfl, h⟩)
theorem iv_or (h : ckE sc (.or es) e = true) : ∃ vs p, e = .BoolOp .Or vs p ∧ ckB sc es vs = true := by
  unfold ckE at h
  split at h <;> first | contradiction | (rename_i heq; cases heq; exact ⟨_, _, rfl, h⟩)
theorem iv_not (h : ckE sc (.not a) e = true) : ∃ x p, e = .UnaryOp .Not x p ∧ ckE sc a x = true := by
  unfold ckE at h
  split at h <;> first | contradiction | (rename_i heq; cases heq; exact ⟨_, _, rfl, h⟩)
theorem iv_ite {t : CT} (h : ckE sc (.ite t a b) e = true) : ∃ x y z p, e = .IfExp x y z p ∧ ckT sc t x = true ∧ ckE sc a y = true ∧ ckE sc b z = true := by
  unfold ckE at h
  split at h <;> first | contradiction | (rename_i heq; cases heq; simp only [Bool.and_eq_true] at h; exact ⟨_, _, _, _, rfl, h.1.1, h.1.2, h.2⟩)
theorem iv_tup (h : ckE sc (.tup es) e = true) : ∃ vs j p, e = .Tuple vs j p ∧ ckL sc es vs = true := by
  unfold ckE at h
  split at h <;> first | contradiction | (rename_i heq; cases heq; exact ⟨_, _, _, rfl, h⟩)
theorem iv_fr {f : FE} (h : ckE sc (.fr f) e = true) : ckF sc f e = true := by
  unfold ckE at h
  exact h
theorem iv_nw {f : FE} (h : ckE sc (.nw f) e = true) : ckF sc f e = true := by
  unfold ckE at h
  exact h
theorem iv_frz (h : ckE sc (.frz a) e = true) : ckE sc a e = true := by
  unfold ckE at h
  exact h
theorem iv_ix (h : ckE sc (.ix a b) e = true) : ∃ x y p, e = .Subscript x y p ∧ isSlice y = false ∧ ckE sc a x = true ∧ ckE sc b y = true := by
  unfold ckE at h
  split at h <;> first | contradiction | (rename_i heq; cases heq; simp only [Bool.and_eq_true, Bool.not_eq_true'] at h; exact ⟨_, _, _, rfl, h.1.1, h.1.2, h.2⟩)
theorem iv_sl {lo hi : CO} (h : ckE sc (.sl a lo hi) e = true) : ∃ x l u p q, e = .Subscript x (.Slice l u none p) q ∧ ckE sc a x = true ∧ ckO sc lo l = true ∧ ckO sc hi u = true := by
  unfold ckE at h
  split at h <;> first | contradiction | (rename_i heq; cases heq; simp only [Bool.and_eq_true] at h; exact ⟨_, _, _, _, _, rfl, h.1.1, h.1.2, h.2⟩)
theorem iv_call {f : Nat} (h : ckE sc (.call f es) e = true) : ∃ n np vs p, e = .Call (.Name n np) vs [] p ∧ sc.fs[f]? = some n ∧ glB sc n = true ∧ noStar vs = true ∧ ckL sc es vs = true := by
  unfold ckE at h
  split at h <;> first | contradiction | (rename_i heq; cases heq; simp only [Bool.and_eq_true, decide_eq_true_eq] at h; exact ⟨_, _, _, _, rfl, h.1.1.1, h.1.1.2, h.1.2, h.2⟩)
theorem iv_callv {g : CE} (h : ckE sc (.callv g es) e = true) : ∃ x vs p, e = .Call x vs [] p ∧ isSub x = true ∧ noStar vs = true ∧ vs.isEmpty = false ∧ ckE sc g x = true ∧ ckL sc es vs = true := by
  unfold ckE at h
  split at h <;> first | contradiction | (rename_i heq; cases heq; simp only [Bool.and_eq_true, Bool.not_eq_true'] at h; exact ⟨_, _, _, rfl, h.1.1.1.1, h.1.1.1.2, h.1.1.2, h.1.2, h.2⟩)
theorem iv_bi {m : Bi} (h : ckE sc (.bi m es) e = true) : (∃ n np vs p, e = .Call (.Name n np) vs [] p ∧ biN m = n ∧ glB sc n = true ∧ (n == ("" : Str)) = false ∧ noStar vs = true ∧ vs.isEmpty = false ∧ ckL sc es vs = true) ∨
    (m = .lenset ∧ ∃ a, es = .cons a .nil ∧ ∃ np mp v q p, e = .Call (.Name "len" np) [.Call (.Name "set" mp) [v] [] q] [] p ∧ glB sc "len" = true ∧ glB sc "set" = true ∧ noStar [v] = true ∧ ckE sc a v = true) := by
  unfold ckE at h
  split at h <;> first
    | contradiction
    | (rename_i heq; cases heq; simp only [Bool.and_eq_true, decide_eq_true_eq] at h; obtain ⟨⟨⟨⟨⟨h1, h2⟩, h3⟩, h4⟩, h5⟩, h6⟩ := h; subst h1; subst h3; exact .inr ⟨rfl, _, rfl, _, _, _, _, _, rfl, h2, h4, h5, h6⟩)
    | (rename_i heq; cases heq; simp only [Bool.and_eq_true, decide_eq_true_eq, Bool.not_eq_true'] at h; obtain ⟨⟨⟨⟨⟨h1, h2⟩, h3⟩, h4⟩, h5⟩, h6⟩ := h; exact .inl ⟨_, _, _, _, rfl, h1, h2, h3, h4, h5, h6⟩)
theorem iv_mt {m : Mt} {o : CE} (h : ckE sc (.mt m o es) e = true) : ∃ x n ap vs p, e = .Call (.Attribute x n ap) vs [] p ∧ mtN m = n ∧ (n == ("" : Str)) = false ∧ plainO x = true ∧ noStar vs = true ∧ (ap.endLine == p.line) = true ∧ vs.length ≤ 1 ∧ mtArgs m vs = true ∧ ckE sc o x = true ∧ ckL sc es vs = true := by
  unfold ckE at h
  split at h <;> first | contradiction | (rename_i heq; cases heq; simp only [Bool.and_eq_true, decide_eq_true_eq, Bool.not_eq_true'] at h; obtain ⟨⟨⟨⟨⟨⟨⟨⟨h1, h2⟩, h3⟩, h4⟩, h5⟩, h6⟩, h9⟩, h7⟩, h8⟩ := h; exact ⟨_, _, _, _, _, rfl, h1, h2, h3, h4, h5, h6, h9, h7, h8⟩)
theorem iv_lst (h : ckF sc (.lst es) e = true) : ∃ vs p, e = .List vs p ∧ ckL sc es vs = true := by
  unfold ckF at h
  split at h <;> first | contradiction | (rename_i heq; cases heq; exact ⟨_, _, rfl, h⟩)
theorem iv_lc {t : Tg} {s : Src} {ct : CT} (h : ckF sc (.lc a t s ct) e = true) : ∃ x tg it ifs scope p, e = .ListComp x [⟨tg, it, ifs, 0⟩] scope p ∧ blkC sc.N (scScope sc) scope (tgOwn t tg) = true ∧ (tgOwn t tg).map (·.2) = tslots t ∧
    ckTg (blkSc sc scope) t tg = true ∧ ckSrc sc (isT tg) s it = true ∧ ckE (blkSc sc scope) a x = true ∧ ((ifs = [] ∧ ct = .yes) ∨ ∃ i, ifs = [i] ∧ ckT (blkSc sc scope) ct i = true) := by
  unfold ckF at h
  split at h <;> first | contradiction | skip
  rename_i heq
  cases heq
  simp only [Bool.and_eq_true, decide_eq_true_eq] at h
  obtain ⟨⟨⟨⟨⟨⟨h1, h2⟩, h3⟩, h4⟩, h5⟩, h6⟩, h7⟩ := h
  subst h1
  refine ⟨_, _, _, _, _, _, rfl, h2, h3, h4, h5, h6, ?_⟩
  split at h7
  · split at h7
    · exact .inl ⟨rfl, rfl⟩
    · cases h7
  · exact .inr ⟨_, rfl, h7⟩
  · cases h7
theorem iv_sorted (h : ckF sc (.sorted a) e = true) : ∃ n np y p, e = .Call (.Name n np) [y] [] p ∧ n = "sorted" ∧ glB sc n = true ∧ noStar [y] = true ∧ ckE sc a y = true := by
  unfold ckF at h
  split at h <;> first | contradiction | (rename_i heq; cases heq; simp only [Bool.and_eq_true, decide_eq_true_eq] at h; exact ⟨_, _, _, _, rfl, h.1.1.1, h.1.1.2, h.1.2, h.2⟩)
theorem iv_list (h : ckF sc (.list_ a) e = true) : ∃ n np y p, e = .Call (.Name n np) [y] [] p ∧ n = "list" ∧ glB sc n = true ∧ noStar [y] = true ∧ ckE sc a y = true := by
  unfold ckF at h
  split at h <;> first | contradiction | (rename_i heq; cases heq; simp only [Bool.and_eq_true, decide_eq_true_eq] at h; exact ⟨_, _, _, _, rfl, h.1.1.1, h.1.1.2, h.1.2, h.2⟩)
theorem iv_rev (h : ckF sc (.rev a) e = true) : ∃ x j p1 p2 p3 p, e = .Subscript x (.Slice none none (some (.UnaryOp .USub (.Constant (.int 1) j p1) p2)) p3) p ∧ ckE sc a x = true := by
  unfold ckF at h
  split at h <;> first | contradiction | (rename_i heq; cases heq; exact ⟨_, _, _, _, _, _, rfl, h⟩)
theorem iv_rep (h : ckF sc (.rep a b) e = true) : ∃ x y p, e = .BinOp x .Mult y p ∧ ckE sc a x = true ∧ ckE sc b y = true := by
  unfold ckF at h
  split at h <;> first | contradiction | (rename_i heq; cases heq; simp only [Bool.and_eq_true] at h; exact ⟨_, _, _, rfl, h.1, h.2⟩)
theorem iv_sortset (h : ckF sc (.sortset a) e = true) : ∃ np mp v q p, e = .Call (.Name "sorted" np) [.Call (.Name "set" mp) [v] [] q] [] p ∧ glB sc "sorted" = true ∧ glB sc "set" = true ∧ noStar [v] = true ∧ ckE sc a v = true := by
  unfold ckF at h
  split at h <;> first | contradiction | (rename_i heq; cases heq; simp only [Bool.and_eq_true, decide_eq_true_eq] at h; obtain ⟨⟨⟨⟨⟨h1, h2⟩, h3⟩, h4⟩, h5⟩, h6⟩ := h; subst h1; subst h3; exact ⟨_, _, _, _, _, rfl, h2, h4, h5, h6⟩)
theorem iv_sortdict {t : Tg} {s : Src} {ct : CT} (h : ckF sc (.sortdict a t s ct) e = true) : ∃ np x j pv tg it ifs scope pd p, e = .Call (.Name "sorted" np) [.DictComp x (.Constant (.bool true) j pv) [⟨tg, it, ifs, 0⟩] scope pd] [] p ∧ glB sc "sorted" = true ∧ blkC sc.N (scScope sc) scope (tgOwn t tg) = true ∧ (tgOwn t tg).map (·.2) = tslots t ∧
    ckTg (blkSc sc scope) t tg = true ∧ ckSrc sc (isT tg) s it = true ∧ ckE (blkSc sc scope) a x = true ∧ ((ifs = [] ∧ ct = .yes) ∨ ∃ i, ifs = [i] ∧ ckT (blkSc sc scope) ct i = true) := by
  unfold ckF at h
  split at h <;> first | contradiction | skip
  rename_i heq
  cases heq
  simp only [Bool.and_eq_true, decide_eq_true_eq] at h
  obtain ⟨⟨⟨⟨⟨⟨⟨⟨h1, h2⟩, h3⟩, h4⟩, h5⟩, h6⟩, h7⟩, h8⟩, h9⟩ := h
  subst h1
  subst h3
  refine ⟨_, _, _, _, _, _, _, _, _, _, rfl, h2, h4, h5, h6, h7, h8, ?_⟩
  split at h9
  · split at h9
    · exact .inl ⟨rfl, rfl⟩
    · cases h9
  · exact .inr ⟨_, rfl, h9⟩
  · cases h9
theorem iv_it (h : ckSrc sc tp (.it a) e = true) : isSet e = false ∧ ckE sc a e = true := by
  unfold ckSrc at h
  simp only [Bool.and_eq_true, Bool.not_eq_true'] at h
  exact h
theorem iv_rng (h : ckSrc sc tp (.rng es) e = true) : ∃ n np vs p, e = .Call (.Name n np) vs [] p ∧ n = "range" ∧ glB sc n = true ∧ noStar vs = true ∧ vs.isEmpty = false ∧ vs.length ≤ 3 ∧ ckL sc es vs = true := by
  unfold ckSrc at h
  split at h <;> first | contradiction | (rename_i heq; cases heq; simp only [Bool.and_eq_true, decide_eq_true_eq, Bool.not_eq_true'] at h; obtain ⟨⟨⟨⟨⟨h1, h2⟩, h3⟩, h4⟩, h5⟩, h6⟩ := h; exact ⟨_, _, _, _, rfl, h1, h2, h3, h4, h5, h6⟩)
theorem iv_enum (h : ckSrc sc tp (.enum a) e = true) : False := by
  unfold ckSrc at h
  cases h
theorem iv_zip (h : ckSrc sc tp (.zip es) e = true) : tp = true ∧ ∃ np v w p, e = .Call (.Name "zip" np) [v, w] [] p ∧ glB sc "zip" = true ∧ noStar [v, w] = true ∧ ckL sc es [v, w] = true := by
  unfold ckSrc at h
  split at h <;> first | contradiction | (rename_i heq; cases heq; simp only [Bool.and_eq_true, decide_eq_true_eq] at h; obtain ⟨⟨⟨⟨h1, h2⟩, h3⟩, h4⟩, h5⟩ := h; subst h2; exact ⟨h1, _, _, _, _, rfl, h3, h4, h5⟩)
/-- as many values as arguments, where none is starred -/
theorem evL_len {C : Ev.Cx} : ∀ {es : CEs} {vs : List Expr} {f : Ev.Fr} {h : Mem} {ds : List D} {h1 : Mem}, ckL sc es vs = true → noStar vs = true → evL C es f h = .ok ds h1 → ds.length = vs.length
  | .nil, vs, f, h, ds, h1, k, n, q => by
    cases vs with
    | nil => rw [Ev.evL] at q; cases q; rfl
    | cons v r => simp [ckL] at k
  | .cons e es, vs, f, h, ds, h1, k, n, q => by
    cases vs with
    | nil => simp [ckL] at k
    | cons v r =>
      have k2 : ckL sc es r = true := by
        unfold ckL at k
        simp only [Bool.and_eq_true] at k
        exact k.2
      rw [Ev.evL] at q
      cases qa : evE C e f h with
      | ok d h2 =>
        rw [qa] at q
        dsimp only at q
        cases qb : evL C es f h2 with
        | ok ds2 h3 =>
          rw [qb] at q
          cases q
          have := evL_len (es := es) k2 (noStar_head n).2 qb
          simp [this]
        | exc _ _ _ => rw [qb] at q; cases q
        | stuck => rw [qb] at q; cases q
      | exc _ _ _ => rw [qa] at q; cases q
      | stuck => rw [qa] at q; cases q
  | .star e es, vs, f, h, ds, h1, k, n, q => by
    unfold ckL at k
    split at k <;> first | contradiction | (simp [noStar] at n)
theorem ckL_nil {vs : List Expr} (h : ckL sc es vs = true) (e : vs = []) : es = .nil := by
  subst e
  cases es <;> first | rfl | (simp [ckL] at h)
end
end So
end
section
set_option Elab.async false
set_option autoImplicit false
set_option linter.all false
/-! S13: all expressions at once. -/
namespace So
open PySem PySem.Spec PyProof.Rows L2
open Ev (D Ob Mem R RS RL RB Bop Cop Bi Mt CE CEs CT CTs FE Src CO Tg Tgs evE evL evT evF evO evAnd evOr evTA evTO evSrc)

section
variable {sc : Sc} {e x : Expr} {a b c : CE} {es : CEs} {vs : List Expr}
theorem iv_L0 (h : ckL sc .nil vs = true) : vs = [] := by
  cases vs with
  | nil => rfl
  | cons v r => simp [ckL] at h
theorem iv_L1 (h : ckL sc (.cons a es) vs = true) : ∃ x r, vs = x :: r ∧ noStar [x] = true ∧ ckE sc a x = true ∧ ckL sc es r = true := by
  cases vs with
  | nil => simp [ckL] at h
  | cons v r =>
    unfold ckL at h
    simp only [Bool.and_eq_true] at h
    exact ⟨v, r, rfl, h.1.1, h.1.2, h.2⟩
theorem iv_L2 (h : ckL sc (.star a es) vs = true) : ∃ x p r, vs = .Starred x p :: r ∧ ckE sc a x = true ∧ ckL sc es r = true := by
  unfold ckL at h
  split at h <;> first | contradiction | (rename_i heq; cases heq; simp only [Bool.and_eq_true] at h; exact ⟨_, _, _, rfl, h.1, h.2⟩) | (simp only [Bool.and_eq_true] at h; exact ⟨_, _, _, rfl, h.1, h.2⟩)
theorem iv_B (h : ckB sc (.cons a es) vs = true) : (es = .nil ∧ ∃ x, vs = [x] ∧ ckE sc a x = true) ∨ (es ≠ .nil ∧ ∃ x y r, vs = x :: y :: r ∧ ckE sc a x = true ∧ ckB sc es (y :: r) = true) := by
  cases es with
  | nil =>
    match vs, h with
    | [], h => simp [ckB] at h
    | [x], h => exact .inl ⟨rfl, x, rfl, by simpa [ckB] using h⟩
    | x :: y :: r, h => simp [ckB] at h
  | cons e2 e3 =>
    match vs, h with
    | [], h => simp [ckB] at h
    | [x], h => simp [ckB] at h
    | x :: y :: r, h =>
      rw [ckB, Bool.and_eq_true] at h
      exact .inr ⟨(fun z => by cases z), x, y, r, rfl, h.1, h.2⟩
  | star e2 e3 =>
    match vs, h with
    | [], h => simp [ckB] at h
    | [x], h => simp [ckB] at h
    | x :: y :: r, h =>
      rw [ckB, Bool.and_eq_true] at h
      exact .inr ⟨(fun z => by cases z), x, y, r, rfl, h.1, h.2⟩
theorem iv_TB {t : CT} {ts : CTs} (h : ckTB sc (.cons t ts) vs = true) : (ts = .nil ∧ ∃ x, vs = [x] ∧ ckT sc t x = true) ∨ (ts ≠ .nil ∧ ∃ x y r, vs = x :: y :: r ∧ ckT sc t x = true ∧ ckTB sc ts (y :: r) = true) := by
  cases ts with
  | nil =>
    match vs, h with
    | [], h => simp [ckTB] at h
    | [x], h => exact .inl ⟨rfl, x, rfl, by simpa [ckTB] using h⟩
    | x :: y :: r, h => simp [ckTB] at h
  | cons e2 e3 =>
    match vs, h with
    | [], h => simp [ckTB] at h
    | [x], h => simp [ckTB] at h
    | x :: y :: r, h =>
      rw [ckTB, Bool.and_eq_true] at h
      exact .inr ⟨(fun z => by cases z), x, y, r, rfl, h.1, h.2⟩
theorem iv_Tand {ts : CTs} (h : ckT sc (.and ts) e = true) : ∃ vs p, e = .BoolOp .And vs p ∧ ckTB sc ts vs = true := by
  unfold ckT at h
  split at h <;> first | contradiction | (rename_i heq; cases heq; exact ⟨_, _, rfl, h⟩) | exact ⟨_, _, rfl, h⟩
theorem iv_Tor {ts : CTs} (h : ckT sc (.or ts) e = true) : ∃ vs p, e = .BoolOp .Or vs p ∧ ckTB sc ts vs = true := by
  unfold ckT at h
  split at h <;> first | contradiction | (rename_i heq; cases heq; exact ⟨_, _, rfl, h⟩) | exact ⟨_, _, rfl, h⟩
theorem iv_Tnot {t : CT} (h : ckT sc (.not t) e = true) : ∃ v p, e = .UnaryOp .Not v p ∧ ckT sc t v = true := by
  unfold ckT at h
  split at h <;> first | contradiction | (rename_i heq; cases heq; exact ⟨_, _, rfl, h⟩) | exact ⟨_, _, rfl, h⟩
theorem iv_Tyes (h : ckT sc .yes e = true) : False := by
  simp [ckT] at h
theorem iv_Te (h : ckT sc (.e a) x = true) : (∃ o a1 b1, a = .cmp o a1 b1 ∧ ∃ y z p, x = .Compare y [co o] [z] p ∧ isSet z = false ∧ ckE sc a1 y = true ∧ ckE sc b1 z = true) ∨
    (∃ o p a1 b1 c1, a = .chn o p a1 b1 c1 ∧ ∃ y z w q, x = .Compare y [co o, co p] [z, w] q ∧ isSet z = false ∧ isSet w = false ∧ ckE sc a1 y = true ∧ ckE sc b1 z = true ∧ ckE sc c1 w = true) ∨ (plainE x = true ∧ ckE sc a x = true) := by
  unfold ckT at h
  split at h
  · rename_i heq
    cases heq
    simp only [Bool.and_eq_true, decide_eq_true_eq, Bool.not_eq_true'] at h
    obtain ⟨⟨⟨h1, h2⟩, h3⟩, h4⟩ := h
    subst h1
    exact .inl ⟨_, _, _, rfl, _, _, _, rfl, h2, h3, h4⟩
  · rename_i heq
    cases heq
    simp only [Bool.and_eq_true, decide_eq_true_eq, Bool.not_eq_true'] at h
    obtain ⟨⟨⟨⟨⟨⟨h1, h2⟩, h3⟩, h4⟩, h5⟩, h6⟩, h7⟩ := h
    subst h1; subst h2
    exact .inr (.inl ⟨_, _, _, _, _, rfl, _, _, _, _, rfl, h3, h4, h5, h6, h7⟩)
  · rename_i heq _ _
    cases heq
    simp only [Bool.and_eq_true] at h
    exact .inr (.inr h)
  all_goals first | contradiction | (rename_i heq; cases heq)
theorem ckB_nil (h : ckB sc .nil vs = true) : False := by
  simp [ckB] at h
theorem ckB_star (h : ckB sc (.star a es) vs = true) : False := by
  simp [ckB] at h
theorem ckTB_nil (h : ckTB sc .nil vs = true) : False := by
  simp [ckTB] at h
end

section
variable {T : Tx} {k : Nat}
abbrev GE (T : Tx) (k : Nat) (e : CE) : Prop := ∀ {X : Cx} {W : WX} {sc : Sc} {x : Expr}, Cxt T k X W sc → ckE sc e x = true → PE X x (tE T.S W (evE (T.cx k) e))
theorem bi_nil {X : Cx} {W : WX} {sc : Sc} {vs : List Expr} (h : vs.isEmpty = false) : ∃ v r, vs = v :: r := by
  cases vs with
  | nil => cases h
  | cons v r => exact ⟨v, r, rfl⟩
mutual
theorem sE : ∀ (e : CE) {X : Cx} {W : WX} {sc : Sc} {x : Expr}, Cxt T k X W sc → ckE sc e x = true → PE X x (tE T.S W (evE (T.cx k) e))
  | .c d, X, W, sc, x, cx, h => by
    obtain ⟨cn, j, p, rfl, hc⟩ := iv_c h
    exact nd_c cx hc
  | .v i, X, W, sc, x, cx, h => by
    obtain ⟨n, p, rfl, hc⟩ := iv_v h
    exact nd_v cx hc
  | .g i, X, W, sc, x, cx, h => by
    obtain ⟨n, p, rfl, h1, h2⟩ := iv_g h
    exact nd_g cx h1 h2
  | .f i, X, W, sc, x, cx, h => by
    obtain ⟨n, p, rfl, h1, h2⟩ := iv_f h
    exact nd_f cx h1 h2
  | .bin o a b, X, W, sc, x, cx, h => by
    obtain ⟨y, z, p, rfl, h1, h2⟩ := iv_bin h
    exact nd_bin cx (sE a cx h1) (sE b cx h2)
  | .neg a, X, W, sc, x, cx, h => by
    obtain ⟨y, p, rfl, h1⟩ := iv_neg h
    exact nd_neg cx (sE a cx h1)
  | .cmp o a b, X, W, sc, x, cx, h => by
    obtain ⟨y, z, p, rfl, hs, h1, h2⟩ := iv_cmp h
    exact nd_cmp cx hs (sE a cx h1) (sE b cx h2)
  | .chn o p a b c, X, W, sc, x, cx, h => by
    obtain ⟨y, z, w, q, rfl, hs1, hs2, h1, h2, h3⟩ := iv_chn h
    exact nd_chn cx hs1 hs2 (sE a cx h1) (sE b cx h2) (sE c cx h3)
  | .and es, X, W, sc, x, cx, h => by
    obtain ⟨vs, p, rfl, h1⟩ := iv_and h
    exact PE.imp (sAnd es cx h1) fun σ H Q ⟨g, f, m, R, F0, o⟩ => ⟨g, f, m, R, F0, by rw [Ev.evE] at o; exact o⟩
  | .or es, X, W, sc, x, cx, h => by
    obtain ⟨vs, p, rfl, h1⟩ := iv_or h
    exact PE.imp (sOr es cx h1) fun σ H Q ⟨g, f, m, R, F0, o⟩ => ⟨g, f, m, R, F0, by rw [Ev.evE] at o; exact o⟩
  | .not a, X, W, sc, x, cx, h => by
    obtain ⟨y, p, rfl, h1⟩ := iv_not h
    exact nd_not cx (sE a cx h1)
  | .ite t a b, X, W, sc, x, cx, h => by
    obtain ⟨y, z, w, p, rfl, h1, h2, h3⟩ := iv_ite h
    exact nd_ite cx (sT t cx h1) (sE a cx h2) (sE b cx h3)
  | .tup es, X, W, sc, x, cx, h => by
    obtain ⟨vs, j, p, rfl, h1⟩ := iv_tup h
    exact nd_tup cx (sL es cx h1)
  | .fr e, X, W, sc, x, cx, h => nd_fr (sF e cx (iv_fr h))
  | .nw e, X, W, sc, x, cx, h => nd_nw (sF e cx (iv_nw h))
  | .ix a b, X, W, sc, x, cx, h => by
    obtain ⟨y, z, p, rfl, hs, h1, h2⟩ := iv_ix h
    exact nd_ix cx hs (sE a cx h1) (sE b cx h2)
  | .sl a lo hi, X, W, sc, x, cx, h => by
    obtain ⟨y, l, u, p, q, rfl, h1, h2, h3⟩ := iv_sl h
    exact nd_sl cx (sE a cx h1) (sO lo cx h2) (sO hi cx h3)
  | .call f es, X, W, sc, x, cx, h => by
    obtain ⟨n, np, vs, p, rfl, h1, h2, h3, h4⟩ := iv_call h
    exact nd_call cx h1 h2 h3 (ckL_nil h4) (sL es cx h4)
  | .callv g es, X, W, sc, x, cx, h => by
    obtain ⟨y, vs, p, rfl, h1, h2, h3, h4, h5⟩ := iv_callv h
    cases vs with
    | nil => cases h3
    | cons v r => exact nd_callv cx h1 h2 (sE g cx h4) (sL es cx h5) (by rw [cx.K]; exact cx.ok.kp)
  | .bi m es, X, W, sc, x, cx, h => by
    have ga := fun {vs : List Expr} (h : ckL sc es vs = true) => sL es cx h
    have gl : ∀ a, es = .cons a .nil → ∀ {v : Expr}, ckE sc a v = true → PE X v (tE T.S W (evE (T.cx k) a)) := by
      cases es with
      | nil => intro a e; cases e
      | star b es => intro a e; cases e
      | cons b es =>
        have gb := fun {v : Expr} (h : ckE sc b v = true) => sE b cx h
        intro a e
        cases e
        exact gb
    rcases iv_bi h with ⟨n, np, vs, p, rfl, h1, h2, h3, h4, h5, h6⟩ | ⟨rfl, a, rfl, np, mp, v, q, p, rfl, h1, h2, h3, h4⟩
    · cases vs with
      | nil => cases h5
      | cons v r => exact nd_bi cx h1 h2 h3 h4 (ga h6)
    · exact nd_lenset cx h1 h2 h3 (gl a rfl h4)
  | .mt m o es, X, W, sc, x, cx, h => by
    obtain ⟨y, n, ap, vs, p, rfl, h1, h2, h3, h4, h5, h6, h7, h8, h9⟩ := iv_mt h
    refine nd_mt cx h1 h2 h3 h4 h5 h6 (ckL_nil h9) (sE o cx h8) (sL es cx h9) (fun z => ?_) (fun z => ?_)
    · subst z
      simpa [mtArgs] using h7
    · subst z
      cases m <;> first | rfl | (simp [mtArgs] at h7)
  | .frz a, X, W, sc, x, cx, h => nd_frz cx (sE a cx (iv_frz h))
theorem sO : ∀ (o : CO) {X : Cx} {W : WX} {sc : Sc} {x : Option Expr}, Cxt T k X W sc → ckO sc o x = true → PO X x (tO T.S W (evO (T.cx k) o))
  | .no, X, W, sc, x, cx, h => by
    cases x with
    | none => exact nd_no
    | some x => simp [ckO] at h
  | .so a, X, W, sc, x, cx, h => by
    cases x with
    | none => simp [ckO] at h
    | some x =>
      rw [ckO] at h
      exact nd_so (sE a cx h)
theorem sAnd : ∀ (es : CEs) {X : Cx} {W : WX} {sc : Sc} {vs : List Expr} {p : Pos}, Cxt T k X W sc → ckB sc es vs = true → PE X (.BoolOp .And vs p) (tE T.S W (evAnd (T.cx k) es))
  | .nil, X, W, sc, vs, p, cx, h => (ckB_nil h).elim
  | .star a es, X, W, sc, vs, p, cx, h => (ckB_star h).elim
  | .cons a es, X, W, sc, vs, p, cx, h => by
    rcases iv_B h with ⟨rfl, x, rfl, h1⟩ | ⟨hn, x, y, r, rfl, h1, h2⟩
    · exact PE.imp (pe_one (sE a cx h1)) fun σ H Q ⟨g, f, m, R, F0, o⟩ => ⟨g, f, m, R, F0, by rw [Ev.evAnd] at o; exact o⟩
    · exact nd_and hn (sE a cx h1) (sAnd es cx h2)
theorem sOr : ∀ (es : CEs) {X : Cx} {W : WX} {sc : Sc} {vs : List Expr} {p : Pos}, Cxt T k X W sc → ckB sc es vs = true → PE X (.BoolOp .Or vs p) (tE T.S W (evOr (T.cx k) es))
  | .nil, X, W, sc, vs, p, cx, h => (ckB_nil h).elim
  | .star a es, X, W, sc, vs, p, cx, h => (ckB_star h).elim
  | .cons a es, X, W, sc, vs, p, cx, h => by
    rcases iv_B h with ⟨rfl, x, rfl, h1⟩ | ⟨hn, x, y, r, rfl, h1, h2⟩
    · exact PE.imp (pe_one (sE a cx h1)) fun σ H Q ⟨g, f, m, R, F0, o⟩ => ⟨g, f, m, R, F0, by rw [Ev.evOr] at o; exact o⟩
    · exact nd_or hn (sE a cx h1) (sOr es cx h2)
theorem sL : ∀ (es : CEs) {X : Cx} {W : WX} {sc : Sc} {vs : List Expr}, Cxt T k X W sc → ckL sc es vs = true → PA X vs (tL T.S W (evL (T.cx k) es))
  | .nil, X, W, sc, vs, cx, h => by
    have := iv_L0 h
    subst this
    exact nd_nil
  | .cons a es, X, W, sc, vs, cx, h => by
    obtain ⟨x, r, rfl, hs, h1, h2⟩ := iv_L1 h
    exact nd_cons hs (sE a cx h1) (sL es cx h2)
  | .star a es, X, W, sc, vs, cx, h => by
    obtain ⟨x, p, r, rfl, h1, h2⟩ := iv_L2 h
    exact nd_star cx (sE a cx h1) (sL es cx h2)
theorem sT : ∀ (t : CT) {X : Cx} {W : WX} {sc : Sc} {x : Expr}, Cxt T k X W sc → ckT sc t x = true → PT X x (So.tB T.S W (evT (T.cx k) t))
  | .e a, X, W, sc, x, cx, h => by
    have ge : ∀ {x : Expr}, ckE sc a x = true → PE X x (tE T.S W (evE (T.cx k) a)) := fun h => sE a cx h
    cases a
    case cmp o a1 b1 =>
      rcases iv_Te h with ⟨o, a2, b2, e, y, z, p, rfl, hs, h1, h2⟩ | ⟨_, _, _, _, _, e, _⟩ | ⟨h1, h2⟩
      · cases e
        exact nd_cmpT cx hs (sE a1 cx h1) (sE b1 cx h2)
      · cases e
      · exact nd_val h1 (ge h2)
    case chn o p a1 b1 c1 =>
      rcases iv_Te h with ⟨_, _, _, e, _⟩ | ⟨o, p, a2, b2, c2, e, y, z, w, q, rfl, hs1, hs2, h1, h2, h3⟩ | ⟨h1, h2⟩
      · cases e
      · cases e
        exact nd_chnT cx hs1 hs2 (sE a1 cx h1) (sE b1 cx h2) (sE c1 cx h3)
      · exact nd_val h1 (ge h2)
    all_goals
      rcases iv_Te h with ⟨_, _, _, e, _⟩ | ⟨_, _, _, _, _, e, _⟩ | ⟨h1, h2⟩
      · cases e
      · cases e
      · exact nd_val h1 (ge h2)
  | .and ts, X, W, sc, x, cx, h => by
    obtain ⟨vs, p, rfl, h1⟩ := iv_Tand h
    exact PT.imp (sTA ts cx h1).pt fun σ H Q ⟨g, f, m, R, F0, o⟩ => ⟨g, f, m, R, F0, by rw [Ev.evT] at o; exact o⟩
  | .or ts, X, W, sc, x, cx, h => by
    obtain ⟨vs, p, rfl, h1⟩ := iv_Tor h
    exact PT.imp (sTO ts cx h1).pt fun σ H Q ⟨g, f, m, R, F0, o⟩ => ⟨g, f, m, R, F0, by rw [Ev.evT] at o; exact o⟩
  | .not t, X, W, sc, x, cx, h => by
    obtain ⟨v, p, rfl, h1⟩ := iv_Tnot h
    exact nd_notT (sT t cx h1)
  | .yes, X, W, sc, x, cx, h => (iv_Tyes h).elim
theorem sTA : ∀ (ts : CTs) {X : Cx} {W : WX} {sc : Sc} {vs : List Expr} {p : Pos}, Cxt T k X W sc → ckTB sc ts vs = true → PW X (.BoolOp .And vs p) (So.tB T.S W (evTA (T.cx k) ts))
  | .nil, X, W, sc, vs, p, cx, h => (ckTB_nil h).elim
  | .cons t ts, X, W, sc, vs, p, cx, h => by
    rcases iv_TB h with ⟨rfl, x, rfl, h1⟩ | ⟨hn, x, y, r, rfl, h1, h2⟩
    · exact PW.imp (pw_and1 (sT t cx h1)) fun σ H Q ⟨g, f, m, R, F0, o⟩ => ⟨g, f, m, R, F0, by rw [Ev.evTA] at o; exact o⟩
    · exact nd_andT hn (sT t cx h1) (sTA ts cx h2)
theorem sTO : ∀ (ts : CTs) {X : Cx} {W : WX} {sc : Sc} {vs : List Expr} {p : Pos}, Cxt T k X W sc → ckTB sc ts vs = true → PW X (.BoolOp .Or vs p) (So.tB T.S W (evTO (T.cx k) ts))
  | .nil, X, W, sc, vs, p, cx, h => (ckTB_nil h).elim
  | .cons t ts, X, W, sc, vs, p, cx, h => by
    rcases iv_TB h with ⟨rfl, x, rfl, h1⟩ | ⟨hn, x, y, r, rfl, h1, h2⟩
    · exact PW.imp (pw_or1 (sT t cx h1)) fun σ H Q ⟨g, f, m, R, F0, o⟩ => ⟨g, f, m, R, F0, by rw [Ev.evTO] at o; exact o⟩
    · exact nd_orT hn (sT t cx h1) (sTO ts cx h2)
theorem sF : ∀ (e : FE) {X : Cx} {W : WX} {sc : Sc} {x : Expr}, Cxt T k X W sc → ckF sc e x = true → PE X x (tF T.S W (evF (T.cx k) e))
  | .lst es, X, W, sc, x, cx, h => by
    obtain ⟨vs, p, rfl, h1⟩ := iv_lst h
    exact nd_lst cx (sL es cx h1)
  | .lc a t s c, X, W, sc, x, cx, h => by
    obtain ⟨y, tg, it, ifs, scope, p, rfl, h1, h2, h3, h4, h5, h6⟩ := iv_lc h
    refine (nd_lc cx h1 h2 h3 (sSrcF s h4) (sSrc s cx h4) (fun X' c' => sE a c' h5) (fun X' c' => ?_)).1
    rcases h6 with ⟨rfl, rfl⟩ | ⟨i, rfl, h7⟩
    · exact ⟨fun pins st σ H Q I ⟨g, f, m, R, F0, o⟩ => pts_nil.run pins st σ H Q I (by rw [Ev.evT] at o; exact o g H (Step.refl R) R)⟩
    · exact pts_one (sT c c' h7)
  | .sorted a, X, W, sc, x, cx, h => by
    obtain ⟨n, np, y, p, rfl, h1, h2, h3, h4⟩ := iv_sorted h
    exact nd_sorted cx h1 h2 h3 (sE a cx h4)
  | .sortset a, X, W, sc, x, cx, h => by
    obtain ⟨np, mp, v, q, p, rfl, h1, h2, h3, h4⟩ := iv_sortset h
    exact nd_sortset cx h1 h2 h3 (sE a cx h4)
  | .sortdict a t s c, X, W, sc, x, cx, h => by
    obtain ⟨np, y, j, pv, tg, it, ifs, scope, pd, p, rfl, h0, h1, h2, h3, h4, h5, h6⟩ := iv_sortdict h
    refine nd_sortdict cx h0 h1 h2 h3 (sSrcF s h4) (sSrc s cx h4) (fun X' c' => sE a c' h5) (fun X' c' => ?_)
    rcases h6 with ⟨rfl, rfl⟩ | ⟨i, rfl, h7⟩
    · exact ⟨fun pins st σ H Q I ⟨g, f, m, R, F0, o⟩ => pts_nil.run pins st σ H Q I (by rw [Ev.evT] at o; exact o g H (Step.refl R) R)⟩
    · exact pts_one (sT c c' h7)
  | .list_ a, X, W, sc, x, cx, h => by
    obtain ⟨n, np, y, p, rfl, h1, h2, h3, h4⟩ := iv_list h
    exact nd_list cx h1 h2 h3 (sE a cx h4)
  | .rev a, X, W, sc, x, cx, h => by
    obtain ⟨y, j, p1, p2, p3, p, rfl, h1⟩ := iv_rev h
    exact nd_rev cx (sE a cx h1)
  | .rep a b, X, W, sc, x, cx, h => by
    obtain ⟨y, z, p, rfl, h1, h2⟩ := iv_rep h
    exact nd_rep cx (sE a cx h1) (sE b cx h2)
theorem sSrcF : ∀ (s : Src) {sc : Sc} {tp : Bool} {x : Expr}, ckSrc sc tp s x = true → isSet x = false
  | .it a, sc, tp, x, h => (iv_it h).1
  | .rng es, sc, tp, x, h => by
    obtain ⟨n, np, vs, p, rfl, _⟩ := iv_rng h
    rfl
  | .enum a, sc, tp, x, h => (iv_enum h).elim
  | .zip es, sc, tp, x, h => by
    obtain ⟨_, np, v, w, p, rfl, _⟩ := iv_zip h
    rfl
theorem sSrc : ∀ (s : Src) {X : Cx} {W : WX} {sc : Sc} {x tg : Expr}, Cxt T k X W sc → ckSrc sc (isT tg) s x = true → PI X tg x (tS T.S W (evSrc (T.cx k) s))
  | .it a, X, W, sc, x, tg, cx, h => nd_it cx (sE a cx (iv_it h).2)
  | .rng es, X, W, sc, x, tg, cx, h => by
    obtain ⟨n, np, vs, p, rfl, h1, h2, h3, h4, h5, h6⟩ := iv_rng h
    cases vs with
    | nil => cases h4
    | cons v r => exact nd_rng cx h1 h2 h3 (by intro z; cases z) (sL es cx h6) h5 (fun f m ds h1 q => evL_len h6 h3 q)
  | .enum a, X, W, sc, x, tg, cx, h => (iv_enum h).elim
  | .zip es, X, W, sc, x, tg, cx, h => by
    obtain ⟨ht, np, v, w, p, rfl, h1, h2, h3⟩ := iv_zip h
    cases tg <;> first | (simp [isT] at ht; done) | exact nd_zip cx h1 h2 (sL es cx h3)
end
end
end So
end
section
set_option Elab.async false
set_option autoImplicit false
set_option linter.all false
/-! S14: statements. -/
namespace So
open PySem PySem.Spec PyProof.Rows L2
open Ev (D Ob Mem R RS RL RB Bop Cop Bi Mt CE CEs CT CTs FE Src CO Tg Tgs CS CSs Su evE evL evT evF evO evAnd evOr evTA evTO evSrc evS evSs)

/-! ### the reading of statements -/
def OutS (S : Sx) (W : WX) (K : Ends) (g : G) (h : Mem) (H : L2.Hp) : RS → Prop
  | .nx f h' => ∀ σ g' H', Step g h H g' h' H' → Rel S g' h' H' → FrR S g' f σ → K.nx σ H'
  | .bk f h' => ∀ σ g' H', Step g h H g' h' H' → Rel S g' h' H' → FrR S g' f σ → K.bk σ H'
  | .ct f h' => ∀ σ g' H', Step g h H g' h' H' → Rel S g' h' H' → FrR S g' f σ → K.ct σ H'
  | .rt d h' => ∀ v g' H', Step g h H g' h' H' → Rel S g' h' H' → VD S g' d v → K.rt v H'
  | .exc c x f h' => x = .non ∧ ∀ σ g' H', Step g h H g' h' H' → Rel S g' h' H' → FrR S g' f σ → W (.ref (S.ca c)) none σ H'
  | .stuck => False
def tSt (S : Sx) (W : WX) (ev : Ev.Fr → Mem → RS) : TS := fun K σ H => ∃ g f h, Rel S g h H ∧ FrR S g f σ ∧ OutS S W K g h H (ev f h)
section
variable {S : Sx} {W W' : WX} {K K' : Ends} {g g' : G} {h h' : Mem} {H H' : L2.Hp}
theorem OutS.shift (r : Rel S g h H) (r' : Rel S g' h' H') (st : Step g h H g' h' H') : ∀ {x : RS}, OutS S W K g h H x → OutS S W K g' h' H' x
  | .nx f h2, o => fun σ g2 H2 s2 r2 z => o σ g2 H2 (st.trans r r' s2) r2 z
  | .bk f h2, o => fun σ g2 H2 s2 r2 z => o σ g2 H2 (st.trans r r' s2) r2 z
  | .ct f h2, o => fun σ g2 H2 s2 r2 z => o σ g2 H2 (st.trans r r' s2) r2 z
  | .rt d h2, o => fun v g2 H2 s2 r2 z => o v g2 H2 (st.trans r r' s2) r2 z
  | .exc c x f h2, o => ⟨o.1, fun σ g2 H2 s2 r2 z => o.2 σ g2 H2 (st.trans r r' s2) r2 z⟩
  | .stuck, o => o
/-- an expression's error, as a statement's -/
theorem okW_of {f : Ev.Fr} {σ : L2.St} {c : Nat} {x : D} {h1 : Mem} (fr : FrR S g f σ) (o : OutS S W K g h H (.exc c x f h1)) : OkW S W σ g h H c x h1 :=
  ⟨o.1, fun g' H' st r => o.2 σ g' H' st r (fr.mono st.ext)⟩
end
theorem ext_mu {g g' : G} {n : Nat} {p : Addr} (e : Ext g g') (h : g.μ[n]? = some p) : g'.μ[n]? = some p := by
  obtain ⟨r, q⟩ := e.pre
  rw [q, List.getElem?_append_left (List.getElem?_eq_some_iff.mp h).1]
  exact h
theorem frRp_all {S : Sx} {g : G} {f : Ev.Fr} {σ : L2.St} (r : FrR S g f σ) : FrRp S (fun _ => True) g f σ := ⟨r.1, fun i d _ e => r.2 i d e⟩
theorem frR_of {S : Sx} {g : G} {f : Ev.Fr} {σ : L2.St} {P : Nat → Prop} (r : FrRp S P g f σ) (h : ∀ i, P i) : FrR S g f σ := ⟨r.1, fun i d e => r.2 i d (h i) e⟩
theorem set_frR {S : Sx} {g : G} {t : Tg} {d : D} {f f' : Ev.Fr} {σ σ' : L2.St} (q : Ev.asgT t d f = some f') (st : SetT S g t d σ σ') (r : FrR S g f σ) : FrR S g f' σ' :=
  frR_of (set_fr t d f f' σ σ' _ q st (frRp_all r)) fun _ => .inl trivial
theorem fr_set {S : Sx} {g : G} {f : Ev.Fr} {σ : L2.St} {i : Nat} {d : D} {v : V} (r : FrR S g f σ) (w : VD S g d v) : FrR S g (f.set i (some d)) (σ.set i (some v)) := by
  refine ⟨by simp [r.1], fun j d' e => ?_⟩
  by_cases k : i = j
  · subst k
    by_cases hl : i < f.length
    · rw [List.getElem?_set_self hl] at e
      cases e
      exact ⟨v, List.getElem?_set_self (by rw [← r.1]; exact hl), w⟩
    · rw [List.getElem?_eq_none (by simpa using hl)] at e
      cases e
  · rw [List.getElem?_set_ne k] at e ⊢
    exact r.2 j d' e

/-- the context of a def's statements -/
structure CxS (T : Tx) (k : Nat) (X : Cx) (W : WX) (sc : Sc) : Prop where
  c : Cxt T k X W sc
  hs : X.stack = X.env :: X.outer
  hf : X.env.frame = some X.env.locals

section
variable {T : Tx} {k : Nat} {X : Cx} {W : WX} {sc : Sc} {C : Ev.Cx} {x y z tg it : Expr} {a b c : CE} {pos p1 p2 p3 : Pos} {es : CEs} {vs : List Expr} {t : Tg}

/-! ### storing -/
def notLc : Expr → Bool
  | .ListComp .. => false
  | .SetComp .. => false
  | .DictComp .. => false
  | _ => true
theorem sw_no {o : Option Expr} {l : Nat} {env : Env} (h : notLc x = true) : swapsWith x o l env = pure false := by
  cases x <;> first | rfl | (simp [notLc] at h)
def noSwap (tg v : Expr) : Bool := match tg, v with
  | .Tuple .., .Tuple vs _ _ => vs.all (foldedForSure 8)
  | .Tuple .., _ => true
  | .Name .., _ => true
  | .Subscript .., _ => true
  | _, _ => false
theorem st_no {env : Env} (h : noSwap tg x = true) : swappedStores [tg] x env = pure none := by
  cases tg <;> simp only [noSwap] at h <;> try (cases h; done)
  case Tuple ts j p =>
    cases x
    case Tuple vs j2 p2 =>
      simp only [swappedStores]
      dsimp only at h
      rw [h]
      repeat' (first | rfl | split)
    all_goals rfl
  all_goals (cases x <;> rfl)
theorem asg1 (h : noSwap tg x = true) {env : Env} : (assignEach [tg] env).map (·.2) = [assign tg env] := by
  cases tg <;> first | rfl | (simp [noSwap] at h)
/-- the reading of an assignment -/
theorem asg_read {tx : TE} (hx : ∀ σ H Q, tE T.S W (evE C a) σ H Q → tx σ H Q) {K : Ends} {σ : L2.St} {H : L2.Hp} (hq : tSt T.S W (evS C (.asg t a)) K σ H) : tAsg tx (tG T.S t) K σ H := by
  obtain ⟨g, f, h, R, Fr, out⟩ := hq
  rw [Ev.evS] at out
  refine hx σ H _ (tE_bind R Fr ?_)
  cases qa : evE C a f h with
  | ok d h1 =>
    rw [qa] at out
    intro v g1 H1 s1 R1 V1 F1
    dsimp only at out
    cases qt : Ev.asgT t d f with
    | none => rw [qt] at out; exact False.elim out
    | some f' =>
      rw [qt] at out
      exact ⟨g1, h1, d, R1, V1, asgT_ok t d f f' qt, fun σ' st => out σ' g1 H1 s1 R1 (set_frR qt st F1)⟩
  | exc c1 x1 h1 => rw [qa] at out; exact okW_of Fr out
  | stuck => rw [qa] at out; exact False.elim out
theorem st_asg (cx : Cxt T k X W sc) (hl : notLc x = true) (hn : noSwap tg x = true) (ha : PE X x (tE T.S W (evE C a))) (hg : ckTg sc t tg = true) : PS X (.Assign [tg] x pos) (tSt T.S W (evS C (.asg t a))) :=
  PS.imp (ps_asg ha (sTg cx t tg hg) (sw_no hl) (st_no hn) (asg1 hn)) fun K σ H hq => asg_read (fun _ _ _ h => h) hq
theorem setix_read {o i : CE} {K : Ends} {σ : L2.St} {H : L2.Hp} (hq : tSt T.S W (evS C (.setix o i a)) K σ H) : tAsg (tE T.S W (evE C a)) (gSub (tE T.S W (evE C o)) (tE T.S W (evE C i)) rSetL) K σ H := by
  obtain ⟨g, f, h, R, Fr, out⟩ := hq
  rw [Ev.evS] at out
  refine tE_bind R Fr ?_
  cases qa : evE C a f h with
  | ok d h1 =>
    rw [qa] at out
    intro v g1 H1 s1 R1 V1 F1
    refine tE_bind R1 F1 ?_
    dsimp only at out
    cases qb : evE C o f h1 with
    | ok d2 h2 =>
      rw [qb] at out
      intro u g2 H2 s2 R2 V2 F2
      have s12 := s1.trans R R1 s2
      cases d2 with
      | loc n =>
        refine tE_bind R2 F2 ?_
        dsimp only at out
        cases qc : evE C i f h2 with
        | ok d3 h3 =>
          rw [qc] at out
          intro w g3 H3 s3 R3 V3 F3
          have s13 := s12.trans R R2 s3
          cases d3 with
          | int kk =>
            cases V3
            dsimp only at out
            obtain ⟨p, e1, e2⟩ := V2
            subst e1
            have e2' : g3.μ[n]? = some p := ext_mu s3.ext e2
            cases qd : h3[n]? with
            | none => rw [qd] at out; exact False.elim out
            | some ob =>
              rw [qd] at out
              cases ob with
              | box dd =>
                cases dd with
                | lst ds =>
                  dsimp only at out
                  cases qe : Ev.ixN ds.length kk with
                  | none => rw [qe] at out; exact False.elim out
                  | some j =>
                    rw [qe] at out
                    obtain ⟨ws, f1, f2⟩ := R3.ob n _ _ e2' qd
                    have V1' := VD.mono s3.ext _ _ (VD.mono s2.ext _ _ V1)
                    refine ⟨p, ws, kk, j, rfl, rfl, f1, by rw [← VDs.length f2]; exact qe, ?_⟩
                    have lv : live h3 n := ⟨_, qd, by intro z; cases z⟩
                    have st := Step.write (ds := ds.set j d) (vs := ws.set j v) R3 e2' lv
                    have R4 := R3.write e2' lv (VDs.set V1' j f2)
                    exact out σ g3 _ (s13.trans R R3 st) R4 F3
                | _ => exact False.elim out
              | _ => exact False.elim out
          | _ => exact False.elim out
        | exc c1 x1 h2 => rw [qc] at out; exact OkW.shift R R2 s12 (okW_of Fr out)
        | stuck => rw [qc] at out; exact False.elim out
      | _ => exact False.elim out
    | exc c1 x1 h2 => rw [qb] at out; exact OkW.shift R R1 s1 (okW_of Fr out)
    | stuck => rw [qb] at out; exact False.elim out
  | exc c1 x1 h1 => rw [qa] at out; exact okW_of Fr out
  | stuck => rw [qa] at out; exact False.elim out
end
end So
end
section
set_option Elab.async false
set_option autoImplicit false
set_option linter.all false
/-! S15: statements, one by one. -/
namespace So
open PySem PySem.Spec PyProof.Rows L2
open Ev (D Ob Mem R RS RL RB Bop Cop Bi Mt CE CEs CT CTs FE Src CO Tg Tgs CS CSs Su evE evL evT evF evO evAnd evOr evTA evTO evSrc evS evSs)
section
variable {T : Tx} {k : Nat} {X : Cx} {W : WX} {sc : Sc} {C : Ev.Cx} {x y z tg it : Expr} {a b c : CE} {pos p1 p2 p3 : Pos} {es : CEs} {vs : List Expr} {t : Tg}
theorem st_setix {o i : CE} {ox ix : Expr} (hl : notLc x = true) (hi : isSlice ix = false) (ha : PE X x (tE T.S W (evE C a))) (ho : PE X ox (tE T.S W (evE C o))) (hx : PE X ix (tE T.S W (evE C i))) :
    PS X (.Assign [.Subscript ox ix p1] x pos) (tSt T.S W (evS C (.setix o i a))) :=
  PS.imp (ps_asg ha (pg_sub ho hx set_list (fun v => by cases ix <;> first | rfl | (simp [isSlice] at hi))) (sw_no (o := some (.Subscript ox ix p1)) (l := pos.line) (env := X.env) hl) (st_no rfl) rfl) fun K σ H hq => setix_read hq

/-! ### name op= -/
def rAug (o : Bop) : TIp := fun v w H Q => match o with
  | .add => (∃ i j, v = .int i ∧ w = .int j ∧ Q (.int (i + j)) H) ∨ (∃ i j, v = .str i ∧ w = .str j ∧ i.length + j.length ≤ sizeLine ∧ Q (.str (i ++ j)) H)
  | .sub => ∃ i j, v = .int i ∧ w = .int j ∧ Q (.int (i - j)) H
  | _ => False
theorem ip_aug (o : Bop) : PIp X (bo o) (rAug o) := by
  intro pins s σ H v w u r Q I r1 r2 h
  cases o with
  | add =>
    rcases h with h | h
    · exact ip_add pins s σ H v w u r Q I r1 r2 h
    · exact iop_add_str pins s σ H v w u r Q I r1 r2 h
  | sub => exact ip_sub pins s σ H v w u r Q I r1 r2 h
  | mul => exact False.elim h
  | fdiv => exact False.elim h
  | mod => exact False.elim h
  | pow => exact False.elim h
theorem st_aug (cx : Cxt T k X W sc) {i : Nat} {n : Str} {o : Bop} (hi : sc.N[i]? = some n) (hl : locB sc n = true) (ha : PE X x (tE T.S W (evE C a))) : PS X (.AugAssign (.Name n p1) (bo o) x pos) (tSt T.S W (evS C (.aug i o a))) := by
  obtain ⟨h1, h2⟩ := cx.oc n hl
  refine PS.imp (ps_aug (i := i) (by rw [cx.N]; exact cx.nd) (by rw [cx.N]; exact hi) h1 ha (ip_aug o) h2) ?_
  rintro K σ H ⟨g, f, h, R, Fr, out⟩
  rw [Ev.evS] at out
  split at out
  · rename_i d qd
    obtain ⟨v, e1, V⟩ := Fr.2 i d qd
    refine ⟨v, e1, tE_bind R Fr ?_⟩
    cases qa : evE C a f h with
    | ok d2 h1 =>
      rw [qa] at out
      intro w g1 H1 s1 R1 V1 F1
      dsimp only at out
      have V0 := VD.mono s1.ext _ _ V
      split at out
      · cases V0; cases V1
        exact .inl ⟨_, _, rfl, rfl, out _ g1 H1 s1 R1 (fr_set F1 rfl)⟩
      · cases V0; cases V1
        exact ⟨_, _, rfl, rfl, out _ g1 H1 s1 R1 (fr_set F1 rfl)⟩
      · split at out
        · rename_i hl
          obtain ⟨rfl, o1⟩ := V0
          obtain ⟨rfl, o2⟩ := V1
          refine .inr ⟨_, _, rfl, rfl, ?_, ?_⟩
          · rw [tx_len, tx_len]
            exact lim_of hl
          · rw [tx_app]
            exact out _ g1 H1 s1 R1 (fr_set F1 ⟨rfl, fun c hc => (List.mem_append.mp hc).elim (o1 c) (o2 c)⟩)
        · exact False.elim out
      · exact False.elim out
    | exc c1 x1 h1 => rw [qa] at out; exact okW_of Fr out
    | stuck => rw [qa] at out; exact False.elim out
  · exact False.elim out

/-! ### a, b = x, y -/
def parC (sc : Sc) (x y : Str) (px py : Pos) (a b : Expr) : Bool :=
  decide (sc.nm.lookup x = some .local) && decide (sc.nm.lookup y = some .local) && (px.line == py.line) && decide (x ≠ y) && noStar [a, b] && !([a, b].all (foldedForSure 8)) && !([a, b].all (constantsAlone 8))
theorem par_sw {env : Env} {x y : Str} {px py pt : Pos} {kt k2 : Nat} {pt2 : Pos} {a b : Expr} (hk : env.scope.kind = .function) (hx : env.scope.names.lookup x = some .local) (hy : env.scope.names.lookup y = some .local) (hl : (px.line == py.line) = true) (hn : x ≠ y)
    (hs : noStar [a, b] = true) (h1 : ([a, b].all (foldedForSure 8)) = false) (h2 : ([a, b].all (constantsAlone 8)) = false) :
    swappedStores [.Tuple [.Name x px, .Name y py] kt pt] (.Tuple [a, b] k2 pt2) env = pure (some [x, y]) := by
  have kx : env.kindOf x = some .local := hx
  have ky : env.kindOf y = some .local := hy
  have hb : env.blockKind = .function := by unfold Env.blockKind; rw [hk]; rfl
  have e0 : py.line = px.line := (beq_iff_eq.mp hl).symm
  have st : ([a, b].any fun | Expr.Starred .. => true | _ => false) = false := by
    obtain ⟨n1, n2⟩ := noStar_head hs
    cases a <;> first | (simp [noStar] at n1; done) | (cases b <;> first | rfl | (simp [noStar] at n2))
  have ne : ([x, y] : List Str).eraseDups.length = 2 := by
    have : (y == x) = false := by simpa using fun z : y = x => hn z.symm
    simp [List.eraseDups_cons, this]
  unfold swappedStores
  dsimp only
  rw [hb]
  simp only [List.length_cons, List.length_nil, h1, h2, List.filterMap_cons, List.filterMap_nil, kx, ky, List.head?_cons, Option.map_some, Expr.pos, Option.getD_some, e0, beq_self_eq_true, Bool.and_self, if_true, ne]
  rw [if_neg (by decide), if_neg (by rw [Bool.not_eq_true]; exact st)]
  rfl
theorem st_par (cx : Cxt T k X W sc) {i j : Nat} {n m : Str} {px py pt pt2 : Pos} {kt k2 : Nat} (hi : sc.N[i]? = some n) (hj : sc.N[j]? = some m) (hc : parC sc n m px py x y = true) (ha : PA X [x, y] (tL T.S W (evL C (.cons a (.cons b .nil))))) :
    PS X (.Assign [.Tuple [.Name n px, .Name m py] kt pt] (.Tuple [x, y] k2 pt2) pos) (tSt T.S W (evS C (.par i j a b))) := by
  unfold parC at hc
  simp only [Bool.and_eq_true, decide_eq_true_eq, Bool.not_eq_true'] at hc
  obtain ⟨⟨⟨⟨⟨⟨h1, h2⟩, h3⟩, h4⟩, h5⟩, h6⟩, h7⟩ := hc
  have hij : i ≠ j := fun z => by
    subst z
    rw [hi] at hj
    exact h4 (Option.some.inj hj)
  refine PS.imp (ps_par (i := i) (j := j) cx.calm (by rw [cx.N]; exact cx.nd) (by rw [cx.N]; exact hi) (by rw [cx.N]; exact hj) hij (by rw [cx.nm]; exact h1) (by rw [cx.nm]; exact h2) ha
    (par_sw cx.kind (by rw [cx.nm]; exact h1) (by rw [cx.nm]; exact h2) h3 h4 h5 h6 h7)) ?_
  rintro K σ H ⟨g, f, h, R, Fr, out⟩
  rw [Ev.evS] at out
  refine tL_bind R Fr ?_
  cases qa : evL C (.cons a (.cons b .nil)) f h with
  | ok ds h1 =>
    rw [qa] at out
    intro ws g1 H1 s1 R1 V1 F1
    match ds, out with
    | [d1, d2], out =>
      dsimp only at out
      split at out
      · obtain ⟨v, vr, e, Va, Vb⟩ := V1
        obtain ⟨w, e2, Vw⟩ := VDs.one_of Vb
        subst e2
        exact ⟨v, w, e, out _ g1 H1 s1 R1 (fr_set (fr_set F1 Va) Vw)⟩
      · exact False.elim out
    | [], out => exact False.elim out
    | [_], out => exact False.elim out
    | _ :: _ :: _ :: _, out => exact False.elim out
  | exc c1 x1 h1 => rw [qa] at out; exact okW_of Fr out
  | stuck => rw [qa] at out; exact False.elim out

/-! ### the simple ones -/
theorem st_expr (hl : notLc x = true) (ha : PE X x (tE T.S W (evE C a))) : PS X (.Expr x pos) (tSt T.S W (evS C (.expr a))) := by
  refine PS.imp (ps_expr ha (sw_no hl)) ?_
  rintro K σ H ⟨g, f, h, R, Fr, out⟩
  rw [Ev.evS] at out
  refine tE_bind R Fr ?_
  cases qa : evE C a f h with
  | ok d h1 =>
    rw [qa] at out
    intro v g1 H1 s1 R1 V1 F1
    exact out σ g1 H1 s1 R1 F1
  | exc c1 x1 h1 => rw [qa] at out; exact okW_of Fr out
  | stuck => rw [qa] at out; exact False.elim out
theorem st_ret (ha : PE X x (tE T.S W (evE C a))) : PS X (.Return (some x) pos) (tSt T.S W (evS C (.ret a))) := by
  refine PS.imp (ps_ret ha) ?_
  rintro K σ H ⟨g, f, h, R, Fr, out⟩
  rw [Ev.evS] at out
  refine tE_bind R Fr ?_
  cases qa : evE C a f h with
  | ok d h1 =>
    rw [qa] at out
    intro v g1 H1 s1 R1 V1 F1
    exact out v g1 H1 s1 R1 V1
  | exc c1 x1 h1 => rw [qa] at out; exact okW_of Fr out
  | stuck => rw [qa] at out; exact False.elim out
theorem st_retn : PS X (.Return none pos) (tSt T.S W (evS C .retn)) := by
  refine PS.imp ps_retN ?_
  rintro K σ H ⟨g, f, h, R, Fr, out⟩
  rw [Ev.evS] at out
  exact out .non g H (Step.refl R) R rfl
theorem st_pass : PS X (.Pass pos) (tSt T.S W (evS C .pass)) := by
  refine PS.imp ps_pass ?_
  rintro K σ H ⟨g, f, h, R, Fr, out⟩
  rw [Ev.evS] at out
  exact out σ g H (Step.refl R) R Fr
theorem st_brk : PS X (.Break pos) (tSt T.S W (evS C .brk)) := by
  refine PS.imp ps_break ?_
  rintro K σ H ⟨g, f, h, R, Fr, out⟩
  rw [Ev.evS] at out
  exact out σ g H (Step.refl R) R Fr
theorem st_cont : PS X (.Continue pos) (tSt T.S W (evS C .cont)) := by
  refine PS.imp ps_continue ?_
  rintro K σ H ⟨g, f, h, R, Fr, out⟩
  rw [Ev.evS] at out
  exact out σ g H (Step.refl R) R Fr
theorem st_if {ct : CT} {sa sb : CSs} {ba bb : List Stmt} (hc : PT X x (So.tB T.S W (evT C ct))) (ha : PSs X ba (tSt T.S W (evSs C sa))) (hb : PSs X bb (tSt T.S W (evSs C sb))) : PS X (.If x ba bb pos) (tSt T.S W (evS C (.ite ct sa sb))) := by
  refine PS.imp (ps_if hc ha hb) ?_
  rintro K σ H ⟨g, f, h, R, Fr, out⟩
  rw [Ev.evS] at out
  refine tB_bind R Fr ?_
  cases qa : evT C ct f h with
  | ok d h1 =>
    rw [qa] at out
    intro g1 H1 s1 R1 F1
    cases d with
    | true => rw [if_pos rfl]; exact ⟨g1, f, h1, R1, F1, OutS.shift R R1 s1 out⟩
    | false => rw [if_neg (by decide)]; exact ⟨g1, f, h1, R1, F1, OutS.shift R R1 s1 out⟩
  | exc c1 x1 h1 => rw [qa] at out; exact okW_of Fr out
  | stuck => rw [qa] at out; exact False.elim out
theorem st_raise (cx : Cxt T k X W sc) {cc : Nat} {m : List Nat} {n s : Str} {np : Pos} {j : Nat} (hx : sc.xs[cc]? = some n) (hr : sc.rz.contains cc = true) (hg : glB sc n = true) :
    PS X (.Raise (some (.Call (.Name n np) [.Constant (.str s) j p2] [] p1)) none pos) (tSt T.S W (evS C (.raise cc m))) := by
  obtain ⟨g1, g2⟩ := cx.gl_of hg
  have z := cx.ok.rz cc (by rw [← cx.rz]; simpa using hr) n (by rw [← cx.xs]; exact hx)
  obtain ⟨B, newId, initId, bmB, F, q⟩ := z.ex
  have rr : Raises X (.ref (T.S.ca cc)) := raises_own (by rw [cx.K]; exact z.sub) (by rw [cx.K]; exact z.ty)
  refine PS.imp (L2N.ps_raise cx.calm cx.tk (L2N.pmk_own (m := s) (j := j) F (by rw [cx.K]; exact q) (by rw [cx.mg]; exact z.mg) (by rw [cx.K]; exact z.kp) rr g1 g2)) ?_
  rintro K σ H ⟨g, f, h, R, Fr, out⟩
  rw [Ev.evS] at out
  exact out.2 σ g H (Step.refl R) R Fr
end
end So
end
section
set_option Elab.async false
set_option autoImplicit false
set_option linter.all false
/-! S16: loops, try. -/
namespace So
open PySem PySem.Spec PyProof.Rows L2
open Ev (D Ob Mem R RS RL RB Bop Cop Bi Mt CE CEs CT CTs FE Src CO Tg Tgs CS CSs Su evE evL evT evF evO evAnd evOr evTA evTO evSrc evS evSs)
section
variable {T : Tx} {k : Nat} {X : Cx} {W : WX} {sc : Sc} {C : Ev.Cx} {x y z tg it : Expr} {a b c : CE} {pos p1 p2 p3 : Pos} {es : CEs} {vs : List Expr} {t : Tg}
theorem st_for (cx : Cxt T k X W sc) {s : Src} {body : CSs} {bs : List Stmt} (hg : ckTg sc t tg = true) (hns : isSet it = false) (hi : PI X tg it (tS T.S W (evSrc C s))) (hb : PSs X bs (tSt T.S W (evSs C body))) :
    PS X (.For tg it bs [] pos) (tSt T.S W (evS C (.for_ t s body))) := by
  have fold : ∀ v, foldedSetIterable it X.env v = pure v := fun v => by cases it <;> first | rfl | (simp [isSet] at hns)
  refine PS.imp (ps_for cx.po cx.calm hi (sTg cx t tg hg) hb fold) ?_
  rintro K σ H ⟨g, f, h, R, Fr, out⟩
  rw [Ev.evS] at out
  refine ⟨g, f, h, R, Fr, ?_⟩
  cases qa : evSrc C s f h with
  | exc c1 x1 h1 => rw [qa] at out; exact okW_of Fr out
  | stuck => rw [qa] at out; exact False.elim out
  | ok ds h1 =>
    rw [qa] at out
    dsimp only at out
    intro J g1 H1 s1 R1 wk
    generalize hr : Ev.forL (evSs C body) t ds f h1 = r at out
    refine ⟨fun i m σ H2 => m = ds.length - i ∧ i ≤ ds.length ∧ ∃ g' h' f', Rel T.S g' h' H2 ∧ Step g h H g' h' H2 ∧ Ext g1 g' ∧ FrR T.S g' f' σ ∧ Ev.forL (evSs C body) t (ds.drop i) f' h' = r,
      ⟨ds.length, by simp, Nat.zero_le _, g1, h1, f, R1, s1, Ext.refl, Fr.mono s1.ext, by simpa using hr⟩, ?_⟩
    rintro i m σ2 H2 ⟨rfl, hi, g2, h2, f2, R2, s2, E2, F2, q2⟩
    obtain ⟨w1, w2⟩ := wk g2 h2 H2 E2 R2 i
    by_cases hlt : i < ds.length
    · have hd : ds[i]? = some ds[i] := by simp [hlt]
      obtain ⟨go, yl⟩ := w1 _ hd
      rw [List.drop_eq_getElem_cons hlt, Ev.forL] at q2
      refine .inr ⟨go, _, fun σ' H' n => ⟨ds.length - (i + 1), by omega, n⟩, fun v H3 yv => ?_⟩
      obtain ⟨g3, R3, s3, V3⟩ := yl v H3 yv
      have s13 := s2.trans R R2 s3
      cases qt : Ev.asgT t ds[i] f2 with
      | none =>
        rw [qt] at q2
        subst q2
        exact False.elim out
      | some f3 =>
        rw [qt] at q2
        dsimp only at q2
        refine ⟨g3, h2, ds[i], R3, V3, asgT_ok t _ _ _ qt, fun σ3 st => ⟨g3, f3, h2, R3, set_frR qt st (F2.mono s3.ext), ?_⟩⟩
        cases qb : evSs C body f3 h2 with
        | nx f4 h4 =>
          rw [qb] at q2
          exact fun σ4 g4 H4 s4 R4 F4 => ⟨rfl, hlt, g4, h4, f4, R4, s13.trans R R3 s4, (E2.trans s3.ext).trans s4.ext, F4, q2⟩
        | ct f4 h4 =>
          rw [qb] at q2
          exact fun σ4 g4 H4 s4 R4 F4 => ⟨rfl, hlt, g4, h4, f4, R4, s13.trans R R3 s4, (E2.trans s3.ext).trans s4.ext, F4, q2⟩
        | bk f4 h4 =>
          rw [qb] at q2
          subst q2
          exact fun σ4 g4 H4 s4 R4 F4 => out σ4 g4 H4 (s13.trans R R3 s4) R4 F4
        | rt d h4 =>
          rw [qb] at q2
          subst q2
          exact fun v4 g4 H4 s4 R4 V4 => out v4 g4 H4 (s13.trans R R3 s4) R4 V4
        | exc c1 x1 f4 h4 =>
          rw [qb] at q2
          subst q2
          exact ⟨out.1, fun σ4 g4 H4 s4 R4 F4 => out.2 σ4 g4 H4 (s13.trans R R3 s4) R4 F4⟩
        | stuck =>
          rw [qb] at q2
          subst q2
          exact False.elim out
    · have e : i = ds.length := by omega
      subst e
      refine .inl ⟨w2 (Nat.le_refl _), ?_⟩
      rw [List.drop_length, Ev.forL] at q2
      subst q2
      exact out σ2 g2 H2 s2 R2 F2
theorem st_while (cx : Cxt T k X W sc) {ct : CT} {body : CSs} {bs : List Stmt} (hc : PT X x (So.tB T.S W (evT C ct))) (hb : PSs X bs (tSt T.S W (evSs C body))) : PS X (.While x bs [] pos) (tSt T.S W (evS C (.while_ ct body))) := by
  refine PS.imp (ps_while cx.po hc hb) ?_
  rintro K σ H ⟨g, f, h, R, Fr, out⟩
  rw [Ev.evS] at out
  generalize Ev.WF = w at out
  generalize hr : Ev.whileL (evT C ct) (evSs C body) w f h = r at out
  refine ⟨fun m σ H2 => ∃ g' h' f', Rel T.S g' h' H2 ∧ Step g h H g' h' H2 ∧ FrR T.S g' f' σ ∧ Ev.whileL (evT C ct) (evSs C body) m f' h' = r, ⟨w, g, h, f, R, Step.refl R, Fr, hr⟩, ?_⟩
  rintro m σ2 H2 ⟨g2, h2, f2, R2, s2, F2, q2⟩
  cases m with
  | zero =>
    rw [Ev.whileL] at q2
    subst q2
    exact False.elim out
  | succ m =>
    rw [Ev.whileL] at q2
    refine tB_bind R2 F2 ?_
    cases qt : evT C ct f2 h2 with
    | exc c1 x1 h3 =>
      rw [qt] at q2
      subst q2
      exact ⟨out.1, fun g' H' st r => out.2 σ2 g' H' (s2.trans R R2 st) r (F2.mono st.ext)⟩
    | stuck =>
      rw [qt] at q2
      subst q2
      exact False.elim out
    | ok bb h3 =>
      rw [qt] at q2
      intro g3 H3 s3 R3 F3
      have s13 := s2.trans R R2 s3
      cases bb with
      | false =>
        rw [if_neg (by decide)]
        dsimp only at q2
        subst q2
        exact out σ2 g3 H3 s13 R3 F3
      | true =>
        rw [if_pos rfl]
        dsimp only at q2
        refine ⟨_, fun σ' H' n => ⟨m, Nat.lt_succ_self m, n⟩, g3, f2, h3, R3, F3, ?_⟩
        cases qb : evSs C body f2 h3 with
        | nx f4 h4 =>
          rw [qb] at q2
          exact fun σ4 g4 H4 s4 R4 F4 => ⟨g4, h4, f4, R4, s13.trans R R3 s4, F4, q2⟩
        | ct f4 h4 =>
          rw [qb] at q2
          exact fun σ4 g4 H4 s4 R4 F4 => ⟨g4, h4, f4, R4, s13.trans R R3 s4, F4, q2⟩
        | bk f4 h4 =>
          rw [qb] at q2
          subst q2
          exact fun σ4 g4 H4 s4 R4 F4 => out σ4 g4 H4 (s13.trans R R3 s4) R4 F4
        | rt d h4 =>
          rw [qb] at q2
          subst q2
          exact fun v4 g4 H4 s4 R4 V4 => out v4 g4 H4 (s13.trans R R3 s4) R4 V4
        | exc c1 x1 f4 h4 =>
          rw [qb] at q2
          subst q2
          exact ⟨out.1, fun σ4 g4 H4 s4 R4 F4 => out.2 σ4 g4 H4 (s13.trans R R3 s4) R4 F4⟩
        | stuck =>
          rw [qb] at q2
          subst q2
          exact False.elim out

/-! ### ghosts and sequences -/
theorem st_nil : PSs X [] (tSt T.S W (evSs C .nil)) := by
  refine PSs.imp pss_nil ?_
  rintro K σ H ⟨g, f, h, R, Fr, out⟩
  rw [Ev.evSs] at out
  exact out σ g H (Step.refl R) R Fr
theorem st_cons {st : Stmt} {rest : List Stmt} {s : CS} {ss : CSs} (h1 : PS X st (tSt T.S W (evS C s))) (h2 : PSs X rest (tSt T.S W (evSs C ss))) : PSs X (st :: rest) (tSt T.S W (evSs C (.cons s ss))) := by
  refine PSs.imp (pss_cons h1 h2) ?_
  rintro K σ H ⟨g, f, h, R, Fr, out⟩
  rw [Ev.evSs] at out
  refine ⟨g, f, h, R, Fr, ?_⟩
  cases q : evS C s f h with
  | nx f1 h1 =>
    rw [q] at out
    exact fun σ1 g1 H1 s1 R1 F1 => ⟨g1, f1, h1, R1, F1, OutS.shift R R1 s1 out⟩
  | bk f1 h1 => rw [q] at out; exact out
  | ct f1 h1 => rw [q] at out; exact out
  | rt d h1 => rw [q] at out; exact out
  | exc c1 x1 f1 h1 => rw [q] at out; exact out
  | stuck => rw [q] at out; exact out
theorem st_fz {rest : List Stmt} {i : Nat} {ss : CSs} (h2 : PSs X rest (tSt T.S W (evSs C ss))) : PSs X rest (tSt T.S W (evSs C (.fz i ss))) := by
  refine PSs.imp h2 ?_
  rintro K σ H ⟨g, f, h, R, Fr, out⟩
  rw [Ev.evSs] at out
  split at out
  · rename_i n qn
    split at out
    · rename_i d qd
      obtain ⟨v, e1, p, e2, e3⟩ := Fr.2 i _ qn
      subst e2
      cases d with
      | lst ds =>
        obtain ⟨a2, ws, f1, f2, f3, R2, E2, V2⟩ := R.gone qd
        have f0 := f1
        rw [e3] at f0
        cases f0
        have st := Step.gone R E2 rfl f1 ⟨_, qd, by intro z; cases z⟩
        have F2 := fr_set (i := i) (Fr.mono E2) V2
        have es : σ.set i (some (V.ref p)) = σ := by
          refine List.ext_getElem? fun j => ?_
          by_cases q : i = j
          · subst q
            rw [List.getElem?_set_self (List.getElem?_eq_some_iff.mp e1).1, e1]
          · rw [List.getElem?_set_ne q]
        rw [es] at F2
        exact ⟨_, _, _, R2, F2, OutS.shift R R2 st out⟩
      | _ => exact False.elim (R.ob n _ _ e3 qd)
    · exact False.elim out
  · exact False.elim out
end
end So
end
section
set_option Elab.async false
set_option autoImplicit false
set_option linter.all false
/-! S17: try; all statements at once. -/
namespace So
open PySem PySem.Spec PyProof.Rows L2
open Ev (D Ob Mem R RS RL RB Bop Cop Bi Mt CE CEs CT CTs FE Src CO Tg Tgs CS CSs Su evE evL evT evF evO evAnd evOr evTA evTO evSrc evS evSs)
section
variable {T : Tx} {k : Nat} {X : Cx} {W : WX} {sc : Sc} {x y z tg it : Expr} {a b c : CE} {pos p1 p2 p3 : Pos} {es : CEs} {vs : List Expr} {t : Tg}
theorem CxS.tr (c : CxS T k X W sc) {pn : List (Addr × Obj)} {xe : Value → Shared → Prop} {W' : WX} (tk : L2N.Takes (X.tr pn xe) W') (po : PassesOwn (model X.prog X.w) X.A X.env xe) : CxS T k (X.tr pn xe) W' sc :=
  ⟨⟨c.c.ok, c.c.prog, c.c.w, c.c.K, c.c.mg, c.c.base, c.c.N, c.c.nd, c.c.nm, c.c.kind, c.c.oc, c.c.gl, c.c.fs, c.c.xs, c.c.sub, c.c.rz, c.c.calm, tk, po, c.c.gd, c.c.rm⟩, c.hs, c.hf⟩
/-- a constant, in any context -/
theorem pe_con {X : Cx} {d : D} {cn : Const} {j : Nat} (hc : ckC d cn = true) : PE X (.Constant cn j pos) (fun σ H Q => ∃ v, (∀ g, VD T.S g d v) ∧ Q v H) := by
  cases d <;> cases cn <;> simp only [ckC] at hc <;> try (cases hc; done)
  · exact PE.imp pe_non fun σ H Q ⟨v, w, q⟩ => by
      have : v = V.non := w ⟨fun _ => none, []⟩
      subst this
      exact q
  · rename_i p q
    have : p = q := by simpa using hc
    subst this
    exact PE.imp pe_bl fun σ H Q ⟨v, w, q⟩ => by
      have : v = V.bl p := w ⟨fun _ => none, []⟩
      subst this
      exact q
  · have := of_decide_eq_true hc
    subst this
    exact PE.imp pe_int fun σ H Q ⟨v, w, q⟩ => by
      have : v = V.int _ := w ⟨fun _ => none, []⟩
      subst this
      exact q
  · simp only [Bool.and_eq_true, decide_eq_true_eq, List.all_eq_true] at hc
    obtain ⟨e, o⟩ := hc
    subst e
    exact PE.imp pe_str fun σ H Q ⟨v, w, q⟩ => by
      obtain ⟨e, _⟩ := w ⟨fun _ => none, []⟩
      subst e
      exact q
theorem con_vd {d : D} {cn : Const} (hc : ckC d cn = true) : ∃ v, ∀ g, VD T.S g d v := by
  cases d <;> cases cn <;> simp only [ckC] at hc <;> try (cases hc; done)
  · exact ⟨.non, fun g => rfl⟩
  · exact ⟨.bl _, fun g => rfl⟩
  · exact ⟨.int _, fun g => rfl⟩
  · simp only [Bool.and_eq_true, decide_eq_true_eq, List.all_eq_true] at hc
    exact ⟨.str _, fun g => ⟨rfl, hc.2⟩⟩
/-- what the body's exceptions wish -/
def suT (T : Tx) (k i f : Nat) (a : Addr) (cls : Value) (dd : Option Addr) : TS := fun K σ H => 1 ≤ k ∧ dd = none ∧ ∃ c d g h, cls = .ref (T.S.ca c) ∧ T.Pg.errT f c = some d ∧ (i < σ.length → σ[i]? = some (some (.ref a))) ∧ Rel T.S g h H ∧ ∀ v g' H', Step g h H g' h H' → Rel T.S g' h H' → VD T.S g' d v → K.rt v H'
theorem su_err (cx : CxS T k X W sc) {i f : Nat} {n en : Str} {np ep cp rp : Pos} (hf : sc.fs[f]? = some n) (hg : glB sc n = true) (he : varB sc i en = true) {ad : Addr} {oe : Obj} {cls : Value} {dd : Option Addr} {pn : List (Addr × Obj)} (hz : L2N.Zn cls dd oe) (hd : ∃ vs, oe.data = .fields vs) :
    PSs (X.suite ad ((ad, oe) :: pn)) [.Return (some (.Call (.Name n np) [.Name en ep] [] cp)) rp] (suT T k i f ad cls dd) := by
  obtain ⟨g1, g2⟩ := cx.c.gl_of hg
  obtain ⟨e1, e2⟩ := cx.c.ok.defs f n (by rw [← cx.c.fs]; exact hf)
  unfold varB at he
  simp only [Bool.and_eq_true, decide_eq_true_eq, Bool.not_eq_true'] at he
  obtain ⟨⟨⟨h1, h2⟩, h3⟩, h4⟩ := he
  have vis : Vis X.env.scope en := by
    unfold Vis
    rw [cx.c.nm]
    unfold visB at h2
    split at h2 <;> rename_i q
    · exact .inl q
    · exact .inr (.inl q)
    · exact .inr (.inr q)
    · cases h2
  refine pss_one (PS.imp (t := tRet (fun σ H Q => suT T k i f ad cls dd { nx := fun _ _ => False, rt := Q } σ H)) (ps_ret ⟨fun pins s σ H Q I hq => ?_⟩) fun K σ H h => h)
  obtain ⟨hk, ed, c, d, g, h, e3, e4, e5, R, q⟩ := hq
  have e5 := e5 (by rw [show σ.length = X.N.length from I.len, cx.c.N]; exact (List.getElem?_eq_some_iff.mp h1).1)
  subst e3
  refine wpAny_Call_Name_kw (ld_glob (X := X.suite ad ((ad, oe) :: pn)) I g1 (show X.mg n = _ by rw [cx.c.mg]; exact e1) ?_ g2)
  have hkp : PySem.W.keepIn X.K (.ref (T.S.fa f)) = true := by rw [cx.c.K]; exact e2
  have ha : PA (X.suite ad ((ad, oe) :: pn)) [.Name en ep] (tCons (fun σ H Q => ∃ v, σ[i]? = some (some v) ∧ Q v H) tNil) := pa_cons (pe_var (i := i) (show X.N[i]? = _ by rw [cx.c.N]; exact h1) vis h3 h4) pa_nil
  refine PySem.W.callWith_K (h₀ := X.base) I.ok.mod.kin hkp (thn (ha.run cp pins s σ H (fun vs H1 => vs = [V.ref ad] ∧ H = H1) I ⟨_, e5, rfl, rfl⟩) fun us s1 hh => ?_)
  obtain ⟨vs, H1, I1, r1, ev, eH⟩ := hh
  subst ev; subst eH
  refine ⟨I1.kIn, ?_⟩
  obtain rfl : us = [Value.ref ad] := by
    cases r1 with
    | cons r rr =>
      cases rr
      cases r
      rfl
  have P1 := I1.pin (ad, oe) (List.mem_append_left _ (List.mem_cons_self : (ad, oe) ∈ (ad, oe) :: pn))
  obtain ⟨ws, hw⟩ := hd
  have hpin : L2H.PinOk X.stack H s1 (ad, oe) := ⟨P1.1, P1.2.1, fun hm => (List.mem_cons.mp (I1.stkSub ad hm)).elim P1.2.2.1 P1.2.2.2.1, P1.2.2.2.2⟩
  have e0 : Env0 T.P T.w T.S.K T.mg T.base (X.suite ad ((ad, oe) :: pn)).A X.stack s1 H := by
    have := I1.env0
    rw [show (X.suite ad ((ad, oe) :: pn)).prog = X.prog from rfl, show (X.suite ad ((ad, oe) :: pn)).w = X.w from rfl, show (X.suite ad ((ad, oe) :: pn)).K = X.K from rfl, show (X.suite ad ((ad, oe) :: pn)).mg = X.mg from rfl, show (X.suite ad ((ad, oe) :: pn)).base = X.base from rfl, cx.c.prog, cx.c.w, cx.c.K, cx.c.mg, cx.c.base] at this
    exact this
  have rm1 := cx.c.rm.mono hk
  have run := cx.c.ok.err f c d e4 (X.suite ad ((ad, oe) :: pn)).A X.stack s1 H (ad, oe) g h Q (fun _ _ _ => False) ⟨rm1.dp, rm1.un⟩ cx.c.gd ⟨rfl, ws, hw, hz.2.2 ws hw⟩ hpin e0 hz.1 (by rw [show (ad, oe).2.dict = dd from hz.2.1]; exact ed) R q
  refine wpAny_call (codeAny_mono (R := CR (L2N.CX X.prog X.w) X.stack X.prog X.w H s1 Q (fun _ _ _ => False)) (by rw [cx.c.prog, cx.c.w]; exact run) fun res s' hq => ?_)
  cases res with
  | error e =>
    obtain ⟨_, _, _, _, _, _, _, _, _, _, _, _, z⟩ := hq
    exact False.elim z
  | ok fl =>
    cases fl with
    | ret u => exact I1.after hq
    | next => exact False.elim hq
    | brk => exact False.elim hq
    | cont => exact False.elim hq
/-- the clause's class -/
structure HdC (sc : Sc) (cs : List Nat) (n : Str) (j : Nat) : Prop where
  gl : glB sc n = true
  xs : sc.xs[j]? = some n
  sb : sc.sub[j]? = some cs
theorem HdC.names (cx : Cxt T k X W sc) {cs : List Nat} {n : Str} {j : Nat} (h : HdC sc cs n j) : Names X n (.ref (T.S.ca j)) := by
  obtain ⟨g1, g2⟩ := cx.gl_of h.gl
  exact ⟨g1, g2, .inl (by rw [cx.mg]; exact cx.ok.xn j n (by rw [← cx.xs]; exact h.xs))⟩
/-- the outcome of the body, as the body's own context has it -/
theorem try_out (cx : Cxt T k X W sc) {W' : WX} {K : Ends} {g : G} {h : Mem} {H : L2.Hp} {f0 : Ev.Fr} {body : CSs} {cs : List Nat} {su : Su} {j : Nat} {n : Str} (hd : HdC sc cs n j) (out : OutS T.S W K g h H (evS (T.cx k) (.try_ body cs su) f0 h))
    (hyes : ∀ c f1 h1, cs.contains c = true → PySem.W.exmOne X.K (.ref (T.S.ca c)) (.ref (T.S.ca j)) = some true → OutS T.S W K g h H (match su with
      | .ret d => if d.pure then .rt d h1 else .stuck
      | .err f => match (T.cx k).errT f c with
        | some d => .rt d h1
        | none => .stuck
      | .asg i d => if i < f1.length ∧ d.pure then .nx (f1.set i (some d)) h1 else .stuck) → ∀ σ g' H', Step g h H g' h1 H' → Rel T.S g' h1 H' → FrR T.S g' f1 σ → W' (.ref (T.S.ca c)) none σ H')
    (hno : ∀ c σ H', PySem.W.exmOne X.K (.ref (T.S.ca c)) (.ref (T.S.ca j)) = some false → W (.ref (T.S.ca c)) none σ H' → W' (.ref (T.S.ca c)) none σ H') : OutS T.S W' K g h H (evSs (T.cx k) body f0 h) := by
  rw [Ev.evS] at out
  cases q : evSs (T.cx k) body f0 h with
  | nx f1 h1 => rw [q] at out; exact out
  | bk f1 h1 => rw [q] at out; exact out
  | ct f1 h1 => rw [q] at out; exact out
  | rt d h1 => rw [q] at out; exact out
  | stuck => rw [q] at out; exact out
  | exc c x1 f1 h1 =>
    rw [q] at out
    cases x1 with
    | non =>
      dsimp only at out
      by_cases hc : cs.contains c = true
      · rw [if_pos hc] at out
        have hl := cx.ok.sbl j c cs (by rw [← cx.sub]; exact hd.sb) hc
        have hx := cx.ok.exm j c cs (by rw [← cx.sub]; exact hd.sb) hl
        rw [hc] at hx
        exact ⟨rfl, hyes c f1 h1 hc (by rw [cx.K]; exact hx) out⟩
      · rw [if_neg hc] at out
        split at out
        · rename_i hl
          have hl : c < T.xs.length := by
            have : c < T.Pg.nx := hl
            rw [cx.ok.nx] at this
            exact this
          have hx := cx.ok.exm j c cs (by rw [← cx.sub]; exact hd.sb) hl
          have hc' : cs.contains c = false := by simpa using hc
          rw [hc'] at hx
          exact ⟨rfl, fun σ g' H' st r fr => hno c σ H' (by rw [cx.K]; exact hx) (out.2 σ g' H' st r fr)⟩
        · exact False.elim out
    | _ => exact False.elim out
theorem st_tryErr (cx : CxS T k X W sc) {body : CSs} {bs : List Stmt} {cs : List Nat} {n fnn en : Str} {f i j : Nat} {np np2 ep cp rp hp : Pos} (hd : HdC sc cs n j) (hf : sc.fs[f]? = some fnn) (hg : glB sc fnn = true) (he : varB sc i en = true) (hel : sc.nm.lookup en = some .local)
    (hb : ∀ (W' : WX) (pn : List (Addr × Obj)) (xe : Value → Shared → Prop), CxS T k (X.tr pn xe) W' sc → PSs (X.tr pn xe) bs (tSt T.S W' (evSs (T.cx k) body))) :
    PS X (.Try bs [.ExceptHandler (some (.Name n np)) (some en) [.Return (some (.Call (.Name fnn np2) [.Name en ep] [] cp)) rp] hp] [] [] pos) (tSt T.S W (evS (T.cx k) (.try_ body cs (.err f)))) := by
  have hi : sc.N[i]? = some en := by
    unfold varB at he
    simp only [Bool.and_eq_true, decide_eq_true_eq] at he
    exact he.1.1.1
  refine PS.imp (L2N.ps_try_as (i := i) (tb := fun W' => tSt T.S W' (evSs (T.cx k) body)) (ts := fun a cls dd => suT T k i f a cls dd) cx.hs cx.hf (by rw [cx.c.N]; exact cx.c.nd) (by rw [cx.c.N]; exact hi) (by show X.env.scope.names.lookup en = _; rw [cx.c.nm]; exact hel) (hd.names cx.c) cx.c.tk
    (fun W' pn xe tk po => hb W' pn xe (cx.tr tk po)) (fun ad oe cls dd pn hz hdt => su_err cx hf hg he hz hdt)) ?_
  rintro K σ H ⟨g, f0, h, R, Fr, out⟩
  refine ⟨g, f0, h, R, Fr, try_out cx.c hd out (fun c f1 h1 hc hx o σ' g' H' st r fr => ⟨true, hx, fun _ ad na => ?_, fun z => by cases z⟩) (fun c σ' H' hx w => ⟨false, hx, (fun z => by cases z), fun _ => w⟩)⟩
  dsimp only at o
  cases k with
  | zero => exact False.elim o
  | succ k =>
    have ek : (T.cx (k + 1)).errT = T.Pg.errT := rfl
    rw [ek] at o
    cases qe : T.Pg.errT f c with
    | none => rw [qe] at o; exact False.elim o
    | some d =>
      rw [qe] at o
      exact ⟨by omega, rfl, c, d, g', h1, rfl, qe, fun il => List.getElem?_set_self (by simpa using il), r, fun v g2 H2 s2 r2 w => o v g2 H2 (st.trans R r s2) r2 w⟩
/-- except X: return d -/
theorem st_tryRet (cx : CxS T k X W sc) {body : CSs} {bs : List Stmt} {cs : List Nat} {n : Str} {j u : Nat} {np cp rp hp : Pos} {d : D} {cn : Const} (hd : HdC sc cs n j) (hc : ckC d cn = true)
    (hb : ∀ (W' : WX) (pn : List (Addr × Obj)) (xe : Value → Shared → Prop), CxS T k (X.tr pn xe) W' sc → PSs (X.tr pn xe) bs (tSt T.S W' (evSs (T.cx k) body))) :
    PS X (.Try bs [.ExceptHandler (some (.Name n np)) none [.Return (some (.Constant cn u cp)) rp] hp] [] [] pos) (tSt T.S W (evS (T.cx k) (.try_ body cs (.ret d)))) := by
  refine PS.imp (L2N.ps_try_many (tb := fun W' => tSt T.S W' (evSs (T.cx k) body)) (l := [(.ref (T.S.ca j), fun _ _ _ => tRet (fun σ H Q => ∃ v, (∀ g, VD T.S g d v) ∧ Q v H))]) cx.hs cx.hf cx.c.tk
    (fun W' pn xe tk po => hb W' pn xe (cx.tr tk po)) (.cons (hd.names cx.c) (fun ad oe cls dd pn hz hdt => pss_one (ps_ret (pe_con hc))) .nil)) ?_
  rintro K σ H ⟨g, f0, h, R, Fr, out⟩
  refine ⟨g, f0, h, R, Fr, try_out cx.c hd out (fun c f1 h1 hc' hx o σ' g' H' st r fr => ⟨true, hx, fun _ ad na => ?_, fun z => by cases z⟩) (fun c σ' H' hx w => ⟨false, hx, (fun z => by cases z), fun _ => w⟩)⟩
  dsimp only at o
  obtain ⟨v, hv⟩ := con_vd (T := T) hc
  split at o
  · exact ⟨v, hv, o v g' H' st r (hv g')⟩
  · exact False.elim o
/-- except X: name = d -/
theorem st_tryAsg (cx : CxS T k X W sc) {body : CSs} {bs : List Stmt} {cs : List Nat} {n m : Str} {i j u : Nat} {np mp cp rp hp : Pos} {d : D} {cn : Const} (hd : HdC sc cs n j) (hc : ckC d cn = true) (hi : sc.N[i]? = some m) (hl : locB sc m = true)
    (hb : ∀ (W' : WX) (pn : List (Addr × Obj)) (xe : Value → Shared → Prop), CxS T k (X.tr pn xe) W' sc → PSs (X.tr pn xe) bs (tSt T.S W' (evSs (T.cx k) body))) :
    PS X (.Try bs [.ExceptHandler (some (.Name n np)) none [.Assign [.Name m mp] (.Constant cn u cp) rp] hp] [] [] pos) (tSt T.S W (evS (T.cx k) (.try_ body cs (.asg i d)))) := by
  obtain ⟨o1, o2⟩ := cx.c.oc m hl
  refine PS.imp (L2N.ps_try_many (tb := fun W' => tSt T.S W' (evSs (T.cx k) body)) (l := [(.ref (T.S.ca j), fun _ _ _ => tAsg (fun σ H Q => ∃ v, (∀ g, VD T.S g d v) ∧ Q v H) (gName i))]) cx.hs cx.hf cx.c.tk
    (fun W' pn xe tk po => hb W' pn xe (cx.tr tk po)) (.cons (hd.names cx.c) (fun ad oe cls dd pn hz hdt => pss_one (ps_set (X := X.suite ad ((ad, oe) :: pn)) (show X.N.Nodup by rw [cx.c.N]; exact cx.c.nd) (show X.N[i]? = some m by rw [cx.c.N]; exact hi) o1 (pe_con hc) rfl o2)) .nil)) ?_
  rintro K σ H ⟨g, f0, h, R, Fr, out⟩
  refine ⟨g, f0, h, R, Fr, try_out cx.c hd out (fun c f1 h1 hc' hx o σ' g' H' st r fr => ⟨true, hx, fun _ ad na => ?_, fun z => by cases z⟩) (fun c σ' H' hx w => ⟨false, hx, (fun z => by cases z), fun _ => w⟩)⟩
  dsimp only at o
  obtain ⟨v, hv⟩ := con_vd (T := T) hc
  split at o
  · exact ⟨v, hv, o _ g' H' st r (fr_set fr (hv g'))⟩
  · exact False.elim o
end

/-! ### the checks -/
def lcOk (sc : Sc) (t : Tg) (tg v : Expr) : Bool := match v with
  | .ListComp _ _ scope p => match t, tg with
    | .nm i, .Name n np => decide (sc.nm.lookup n = some .local) && (np.line == p.line) && !(scope.names.any fun (m, k) => m == n && (k == .local || k == .cell))
    | _, _ => false
  | _ => false
def ckSu (sc : Sc) (cs : List Nat) (su : Su) (hs : List ExceptHandler) : Bool := match su, hs with
  | .err f, [.ExceptHandler (some (.Name n _)) (some en) [.Return (some (.Call (.Name fnn _) [.Name en2 _] [] _)) _] _] =>
    glB sc n && decide (sc.sub[sc.xs.idxOf n]? = some cs) && decide (sc.xs[sc.xs.idxOf n]? = some n) && decide (en = en2) && decide (sc.fs[f]? = some fnn) && glB sc fnn && varB sc (sc.N.idxOf en) en && decide (sc.nm.lookup en = some .local)
  | .ret d, [.ExceptHandler (some (.Name n _)) none [.Return (some (.Constant cn _ _)) _] _] =>
    glB sc n && decide (sc.sub[sc.xs.idxOf n]? = some cs) && decide (sc.xs[sc.xs.idxOf n]? = some n) && ckC d cn
  | .asg i d, [.ExceptHandler (some (.Name n _)) none [.Assign [.Name m _] (.Constant cn _ _) _] _] =>
    glB sc n && decide (sc.sub[sc.xs.idxOf n]? = some cs) && decide (sc.xs[sc.xs.idxOf n]? = some n) && ckC d cn && decide (sc.N[i]? = some m) && locB sc m
  | _, _ => false
mutual
def ckS (sc : Sc) : CS → Stmt → Bool
  | .asg t e, .Assign [tg] v _ => ckTg sc t tg && ckE sc e v && ((notLc v && noSwap tg v) || (lcOk sc t tg v && (match e with | .fr _ => true | .nw _ => true | _ => false)))
  | .par i j a b, .Assign [.Tuple [.Name x px, .Name y py] _ _] (.Tuple [v, w] _ _) _ => decide (sc.N[i]? = some x) && decide (sc.N[j]? = some y) && parC sc x y px py v w && ckL sc (.cons a (.cons b .nil)) [v, w]
  | .setix o i e, .Assign [.Subscript ox ix _] v _ => notLc v && !isSlice ix && ckE sc o ox && ckE sc i ix && ckE sc e v
  | .aug i o e, .AugAssign (.Name x _) op v _ => decide (sc.N[i]? = some x) && locB sc x && decide (bo o = op) && ckE sc e v
  | .expr e, .Expr v _ => notLc v && ckE sc e v
  | .ret e, .Return (some v) _ => ckE sc e v
  | .retn, .Return none _ => true
  | .ite t a b, .If c x y _ => ckT sc t c && ckSs sc a x && ckSs sc b y
  | .for_ t s b, .For tg it body [] _ => ckTg sc t tg && ckSrc sc (isT tg) s it && ckSs sc b body
  | .while_ t b, .While c body [] _ => ckT sc t c && ckSs sc b body
  | .raise c _, .Raise (some (.Call (.Name x _) [.Constant (.str _) _ _] [] _)) none _ => decide (sc.xs[c]? = some x) && sc.rz.contains c && glB sc x
  | .pass, .Pass _ => true
  | .brk, .Break _ => true
  | .cont, .Continue _ => true
  | .try_ b cs su, .Try body hs [] [] _ => ckSs sc b body && ckSu sc cs su hs
  | _, _ => false
def ckSs (sc : Sc) : CSs → List Stmt → Bool
  | .nil, [] => true
  | .cons s ss, x :: xs => ckS sc s x && ckSs sc ss xs
  | .fz _ ss, xs => ckSs sc ss xs
  | _, _ => false
end
end So
end
section
set_option Elab.async false
set_option autoImplicit false
set_option linter.all false
/-! S18: all statements at once. -/
namespace So
open PySem PySem.Spec PyProof.Rows L2
open Ev (D Ob Mem R RS RL RB Bop Cop Bi Mt CE CEs CT CTs FE Src CO Tg Tgs CS CSs Su evE evL evT evF evO evAnd evOr evTA evTO evSrc evS evSs)
section
variable {T : Tx} {k : Nat} {X : Cx} {W : WX} {sc : Sc} {x y z tg it : Expr} {a b c : CE} {pos p1 p2 p3 : Pos} {es : CEs} {vs : List Expr} {t : Tg}
theorem asg_readN {C : Ev.Cx} {tx : TE} {i : Nat} (hx : ∀ σ H Q, tE T.S W (evE C a) σ H Q → tx σ H Q) {K : Ends} {σ : L2.St} {H : L2.Hp} (hq : tSt T.S W (evS C (.asg (.nm i) a)) K σ H) : tAsg tx (gName i) K σ H := by
  obtain ⟨g, f, h, R, Fr, out⟩ := hq
  rw [Ev.evS] at out
  refine hx σ H _ (tE_bind R Fr ?_)
  cases qa : evE C a f h with
  | ok d h1 =>
    rw [qa] at out
    intro v g1 H1 s1 R1 V1 F1
    dsimp only at out
    cases qt : Ev.asgT (.nm i) d f with
    | none => rw [qt] at out; exact False.elim out
    | some f' =>
      rw [qt] at out
      exact out _ g1 H1 s1 R1 (set_frR qt ⟨v, V1, rfl⟩ F1)
  | exc c1 x1 h1 => rw [qa] at out; exact okW_of Fr out
  | stuck => rw [qa] at out; exact False.elim out
/-- name = [..] -/
theorem st_setLc (cx : Cxt T k X W sc) {f : FE} (h : ckF sc f x = true) (hl : lcOk sc t tg x = true) (hg : ckTg sc t tg = true) {tr : TE} (htr : ∀ σ H Q, tr σ H Q → tF T.S W (evF (T.cx k) f) σ H Q) :
    ∃ i, t = .nm i ∧ PS X (.Assign [tg] x pos) (tAsg tr (gName i)) := by
  unfold lcOk at hl
  split at hl
  · rename_i elt gens scope p
    split at hl
    · rename_i i n np
      simp only [Bool.and_eq_true, decide_eq_true_eq, Bool.not_eq_true'] at hl
      obtain ⟨⟨l1, l2⟩, l3⟩ := hl
      simp only [ckTg, Bool.and_eq_true, decide_eq_true_eq] at hg
      refine ⟨i, rfl, ?_⟩
      cases f with
      | lc a t s c =>
        obtain ⟨y, tg, it, ifs, scope', p', e, h1, h2, h3, h4, h5, h6⟩ := iv_lc h
        cases e
        refine (nd_lc cx h1 h2 h3 (sSrcF (T := T) (k := k) s h4) (sSrc s cx h4) (fun X' c' => sE a c' h5) (fun X' c' => ?_)).2 hg.1 l1 l2 l3 htr
        rcases h6 with ⟨rfl, rfl⟩ | ⟨i, rfl, h7⟩
        · exact ⟨fun pins st σ H Q I ⟨g, f, m, R, F0, o⟩ => pts_nil.run pins st σ H Q I (by rw [Ev.evT] at o; exact o g H (Step.refl R) R)⟩
        · exact pts_one (sT c c' h7)
      | lst es =>
        obtain ⟨_, _, e, _⟩ := iv_lst h
        cases e
      | sorted a =>
        obtain ⟨_, _, _, _, e, _⟩ := iv_sorted h
        cases e
      | sortset a =>
        obtain ⟨_, _, _, _, _, e, _⟩ := iv_sortset h
        cases e
      | sortdict a t s c =>
        obtain ⟨_, _, _, _, _, _, _, _, _, _, e, _⟩ := iv_sortdict h
        cases e
      | list_ a =>
        obtain ⟨_, _, _, _, e, _⟩ := iv_list h
        cases e
      | rev a =>
        obtain ⟨_, _, _, _, _, _, e, _⟩ := iv_rev h
        cases e
      | rep a b =>
        obtain ⟨_, _, _, e, _⟩ := iv_rep h
        cases e
    · cases hl
  · cases hl

theorem sv_asg {e : CE} {st : Stmt} (h : ckS sc (.asg t e) st = true) : ∃ tg v p, st = .Assign [tg] v p ∧ ckTg sc t tg = true ∧ ckE sc e v = true ∧ ((notLc v = true ∧ noSwap tg v = true) ∨ (lcOk sc t tg v = true ∧ ((∃ f, e = .fr f) ∨ ∃ f, e = .nw f))) := by
  unfold ckS at h
  split at h <;> first | contradiction | skip
  rename_i heq
  cases heq
  simp only [Bool.and_eq_true, Bool.or_eq_true] at h
  obtain ⟨⟨h1, h2⟩, h3⟩ := h
  refine ⟨_, _, _, rfl, h1, h2, h3.imp id fun q => ⟨q.1, ?_⟩⟩
  have := q.2
  split at this
  · exact .inl ⟨_, rfl⟩
  · exact .inr ⟨_, rfl⟩
  · cases this
theorem sv_par {i j : Nat} {st : Stmt} (h : ckS sc (.par i j a b) st = true) : ∃ x px y py kt pt v w k2 pt2 p, st = .Assign [.Tuple [.Name x px, .Name y py] kt pt] (.Tuple [v, w] k2 pt2) p ∧ sc.N[i]? = some x ∧ sc.N[j]? = some y ∧ parC sc x y px py v w = true ∧ ckL sc (.cons a (.cons b .nil)) [v, w] = true := by
  unfold ckS at h
  split at h <;> first | contradiction | (rename_i heq; cases heq; simp only [Bool.and_eq_true, decide_eq_true_eq] at h; exact ⟨_, _, _, _, _, _, _, _, _, _, _, rfl, h.1.1.1, h.1.1.2, h.1.2, h.2⟩)
theorem sv_setix {st : Stmt} (h : ckS sc (.setix a b c) st = true) : ∃ ox ix p1 v p, st = .Assign [.Subscript ox ix p1] v p ∧ notLc v = true ∧ isSlice ix = false ∧ ckE sc a ox = true ∧ ckE sc b ix = true ∧ ckE sc c v = true := by
  unfold ckS at h
  split at h <;> first | contradiction | (rename_i heq; cases heq; simp only [Bool.and_eq_true, Bool.not_eq_true'] at h; obtain ⟨⟨⟨⟨h1, h2⟩, h3⟩, h4⟩, h5⟩ := h; exact ⟨_, _, _, _, _, rfl, h1, h2, h3, h4, h5⟩)
theorem sv_aug {i : Nat} {o : Bop} {st : Stmt} (h : ckS sc (.aug i o a) st = true) : ∃ x p1 v p, st = .AugAssign (.Name x p1) (bo o) v p ∧ sc.N[i]? = some x ∧ locB sc x = true ∧ ckE sc a v = true := by
  unfold ckS at h
  split at h <;> first | contradiction | (rename_i heq; cases heq; simp only [Bool.and_eq_true, decide_eq_true_eq] at h; obtain ⟨⟨⟨h1, h2⟩, h3⟩, h4⟩ := h; subst h3; exact ⟨_, _, _, _, rfl, h1, h2, h4⟩)
theorem sv_expr {st : Stmt} (h : ckS sc (.expr a) st = true) : ∃ v p, st = .Expr v p ∧ notLc v = true ∧ ckE sc a v = true := by
  unfold ckS at h
  split at h <;> first | contradiction | (rename_i heq; cases heq; simp only [Bool.and_eq_true] at h; exact ⟨_, _, rfl, h.1, h.2⟩)
theorem sv_ret {st : Stmt} (h : ckS sc (.ret a) st = true) : ∃ v p, st = .Return (some v) p ∧ ckE sc a v = true := by
  unfold ckS at h
  split at h <;> first | contradiction | (rename_i heq; cases heq; exact ⟨_, _, rfl, h⟩)
theorem sv_retn {st : Stmt} (h : ckS sc .retn st = true) : ∃ p, st = .Return none p := by
  unfold ckS at h
  split at h <;> first | contradiction | (rename_i heq; cases heq; exact ⟨_, rfl⟩) | exact ⟨_, rfl⟩
theorem sv_pass {st : Stmt} (h : ckS sc .pass st = true) : ∃ p, st = .Pass p := by
  unfold ckS at h
  split at h <;> first | contradiction | (rename_i heq; cases heq; exact ⟨_, rfl⟩) | exact ⟨_, rfl⟩
theorem sv_brk {st : Stmt} (h : ckS sc .brk st = true) : ∃ p, st = .Break p := by
  unfold ckS at h
  split at h <;> first | contradiction | (rename_i heq; cases heq; exact ⟨_, rfl⟩) | exact ⟨_, rfl⟩
theorem sv_cont {st : Stmt} (h : ckS sc .cont st = true) : ∃ p, st = .Continue p := by
  unfold ckS at h
  split at h <;> first | contradiction | (rename_i heq; cases heq; exact ⟨_, rfl⟩) | exact ⟨_, rfl⟩
theorem sv_ite {ct : CT} {sa sb : CSs} {st : Stmt} (h : ckS sc (.ite ct sa sb) st = true) : ∃ c x y p, st = .If c x y p ∧ ckT sc ct c = true ∧ ckSs sc sa x = true ∧ ckSs sc sb y = true := by
  unfold ckS at h
  split at h <;> first | contradiction | (rename_i heq; cases heq; simp only [Bool.and_eq_true] at h; exact ⟨_, _, _, _, rfl, h.1.1, h.1.2, h.2⟩)
theorem sv_for {s : Src} {sa : CSs} {st : Stmt} (h : ckS sc (.for_ t s sa) st = true) : ∃ tg it body p, st = .For tg it body [] p ∧ ckTg sc t tg = true ∧ ckSrc sc (isT tg) s it = true ∧ ckSs sc sa body = true := by
  unfold ckS at h
  split at h <;> first | contradiction | (rename_i heq; cases heq; simp only [Bool.and_eq_true] at h; exact ⟨_, _, _, _, rfl, h.1.1, h.1.2, h.2⟩)
theorem sv_while {ct : CT} {sa : CSs} {st : Stmt} (h : ckS sc (.while_ ct sa) st = true) : ∃ c body p, st = .While c body [] p ∧ ckT sc ct c = true ∧ ckSs sc sa body = true := by
  unfold ckS at h
  split at h <;> first | contradiction | (rename_i heq; cases heq; simp only [Bool.and_eq_true] at h; exact ⟨_, _, _, rfl, h.1, h.2⟩)
theorem sv_raise {cc : Nat} {m : List Nat} {st : Stmt} (h : ckS sc (.raise cc m) st = true) : ∃ x np s j p2 p1 p, st = .Raise (some (.Call (.Name x np) [.Constant (.str s) j p2] [] p1)) none p ∧ sc.xs[cc]? = some x ∧ sc.rz.contains cc = true ∧ glB sc x = true := by
  unfold ckS at h
  split at h <;> first | contradiction | (rename_i heq; cases heq; simp only [Bool.and_eq_true, decide_eq_true_eq] at h; exact ⟨_, _, _, _, _, _, _, rfl, h.1.1, h.1.2, h.2⟩)
theorem sv_try {sa : CSs} {cs : List Nat} {su : Su} {st : Stmt} (h : ckS sc (.try_ sa cs su) st = true) : ∃ body hs p, st = .Try body hs [] [] p ∧ ckSs sc sa body = true ∧ ckSu sc cs su hs = true := by
  unfold ckS at h
  split at h <;> first | contradiction | (rename_i heq; cases heq; simp only [Bool.and_eq_true] at h; exact ⟨_, _, _, rfl, h.1, h.2⟩)
theorem st_try (cx : CxS T k X W sc) {body : CSs} {bs : List Stmt} {cs : List Nat} {su : Su} {hs : List ExceptHandler} (h : ckSu sc cs su hs = true)
    (hb : ∀ (W' : WX) (pn : List (Addr × Obj)) (xe : Value → Shared → Prop), CxS T k (X.tr pn xe) W' sc → PSs (X.tr pn xe) bs (tSt T.S W' (evSs (T.cx k) body))) : PS X (.Try bs hs [] [] pos) (tSt T.S W (evS (T.cx k) (.try_ body cs su))) := by
  unfold ckSu at h
  split at h
  · simp only [Bool.and_eq_true, decide_eq_true_eq] at h
    obtain ⟨⟨⟨⟨⟨⟨⟨h1, h2⟩, h3⟩, h4⟩, h5⟩, h6⟩, h7⟩, h8⟩ := h
    subst h4
    exact st_tryErr cx ⟨h1, h3, h2⟩ h5 h6 h7 h8 hb
  · simp only [Bool.and_eq_true, decide_eq_true_eq] at h
    obtain ⟨⟨⟨h1, h2⟩, h3⟩, h4⟩ := h
    exact st_tryRet cx ⟨h1, h3, h2⟩ h4 hb
  · simp only [Bool.and_eq_true, decide_eq_true_eq] at h
    obtain ⟨⟨⟨⟨⟨h1, h2⟩, h3⟩, h4⟩, h5⟩, h6⟩ := h
    exact st_tryAsg cx ⟨h1, h3, h2⟩ h4 h5 h6 hb
  · cases h
end
section
variable {T : Tx} {k : Nat}
mutual
theorem sS : ∀ (s : CS) {X : Cx} {W : WX} {sc : Sc} {st : Stmt}, CxS T k X W sc → ckS sc s st = true → PS X st (tSt T.S W (evS (T.cx k) s))
  | .asg t e, X, W, sc, st, cx, h => by
    obtain ⟨tg, v, p, rfl, h1, h2, h3⟩ := sv_asg h
    rcases h3 with ⟨h3, h4⟩ | ⟨h3, ⟨f, rfl⟩ | ⟨f, rfl⟩⟩
    · exact st_asg cx.c h3 h4 (sE e cx.c h2) h1
    · obtain ⟨i, rfl, q⟩ := st_setLc (pos := p) cx.c (iv_fr h2) h3 h1 (tr := tE T.S W (evE (T.cx k) (.fr f))) fun _ _ _ => fr_read
      exact PS.imp q fun K σ H hq => asg_readN (fun _ _ _ h => h) hq
    · obtain ⟨i, rfl, q⟩ := st_setLc (pos := p) cx.c (iv_nw h2) h3 h1 (tr := tE T.S W (evE (T.cx k) (.nw f))) fun _ _ _ => nw_read
      exact PS.imp q fun K σ H hq => asg_readN (fun _ _ _ h => h) hq
  | .par i j a b, X, W, sc, st, cx, h => by
    obtain ⟨x, px, y, py, kt, pt, v, w, k2, pt2, p, rfl, h1, h2, h3, h4⟩ := sv_par h
    exact st_par cx.c h1 h2 h3 (sL _ cx.c h4)
  | .setix o i e, X, W, sc, st, cx, h => by
    obtain ⟨ox, ix, p1, v, p, rfl, h1, h2, h3, h4, h5⟩ := sv_setix h
    exact st_setix h1 h2 (sE e cx.c h5) (sE o cx.c h3) (sE i cx.c h4)
  | .aug i o e, X, W, sc, st, cx, h => by
    obtain ⟨x, p1, v, p, rfl, h1, h2, h3⟩ := sv_aug h
    exact st_aug cx.c h1 h2 (sE e cx.c h3)
  | .expr e, X, W, sc, st, cx, h => by
    obtain ⟨v, p, rfl, h1, h2⟩ := sv_expr h
    exact st_expr h1 (sE e cx.c h2)
  | .ret e, X, W, sc, st, cx, h => by
    obtain ⟨v, p, rfl, h1⟩ := sv_ret h
    exact st_ret (sE e cx.c h1)
  | .retn, X, W, sc, st, cx, h => by
    obtain ⟨p, rfl⟩ := sv_retn h
    exact st_retn
  | .ite t a b, X, W, sc, st, cx, h => by
    obtain ⟨c, x, y, p, rfl, h1, h2, h3⟩ := sv_ite h
    exact st_if (sT t cx.c h1) (sSs a cx h2) (sSs b cx h3)
  | .for_ t s b, X, W, sc, st, cx, h => by
    obtain ⟨tg, it, body, p, rfl, h1, h2, h3⟩ := sv_for h
    exact st_for cx.c h1 (sSrcF (T := T) (k := k) s h2) (sSrc s cx.c h2) (sSs b cx h3)
  | .while_ t b, X, W, sc, st, cx, h => by
    obtain ⟨c, body, p, rfl, h1, h2⟩ := sv_while h
    exact st_while cx.c (sT t cx.c h1) (sSs b cx h2)
  | .raise c m, X, W, sc, st, cx, h => by
    obtain ⟨x, np, s, j, p2, p1, p, rfl, h1, h2, h3⟩ := sv_raise h
    exact st_raise cx.c h1 h2 h3
  | .pass, X, W, sc, st, cx, h => by
    obtain ⟨p, rfl⟩ := sv_pass h
    exact st_pass
  | .brk, X, W, sc, st, cx, h => by
    obtain ⟨p, rfl⟩ := sv_brk h
    exact st_brk
  | .cont, X, W, sc, st, cx, h => by
    obtain ⟨p, rfl⟩ := sv_cont h
    exact st_cont
  | .try_ b cs su, X, W, sc, st, cx, h => by
    obtain ⟨body, hs, p, rfl, h1, h2⟩ := sv_try h
    exact st_try cx h2 fun W' pn xe cx' => sSs b cx' h1
theorem sSs : ∀ (ss : CSs) {X : Cx} {W : WX} {sc : Sc} {sts : List Stmt}, CxS T k X W sc → ckSs sc ss sts = true → PSs X sts (tSt T.S W (evSs (T.cx k) ss))
  | .nil, X, W, sc, sts, cx, h => by
    cases sts with
    | nil => exact st_nil
    | cons x xs => simp [ckSs] at h
  | .cons s ss, X, W, sc, sts, cx, h => by
    cases sts with
    | nil => simp [ckSs] at h
    | cons x xs =>
      rw [ckSs, Bool.and_eq_true] at h
      exact st_cons (sS s cx h.1) (sSs ss cx h.2)
  | .fz i ss, X, W, sc, sts, cx, h => by
    rw [ckSs] at h
    exact st_fz (sSs ss cx h)
end
end
end So
end
section
set_option Elab.async false
set_option autoImplicit false
set_option linter.all false
/-! S19: defs. -/
namespace So
open PySem PySem.Spec PyProof.Rows L2
open Ev (D Ob Mem R RS RL RB Bop Cop Bi Mt CE CEs CT CTs FE Src CO Tg Tgs CS CSs Su evE evL evT evF evO evAnd evOr evTA evTO evSrc evS evSs)
section
variable {S : Sx} {g g1 : G} {h h1 : Mem} {H H1 : L2.Hp} {W : WX} {Q : VK}
theorem Step.take (r0 : Rel S g h H) (st : Step g h H g1 h1 H1) (E : Ext g ⟨g1.F, g.μ⟩) : Step g h H ⟨g1.F, g.μ⟩ (h1.take h.length) H1 := by
  refine ⟨E, fun n hn ⟨o, e, k⟩ => st.dead n hn ⟨o, ?_, k⟩, fun n a l e => ?_, st.keep, st.there, st.frz⟩
  · rw [List.getElem?_take, if_pos hn] at e
    exact e
  · have := (List.getElem?_eq_some_iff.mp (show g.μ[n]? = some a from e)).1
    rw [r0.len] at this
    omega
theorem fin_out {gc : Bool} {d : D} (r0 : Rel S g h H) (out : OutE S W [] g h H Q (Ev.fin gc h h1 d)) {v : V} (st : Step g h H g1 h1 H1) (r : Rel S g1 h1 H1) (w : VD S g1 d v) : Q v H1 := by
  unfold Ev.fin at out
  cases gc with
  | false =>
    rw [if_neg (by decide)] at out
    exact out v g1 H1 st r w
  | true =>
    rw [if_pos rfl] at out
    split at out
    · rename_i hg
      obtain ⟨r2, E, w2⟩ := r0.back r st.ext hg w
      exact out v _ H1 (st.take r0 E) r2 w2
    · exact False.elim out
theorem finX_out {gc : Bool} {c : Nat} {d : D} (r0 : Rel S g h H) (out : OutE S W [] g h H Q (Ev.finX gc h h1 c d)) : d = .non ∧ ∀ g1 H1, Step g h H g1 h1 H1 → Rel S g1 h1 H1 → W (.ref (S.ca c)) none [] H1 := by
  unfold Ev.finX at out
  cases gc with
  | false =>
    rw [if_neg (by decide)] at out
    exact out
  | true =>
    rw [if_pos rfl] at out
    split at out
    · rename_i hg
      refine ⟨out.1, fun g1 H1 st r => ?_⟩
      have := out.1
      subst this
      obtain ⟨r2, E, w2⟩ := r0.back (v := .non) r st.ext hg rfl
      exact out.2 _ H1 (st.take r0 E) r2
    · exact False.elim out
theorem start_fr : ∀ {ds : List D} {vs : List V} {n m : Nat}, VDs S g ds vs → FrR S g (ds.map some ++ List.replicate n none) (vs.map some ++ List.replicate n none) := fun {ds vs n m} w => by
  have hl := VDs.length w
  refine ⟨by simp [hl], fun i d e => ?_⟩
  by_cases hi : i < ds.length
  · rw [List.getElem?_append_left (by simpa using hi), List.getElem?_map] at e
    cases q : ds[i]? with
    | none => rw [q] at e; cases e
    | some d' =>
      rw [q] at e
      cases e
      obtain ⟨v, e1, e2⟩ := VDs.get w q
      exact ⟨v, by rw [List.getElem?_append_left (by simpa [← hl] using hi), List.getElem?_map, e1]; rfl, e2⟩
  · rw [List.getElem?_append_right (by simpa using hi), List.getElem?_replicate] at e
    split at e <;> cases e
end

/-- a def of the program is the core text's -/
structure DefOk (T : Tx) (f : Nat) (fd : Ev.Def) (name qual : Str) (params : Arguments) (body : List Stmt) (scope : Scope) (dV kV doc pm cdv ct oc : Value) (an od : Option Addr) (osl : Array (Option Value)) (N ps : List Str) : Prop where
  lk : T.S.K.lookup (T.S.fa f) = some ⟨oc, od, .func (PySem.W.fnOf name qual params body scope dV kV doc pm an cdv ct), osl⟩
  code : PySem.W.codeIn T.S.K cdv qual = true
  sc : FnScope N ps scope
  bd : Binds T.S.K (PySem.W.fnOf name qual params body scope dV kV doc pm an cdv ct) ps []
  ns : N.length = fd.ns
  np : ps.length = fd.np
  ck : ckSs ⟨N, scope.names, scope.names, T.gl, T.fs, T.xs, T.sub, T.rz⟩ fd.body body = true
def DefIn (T : Tx) (f : Nat) (fd : Ev.Def) : Prop := ∃ name qual params body scope dV kV doc pm cdv ct oc an od osl N ps, DefOk T f fd name qual params body scope dV kV doc pm cdv ct oc an od osl N ps

section
variable {T : Tx} {k : Nat}
/-- the context of a def's body -/
theorem def_cx (ok : TOk T k) {N ps : List Str} {qual : Str} {scope : Scope} (fs : FnScope N ps scope) {fa : Addr} {cdv : Value} {A : Around} {outer : List Env} {s : Shared} {H : L2.Hp} {E : XK} (hr : Room (k + 1) A) (hg : A.guards = some []) :
    CxS T k (cxOf (L2N.CX T.P T.w) T.P T.w T.S.K T.mg T.base N qual scope fa cdv A outer s H E) (fun c d _ H => E c d H) ⟨N, scope.names, scope.names, T.gl, T.fs, T.xs, T.sub, T.rz⟩ := by
  refine ⟨⟨ok, rfl, rfl, rfl, rfl, rfl, rfl, fs.nd, rfl, fs.kind, fun x hx => ?_, rfl, rfl, rfl, rfl, rfl, rfl, L2N.takes_of rfl rfl rfl rfl, passes_of rfl, hg, hr.deeper _⟩, rfl, rfl⟩
  unfold locB at hx
  dsimp only at hx
  split at hx <;> rename_i q
  · exact ⟨.inl q, .inl rfl⟩
  · exact ⟨.inr q, .inl rfl⟩
  · cases hx
theorem run_zero (f : Nat) : RunOk T 0 f := by
  intro A outer s H us vs g h ds Q E hr hg e0 rv R w out
  rw [Ev.callF] at out
  exact False.elim out
theorem run_succ (ok : TOk T k) {f : Nat} (DI : ∀ fd, T.Pg.defs[f]? = some fd → fd.np ≤ fd.ns → DefIn T f fd) : RunOk T (k + 1) f := by
  intro A outer s H us vs g h ds Q E hr hg e0 rv R w out
  rw [Ev.callF] at out
  cases qd : T.Pg.defs[f]? with
  | none => rw [qd] at out; exact False.elim out
  | some fd =>
    rw [qd] at out
    dsimp only at out
    split at out
    · rename_i hlen
      obtain ⟨name, qual, params, body, scope, dV, kV, doc, pm, cdv, ct, oc, an, od, osl, N, ps, di⟩ := DI fd qd hlen.2
      have hl : vs.length = ps.length := by rw [← VDs.length w, hlen.1, di.np]
      have hlu : us.length = ps.length := by rw [← rv.length]; exact hl
      have inH : T.S.K.In s.heap := e0.mod.kin.keeps fun b o e => (e0.bs b o e).1
      have nolim : s.heap.NoLimit := e0.mod.nolimit.keeps fun b o e => (e0.bs b o e).1
      have bind := di.bd s us inH (by rw [List.append_nil]; exact hlu)
      rw [List.append_nil] at bind
      have kinds : ∀ y ∈ ps.zip us, scope.names.lookup y.1 = some .local ∨ (scope.names.lookup y.1 = some .cell ∧ ((cellsFrom (s.heap.objs.size + 1) scope.names []).lookup y.1).isSome = true) := by
        rintro ⟨n, v⟩ hy
        refine (di.sc.par n (List.of_mem_zip hy).1).imp id fun q => ⟨q, ?_⟩
        exact PySem.W.cellsFrom_some _ _ _ (.inl q)
      refine codeAny_call_function hr.depth (inH _ _ di.lk) rfl di.sc.co di.sc.gen rfl (PySem.W.codeRec_of inH di.code) (bind _ _ _ _ ?_)
      refine wpAny_newFunctionEnv_cells di.sc.kind kinds fun env he s1 xs => ?_
      subst he
      refine ⟨nolim.keeps xs.toInCall.keep, codeAny_func ?_⟩
      have cx := def_cx (qual := qual) (fa := T.S.fa f) (cdv := cdv) (outer := outer) (s := s) (H := H) (E := E) ok di.sc hr hg
      have body := sSs fd.body cx di.ck
      have I := inv_start (CX := L2N.CX T.P T.w) (E := E) di.sc hr.hd e0 hl rv xs
      have st0 : FrR T.S g (Ev.startF fd.ns ds) (L2.start N vs) := by
        unfold Ev.startF L2.start
        rw [di.ns, ← VDs.length w]
        exact start_fr (m := 0) w
      have hq : tSt T.S (fun c d _ H => E c d H) (evSs (T.cx k) fd.body) { nx := fun _ H' => Q .non H', rt := Q } (L2.start N vs) H := by
        refine ⟨g, _, h, R, st0, ?_⟩
        have : evSs (T.Pg.cx k (Ev.callF T.Pg k)) fd.body (Ev.startF fd.ns ds) h = evSs (T.cx k) fd.body (Ev.startF fd.ns ds) h := rfl
        rw [this] at out
        cases q : evSs (T.cx k) fd.body (Ev.startF fd.ns ds) h with
        | nx f1 h1 =>
          rw [q] at out
          exact fun σ g1 H1 st r fr => fin_out R out st r rfl
        | rt d h1 =>
          rw [q] at out
          exact fun v g1 H1 st r x => fin_out R out st r x
        | exc c x f1 h1 =>
          rw [q] at out
          obtain ⟨e1, e2⟩ := finX_out R out
          exact ⟨e1, fun σ g1 H1 st r fr => e2 g1 H1 st r⟩
        | bk f1 h1 => rw [q] at out; exact False.elim out
        | ct f1 h1 => rw [q] at out; exact False.elim out
        | stuck => rw [q] at out; exact False.elim out
      refine wpAny_mono (body.run [] s1 _ H _ I hq) (fun fl s2 hs => ?_) fun e s2 hs => hs
      match fl, hs with
      | .ret u, ⟨v, σ2, H2, J, r2, q2⟩ => exact ⟨v, H2, J.os, J.bare, J.base, J.hok, r2, q2⟩
      | .next, ⟨σ2, H2, J, q2⟩ => exact ⟨.non, H2, J.os, J.bare, J.base, J.hok, rfl, q2⟩
      | .brk, ⟨_, _, _, q2⟩ => exact False.elim q2
      | .cont, ⟨_, _, _, q2⟩ => exact False.elim q2
    · exact False.elim out
/-- what is fixed of a text -/
structure TFix (T : Tx) : Prop where
  glob : ∀ (i : Nat) x d, T.gl[i]? = some x → T.Pg.glob[i]? = some d → ∃ u v, T.mg x = some u ∧ RelV v u ∧ ∀ g, VD T.S g d v
  defs : ∀ (f : Nat) x, T.fs[f]? = some x → T.mg x = some (.ref (T.S.fa f)) ∧ PySem.W.keepIn T.S.K (.ref (T.S.fa f)) = true
  kp : ∀ f : Nat, PySem.W.keepIn T.S.K (.ref (T.S.fa f)) = true
  blt : ∀ x ∈ used, T.mg x = none
  nx : T.Pg.nx = T.xs.length
  rz : ∀ c ∈ T.rz, ∀ x, T.xs[c]? = some x → RzOk T c x
  xn : ∀ (j : Nat) x, T.xs[j]? = some x → T.mg x = some (.ref (T.S.ca j))
  exm : ∀ (j c : Nat) cs, T.sub[j]? = some cs → c < T.xs.length → PySem.W.exmOne T.S.K (.ref (T.S.ca c)) (.ref (T.S.ca j)) = some (cs.contains c)
  sbl : ∀ (j c : Nat) cs, T.sub[j]? = some cs → cs.contains c = true → c < T.xs.length
  err : ErrOk T
  di : ∀ f fd, T.Pg.defs[f]? = some fd → fd.np ≤ fd.ns → DefIn T f fd
theorem TFix.ok (F : TFix T) : ∀ k, TOk T k
  | 0 => ⟨F.glob, F.defs, F.kp, F.blt, fun f => run_zero f, F.nx, F.rz, F.xn, F.exm, F.sbl, F.err⟩
  | k + 1 => ⟨F.glob, F.defs, F.kp, F.blt, fun f => run_succ (F.ok k) fun fd h h2 => F.di f fd h h2, F.nx, F.rz, F.xn, F.exm, F.sbl, F.err⟩
end
end So
end
section
set_option Elab.async false
set_option autoImplicit false
set_option linter.all false
/-! S20: the law's call at the heap behind the top; what the top leaves, told by one Boolean. -/
namespace So
open PySem PySem.Spec PyProof.Rows L2
open Ev (D Ob Mem)

/-- the script is tracked as known, or it stands in the written part -/
def scrH (a : Addr) (o : Obj) (xs : List V) : L2.Hp := fun b => if b = a then some (.frz o (.lst xs)) else none
/-- what the call of law promises, from what is promised over every base -/
theorem script_run {P : Program} {w : World} {K : PySem.W.Frag} {mg mb : Str → Option Value} {fa a : Addr} {s1 : Shared} {vs : List Value} {ns : List Int}
    (kin : K.In s1.heap) (gl : s1.heap.Ns mainGlobals mg) (bl : s1.heap.Ns builtinsNs mb) (bb : ∀ x : Str, x ≠ "__name__" → mb x = bootBuiltins x) (nl : s1.heap.NoLimit) (gens : s1.gens = #[])
    (ho : s1.heap.get? a = some { cls := .type "list", data := .seq vs.toArray }) (hi : IntsAre vs ns) (hn : ns.length ≤ sizeLine)
    (main : ∀ (base : Heap) (H : L2.Hp), K.In base → base.Ns mainGlobals mg → Env0 P w K mg base callerA [] s1 H → SqL K H a (ns.map V.int) →
      codeAny (model P w) callerA (.call (.ref fa) ⟨[.ref a], []⟩) (CR (L2N.CX P w) [] P w H s1 (fun v _ => v = .bl true) fun _ _ _ => False) s1) :
    codeAny (model P w) callerA (.call (.ref fa) ⟨[.ref a], []⟩) (fun r s2 => r = .ok (.ret (.bool true)) ∧ OldK s1.heap s2.heap ∧ s2.os = s1.os ∧ AllBare s2.gens) s1 := by
  have vals := vals_ints hi
  have len := hi.length
  have key : ∀ H : L2.Hp, (∀ b, H b = none ∨ (b = a ∧ ∃ o xs, H b = some (.frz o (.lst xs)))) → SqL K H a (ns.map V.int) → HOk P w H s1.heap → (H a ≠ none → K.lookup a = none) →
      codeAny (model P w) callerA (.call (.ref fa) ⟨[.ref a], []⟩) (fun r s2 => r = .ok (.ret (.bool true)) ∧ OldK s1.heap s2.heap ∧ s2.os = s1.os ∧ AllBare s2.gens) s1 := by
    intro H only sq ok hK
    have free : ∀ {b : Addr} {o : Obj}, s1.heap.get? b = some o → (∀ xs n, o.data ≠ .seq xs n) → H b = none := fun {b o} e nd => by
      rcases only b with z | ⟨z, _⟩
      · exact z
      · subst z
        rw [ho] at e
        cases e
        exact absurd rfl (nd _ _)
    have nsB : ∀ {b : Addr} {m : Str → Option Value}, s1.heap.Ns b m → (hidT s1.heap H).Ns b m := fun {b m} z => by
      obtain ⟨o, es, ep, e, d, r⟩ := z
      exact ⟨o, es, ep, hidT_get e (free e fun xs n k => by rw [d] at k; cases k), d, r⟩
    have kinB : K.In (hidT s1.heap H) := by
      intro b o e
      refine hidT_get (kin b o e) ?_
      rcases only b with z | ⟨z, oo, xs, q⟩
      · exact z
      · subst z
        rw [hK (by rw [q]; simp)] at e
        cases e
    have modB : Mod K mg (hidT s1.heap H) := by
      obtain ⟨mc, n1, n2⟩ := nl
      exact ⟨kinB, nsB gl, ⟨mb, nsB bl, bb⟩, mc, nsB n1, n2⟩
    have env : Env0 P w K mg (hidT s1.heap H) callerA [] s1 H := by
      refine ⟨rfl, modB, fun b o e => of_hidT e, Nat.le_of_eq (hidT_size _ _), trivial, fun b hb => ?_, ok, .of_eq gens⟩
      have hb : b ∈ ([] : List Addr) := hb
      cases hb
    refine codeAny_mono (main _ H kinB (nsB gl) env sq) fun r s2 h => ?_
    match r, h with
    | .ok (.ret u), h =>
      obtain ⟨v, H2, os, bare, un, ok2, rv, q⟩ := h
      have q : v = .bl true := q
      subst q
      obtain rfl : u = Value.bool true := rv
      refine ⟨rfl, OldK.of_keep fun b o e => ?_, os, bare⟩
      rcases only b with z | ⟨_, ob, xs, z⟩
      · exact un.keep b o e z (by intro k; have k : b ∈ ([] : List Addr) := k; cases k) (by simp)
      · have z2 := un.frzs b ob _ z
        have e1 := (ok b _ z).1
        have e2 := (ok2 b _ z2).1
        rw [e] at e1
        cases e1
        exact e2
    | .ok .next, h => exact False.elim h
    | .ok .brk, h => exact False.elim h
    | .ok .cont, h => exact False.elim h
    | .error e, h =>
      obtain ⟨_, _, _, _, _, _, _, _, _, _, _, _, z⟩ := h
      exact False.elim z
  cases hk : K.lookup a with
  | none =>
    refine key (scrH a { cls := .type "list", data := .seq vs.toArray } (ns.map V.int)) (fun b => ?_) (.inl (.inr ⟨{ cls := .type "list", data := .seq vs.toArray }, if_pos rfl⟩)) (fun b u z => ?_) fun _ => hk
    · by_cases q : b = a
      · exact .inr ⟨q, _, _, if_pos q⟩
      · exact .inl (if_neg q)
    · unfold scrH at z
      split at z
      · rename_i q
        subst q
        cases z
        exact ⟨ho, by rw [List.length_map]; exact hn, vs, _, vals, ho⟩
      · cases z
  | some o =>
    have e := kin a o hk
    rw [ho] at e
    cases e
    refine key (fun _ => none) (fun _ => .inl rfl) (.inr ⟨_, vs.toArray, _, hk, rfl, rfl, rfl, ?_, by simpa using vals⟩) (fun b u z => nomatch (show (none : Option HO) = some u from z)) fun z => absurd rfl z
    rw [List.size_toArray, len]
    exact hn
theorem ints_vd {S : Sx} {g : G} : ∀ ns : List Int, VDs S g (ns.map D.int) (ns.map V.int)
  | [] => rfl
  | n :: ns => ⟨.int n, _, rfl, rfl, ints_vd ns⟩
/-- the law's promise -/
theorem law_run {T : Tx} {k fl : Nat} (ok : TOk T k) {a : Addr} {s1 : Shared} {H : L2.Hp} {ns : List Int} (hr : Room k callerA) (e0 : Env0 T.P T.w T.S.K T.mg T.base callerA [] s1 H) (sq : SqL T.S.K H a (ns.map V.int))
    (h1 : Mem) (hev : Ev.callF T.Pg k fl [.scr (ns.map D.int)] [] = .ok (.bl true) h1) :
    codeAny (model T.P T.w) callerA (.call (.ref (T.S.fa fl)) ⟨[.ref a], []⟩) (CR (L2N.CX T.P T.w) [] T.P T.w H s1 (fun v _ => v = .bl true) fun _ _ _ => False) s1 := by
  have no : ∀ (n : Nat) (b : Addr), ([] : List Addr)[n]? = some b → False := fun n b e => by simp at e
  have R : Rel T.S ⟨H, []⟩ [] H := ⟨fun _ _ e => e, rfl, fun n b o e => (no n b e).elim, fun n b e => (no n b e).elim, fun n m b e => (no n b e).elim⟩
  refine ok.run fl callerA [] s1 H [.ref a] [.ref a] ⟨H, []⟩ [] [.scr (ns.map D.int)] _ _ hr rfl e0 (.cons rfl .nil) R ⟨_, [], rfl, ⟨a, ns.map V.int, rfl, sq, ints_vd ns⟩, rfl⟩ ?_
  rw [hev]
  intro v g' H' st r w
  exact w

/-! ### the top's facts -/
def hookX (n : Nat) (b : PySem.W.Frag → Bool) (fn : List He.DefD) : PySem.W.Hook where
  α := He.AlD
  obs := fun s => let K := He.frG s.heap.get? (He.asD s.heap.get? n); (b K && fn.all fun d => d.ok K, fn.map fun d => He.fnW K d.at_)
  val := fun _ => He.valD fn
  says := fun _ h => ∃ K : PySem.W.Frag, K.In h ∧ b K = true ∧ ∀ d ∈ fn, ∃ fd, FunD K d.name d.qual d.params d.body d.scope (d.dvs K) (d.kws K) (He.fAd K d.at_) fd
  of := fun _ s e => by
    refine ⟨_, He.frG_in (as := He.asD s.heap.get? n), ?_⟩
    have e1 : (b (He.frG s.heap.get? (He.asD s.heap.get? n)) && fn.all fun d => d.ok (He.frG s.heap.get? (He.asD s.heap.get? n))) = true := congrArg (fun z : He.AlD => z.1) e
    have e2 : (fn.map fun d => He.fnW (He.frG s.heap.get? (He.asD s.heap.get? n)) d.at_) = fn.map He.DefD.val := congrArg (fun z : He.AlD => z.2) e
    rw [Bool.and_eq_true] at e1
    refine ⟨e1.1, fun d hd => ?_⟩
    obtain ⟨i, hi⟩ := List.mem_iff_getElem?.mp hd
    have e3 : (fn.map fun d => He.fnW (He.frG s.heap.get? (He.asD s.heap.get? n)) d.at_)[i]? = (fn.map He.DefD.val)[i]? := by rw [e2]
    rw [List.getElem?_map, List.getElem?_map, hi] at e3
    exact He.DefD.funD (Option.some.inj e3) (List.all_eq_true.mp e1.2 d hd)
  keeps := fun _ _ _ ⟨K, hK, c⟩ k => ⟨K, PySem.W.Frag.In.keeps hK k, c⟩
def obX (n : Nat) (b : PySem.W.Frag → Bool) (fn : List He.DefD) (s : PySem.W.SharedT) : He.AlD :=
  let g := HandSHeadRun.getT s
  let K := He.frG g (He.asD g n)
  (b K && fn.all fun d => d.ok K, fn.map fun d => He.fnW K d.at_)
theorem obX_eq {n : Nat} {b : PySem.W.Frag → Bool} {fn : List He.DefD} (s : PySem.W.SharedT) : obX n b fn s = (hookX n b fn).obs s.abs := by
  have e : HandSHeadRun.getT s = s.abs.heap.get? := funext (HandSHeadRun.getT_eq s)
  unfold obX
  rw [e]
  rfl
end So
end
section
set_option Elab.async false
set_option autoImplicit false
set_option linter.all false
/-! S21: from the top's facts to what is fixed of a text. -/
namespace So
open PySem PySem.Spec PyProof.Rows L2
open Ev (D Ob Mem)

structure Txt where
  pg : Ev.Prog
  gl : List Str
  fs : List Str
  xs : List Str
  sub : List (List Nat)
  rz : List Nat
/-- a def of the text: its slots, its parameters, its statement -/
structure DT where
  name : Str
  N : List Str
  ps : List Str
  st : Stmt
def Txt.sx (t : Txt) (K : PySem.W.Frag) : Sx := ⟨K, fun i => He.ga K ((t.fs[i]?).getD (t.fs.headD "")), fun j => He.ga K ((t.xs[j]?).getD (t.xs.headD ""))⟩
def Txt.tx (t : Txt) (P : Program) (w : World) (K : PySem.W.Frag) (mg : Str → Option Value) (base : Heap) : Tx := ⟨P, w, mg, base, t.sx K, t.pg, t.gl, t.fs, t.xs, t.sub, t.rz⟩
mutual
def relD (K : PySem.W.Frag) : D → Value → Bool
  | .non, .none => true
  | .bl a, .bool b => a == b
  | .int i, .int j _ => decide (i = j)
  | .str s, .str x _ => decide (tx s = x) && s.all fun c => decide (c < 1114112)
  | .tup ds, .ref a => match K.lookup a with
    | some ⟨.type c, _, .seq its _, _⟩ => decide (c = "tuple") && decide (its.size ≤ sizeLine) && relDs K ds its.toList
    | _ => false
  | _, _ => false
def relDs (K : PySem.W.Frag) : List D → List Value → Bool
  | [], [] => true
  | d :: ds, u :: us => relD K d u && relDs K ds us
  | _, _ => false
end
section
variable {S : Sx}
mutual
theorem relD_ok : ∀ (d : D) (u : Value), relD S.K d u = true → ∃ v, RelV v u ∧ ∀ g, VD S g d v
  | .non, u, h => by
    cases u <;> first | (simp [relD] at h; done) | exact ⟨.non, rfl, fun g => rfl⟩
  | .bl a, u, h => by
    cases u <;> first | (simp [relD] at h; done) | skip
    rename_i b
    have e : a = b := by simpa [relD] using h
    subst e
    exact ⟨.bl a, rfl, fun g => rfl⟩
  | .int a, u, h => by
    cases u <;> first | (simp [relD] at h; done) | skip
    rename_i b t
    have e : a = b := by simpa [relD] using h
    subst e
    exact ⟨.int a, ⟨t, rfl⟩, fun g => rfl⟩
  | .str a, u, h => by
    cases u <;> first | (simp [relD] at h; done) | skip
    rename_i b t
    simp only [relD, Bool.and_eq_true, decide_eq_true_eq, List.all_eq_true] at h
    obtain ⟨e, o⟩ := h
    subst e
    exact ⟨.str (tx a), ⟨t, rfl⟩, fun g => ⟨rfl, o⟩⟩
  | .tup ds, u, h => by
    cases u <;> first | (simp [relD] at h; done) | skip
    rename_i a
    rw [relD] at h
    split at h
    · rename_i c od its n sl q
      simp only [Bool.and_eq_true, decide_eq_true_eq] at h
      obtain ⟨⟨h1, h2⟩, h3⟩ := h
      obtain ⟨vs, r, w⟩ := relDs_ok ds _ h3
      exact ⟨.ref a, rfl, fun g => ⟨a, vs, rfl, .inr ⟨_, its, n, q, congrArg Value.type h1, rfl, h2, r⟩, w g⟩⟩
    · cases h
  | .lst _, u, h => by cases u <;> simp [relD] at h
  | .loc _, u, h => by cases u <;> simp [relD] at h
  | .fn _, u, h => by cases u <;> simp [relD] at h
  | .scr _, u, h => by cases u <;> simp [relD] at h
  | .rep _, u, h => by cases u <;> simp [relD] at h
theorem relDs_ok : ∀ (ds : List D) (us : List Value), relDs S.K ds us = true → ∃ vs, Vals vs us ∧ ∀ g, VDs S g ds vs
  | [], us, h => by
    cases us with
    | nil => exact ⟨[], .nil, fun g => rfl⟩
    | cons u us => simp [relDs] at h
  | d :: ds, us, h => by
    cases us with
    | nil => simp [relDs] at h
    | cons u us =>
      rw [relDs, Bool.and_eq_true] at h
      obtain ⟨v, r1, w1⟩ := relD_ok d u h.1
      obtain ⟨vs, r2, w2⟩ := relDs_ok ds us h.2
      exact ⟨v :: vs, .cons r1 r2, fun g => ⟨v, vs, rfl, w1 g, w2 g⟩⟩
end
end
def exBase : List Value := [.type "Exception", .type "BaseException", .type "object"]
def gloB (K : PySem.W.Frag) (x : Str) : Bool := He.eqO (PySem.W.nsIn K mainGlobals x) (some (some (.ref (He.ga K x))))
def factB (t : Txt) (K : PySem.W.Frag) : Bool :=
  ((t.gl.zip t.pg.glob).all fun q => match PySem.W.nsIn K mainGlobals q.1 with
    | some (some u) => relD K q.2 u
    | _ => false) &&
  (t.fs.all fun x => gloB K x && PySem.W.keepIn K (.ref (He.ga K x))) && (t.xs.all fun x => gloB K x) && (used.all fun x => He.eqO (PySem.W.nsIn K mainGlobals x) (some none)) &&
  (t.rz.all fun c => match t.xs[c]? with
    | some x => PySem.W.excIn K (He.ga K x) exBase "Exception.__new__" && PySem.W.keepIn K (.ref (He.ga K x)) && decide (PySem.W.subIn K (.ref (He.ga K x)) (.type "BaseException") = some true) && decide (PySem.W.typeIn K (.ref (He.ga K x)) = some (.type "type"))
    | none => false) &&
  ((List.range t.sub.length).all fun j => (List.range t.xs.length).all fun c => decide (PySem.W.exmOne K (.ref ((t.sx K).ca c)) (.ref ((t.sx K).ca j)) = some ((t.sub.getD j []).contains c)))
/-- what of a text needs no run -/
def textB (t : Txt) : Bool := !t.fs.isEmpty && decide (t.pg.nx = t.xs.length) && (t.sub.all fun cs => cs.all fun c => decide (c < t.xs.length))
def scB (N ps : List Str) (sc : Scope) : Bool :=
  decide (sc.kind = .function) && !sc.isCoroutine && !sc.isGenerator && decide N.Nodup && decide (N.take ps.length = ps) && (ps.all fun x => decide (sc.names.lookup x = some .local) || decide (sc.names.lookup x = some .cell)) && (sc.names.all fun y => decide (y.2 ≠ .free))
def defB (t : Txt) (fd : Ev.Def) (d : DT) : Bool :=
  decide (fd.ns < fd.np) || scB d.N d.ps (C8.fnScope d.st) && decide (d.N.length = fd.ns) && decide (d.ps.length = fd.np) && ckSs ⟨d.N, (C8.fnScope d.st).names, (C8.fnScope d.st).names, t.gl, t.fs, t.xs, t.sub, t.rz⟩ fd.body (C8.fnBody d.st)
def defsB (t : Txt) : List Ev.Def → List DT → Bool
  | [], [] => true
  | fd :: fds, d :: ds => defB t fd d && defsB t fds ds
  | _, _ => false
def DT.dd (d : DT) : He.DefD := ⟨(d.name, none), d.name, d.name, C8.fnArgs d.st, C8.fnBody d.st, C8.fnScope d.st, [], []⟩
def BindP (d : DT) : Prop := ∀ (kV doc pm : Value) (an : Option Addr) (cdv ct : Value) (us : List Value), us.length = d.ps.length → bindArgs (PySem.W.fnOf d.name d.name (C8.fnArgs d.st) (C8.fnBody d.st) (C8.fnScope d.st) .none kV doc pm an cdv ct) ⟨us, []⟩ = pure (d.ps.zip us)
theorem sc_of {N ps : List Str} {sc : Scope} (h : scB N ps sc = true) : FnScope N ps sc := by
  unfold scB at h
  simp only [Bool.and_eq_true, Bool.not_eq_true', decide_eq_true_eq, List.all_eq_true, Bool.or_eq_true] at h
  obtain ⟨⟨⟨⟨⟨⟨h1, h2⟩, h3⟩, h4⟩, h5⟩, h6⟩, h7⟩ := h
  exact ⟨h1, h2, h3, h4, h5, h6, h7⟩
section
variable {t : Txt} {P : Program} {w : World} {K : PySem.W.Frag} {mg : Str → Option Value} {base : Heap} {ds : List DT}
theorem fs_at {i : Nat} {x : Str} (h : t.fs[i]? = some x) : (t.sx K).fa i = He.ga K x := by
  show He.ga K ((t.fs[i]?).getD _) = _
  rw [h]
  rfl
theorem xs_at {i : Nat} {x : Str} (h : t.xs[i]? = some x) : (t.sx K).ca i = He.ga K x := by
  show He.ga K ((t.xs[i]?).getD _) = _
  rw [h]
  rfl
theorem defs_at : ∀ {fds : List Ev.Def} {ds : List DT} {f : Nat} {fd : Ev.Def}, defsB t fds ds = true → fds[f]? = some fd → ∃ d, ds[f]? = some d ∧ defB t fd d = true
  | [], [], f, fd, _, e => by simp at e
  | [], _ :: _, _, _, h, _ => by simp [defsB] at h
  | _ :: _, [], _, _, h, _ => by simp [defsB] at h
  | a :: fds, d :: ds, 0, fd, h, e => by
    rw [defsB, Bool.and_eq_true] at h
    simp at e
    subst e
    exact ⟨d, rfl, h.1⟩
  | a :: fds, d :: ds, f + 1, fd, h, e => by
    rw [defsB, Bool.and_eq_true] at h
    obtain ⟨d', e1, e2⟩ := defs_at h.2 (by simpa using e : fds[f]? = some fd)
    exact ⟨d', by simpa using e1, e2⟩
theorem tfix (X : K.In base) (G : base.Ns mainGlobals mg) (fb : factB t K = true) (tb : textB t = true) (hds : ds.map DT.name = t.fs) (db : defsB t t.pg.defs ds = true)
    (FD : ∀ d ∈ ds, ∃ fd, FunD K d.name d.name (C8.fnArgs d.st) (C8.fnBody d.st) (C8.fnScope d.st) [] [] (He.ga K d.name) fd) (bp : ∀ d ∈ ds, BindP d) (err : ErrOk (t.tx P w K mg base)) : TFix (t.tx P w K mg base) := by
  unfold factB at fb
  simp only [Bool.and_eq_true] at fb
  obtain ⟨⟨⟨⟨⟨f1, f2⟩, f3⟩, f4⟩, f5⟩, f6⟩ := fb
  unfold textB at tb
  simp only [Bool.and_eq_true, decide_eq_true_eq, Bool.not_eq_true', List.all_eq_true] at tb
  obtain ⟨⟨t1, t2⟩, t3⟩ := tb
  have gx : ∀ x, gloB K x = true → mg x = some (.ref (He.ga K x)) := fun x h => PySem.W.mg_of X G (He.eqO_ok h)
  have f2' : ∀ (f : Nat) x, t.fs[f]? = some x → mg x = some (.ref ((t.sx K).fa f)) ∧ PySem.W.keepIn K (.ref ((t.sx K).fa f)) = true := fun f x e => by
    have := List.all_eq_true.mp f2 x (List.mem_of_getElem? e)
    rw [Bool.and_eq_true] at this
    rw [fs_at e]
    exact ⟨gx x this.1, this.2⟩
  have f3' : ∀ (j : Nat) x, t.xs[j]? = some x → mg x = some (.ref ((t.sx K).ca j)) := fun j x e => by
    rw [xs_at e]
    exact gx x (List.all_eq_true.mp f3 x (List.mem_of_getElem? e))
  refine ⟨fun i x d e1 e2 => ?_, f2', fun f => ?_, fun x hx => ?_, t2, fun c hc x e => ?_, f3', fun j c cs e hl => ?_, fun j c cs e hc => ?_, err, fun f fd e hnp => ?_⟩
  · have := List.all_eq_true.mp f1 (x, d) (List.mem_of_getElem? (i := i) (by rw [List.getElem?_zip_eq_some]; exact ⟨e1, e2⟩))
    dsimp only at this
    split at this
    · rename_i u q
      obtain ⟨v, r, w⟩ := relD_ok (S := t.sx K) d u this
      exact ⟨u, v, PySem.W.mg_of X G q, r, w⟩
    · cases this
  · cases e : t.fs[f]? with
    | some x => exact (f2' f x e).2
    | none =>
      cases q : t.fs with
      | nil => rw [q] at t1; cases t1
      | cons y ys =>
        have e0 : t.fs[0]? = some y := by rw [q]; rfl
        have := (f2' 0 y e0).2
        have ea : (t.sx K).fa f = (t.sx K).fa 0 := by
          show He.ga K ((t.fs[f]?).getD _) = He.ga K ((t.fs[0]?).getD _)
          rw [e, e0, q]
          rfl
        show PySem.W.keepIn K (.ref ((t.sx K).fa f)) = true
        rw [ea]
        exact this
  · exact PySem.W.mg_none_of X G (He.eqO_ok (List.all_eq_true.mp f4 x hx))
  · have := List.all_eq_true.mp f5 c hc
    have e' : t.xs[c]? = some x := e
    rw [e'] at this
    simp only [Bool.and_eq_true, decide_eq_true_eq] at this
    obtain ⟨⟨⟨h1, h2⟩, h3⟩, h4⟩ := this
    have ec := xs_at (K := K) e'
    refine ⟨?_, ?_, ⟨_, _, _, _, PySem.F.excBase_Exception, ?_⟩, ?_, ?_⟩
    · exact f3' c x e
    · show PySem.W.keepIn K (.ref ((t.sx K).ca c)) = true
      rw [ec]; exact h2
    · show PySem.W.excIn K ((t.sx K).ca c) _ _ = true
      rw [ec]; exact h1
    · show PySem.W.subIn K (.ref ((t.sx K).ca c)) _ = some true
      rw [ec]; exact h3
    · show PySem.W.typeIn K (.ref ((t.sx K).ca c)) = _
      rw [ec]; exact h4
  · have e' : t.sub[j]? = some cs := e
    have := List.all_eq_true.mp f6 j (List.mem_range.mpr (List.getElem?_eq_some_iff.mp e').1)
    have := of_decide_eq_true (List.all_eq_true.mp this c (List.mem_range.mpr hl))
    have eg : t.sub.getD j [] = cs := by rw [List.getD_eq_getElem?_getD, e']; rfl
    rw [eg] at this
    exact this
  · have e' : t.sub[j]? = some cs := e
    show c < t.xs.length
    simpa using t3 cs (List.mem_of_getElem? e') c (by simpa using hc)
  · obtain ⟨d, e1, e2⟩ := defs_at db e
    have hd := List.mem_of_getElem? e1
    obtain ⟨fdt, oc, od, dV, kV, doc, pm, an, cdv, ct, osl, efd, lk, cd, dv, kw⟩ := FD d hd |>.imp fun fd F => F.ex
    subst efd
    have en : t.fs[f]? = some d.name := by rw [← hds, List.getElem?_map, e1]; rfl
    unfold defB at e2
    rw [Bool.or_eq_true] at e2
    have e2 := e2.resolve_left fun z => absurd (of_decide_eq_true z) (by omega)
    simp only [Bool.and_eq_true, decide_eq_true_eq] at e2
    obtain ⟨⟨⟨c1, c2⟩, c3⟩, c4⟩ := e2
    obtain rfl : dV = .none := by
      rcases dv with ⟨_, z⟩ | ⟨z, _⟩
      · exact z
      · exact absurd rfl z
    refine ⟨d.name, d.name, _, _, _, _, kV, doc, pm, cdv, ct, oc, an, od, osl, d.N, d.ps, ⟨?_, cd, sc_of c1, .all (bp d hd kV doc pm an cdv ct), c2, c3, c4⟩⟩
    show K.lookup ((t.sx K).fa f) = _
    rw [fs_at en]
    exact lk
end
end So
end
section
set_option Elab.async false
set_option autoImplicit false
set_option linter.all false
/-! S22: walking a list while an exception is handled; the def that tells an error's kind. -/
namespace So
open PySem PySem.Spec PyProof.Rows L2 HotX
open Ev (D Ob Mem)
section
variable {prog : Program} {w : World} {A : Around} {E : Value → Shared → Prop} {s : Shared}
theorem list_end_hot {it l y : Addr} {i : Nat} {xs : Array Value} {Q : Option Value → Shared → Prop} (hot : HotAt A y s.heap) (ne : it ≠ y) (hi : s.heap.IsListIter it l i) (hl : s.heap.IsList l xs) (hx : xs[i]? = none)
    (fin : ∀ h2, (∀ b o, b ≠ it → s.heap.get? b = some o → h2.get? b = some o) → Q none { s with heap := h2 }) : wpAny (model prog w) A (pyNext (.ref it)) Q E s := by
  obtain ⟨o, e1, e2, e3⟩ := id hi
  obtain ⟨ol, f1, _, nl, f3⟩ := hl
  obtain ⟨hh, oy, ys, y1, y2, y3⟩ := hot
  unfold pyNext
  refine wpAny_bind (wpAny_attempt (wpAny_callSpecial?_slot (name := Str.ofString "__next__") hi.typeIs slot_listiter_next (wpAny_call_entry slot_listiter_next hi.typeIs entry_listiter_next ?_ (args_listiter_next _))))
  show wpAny _ _ (field (.ref it) 0 >>= fun _ => _) _ _ s
  refine wpAny_bind (wpAny_field e1 e3 (x := .ref l) rfl ?_)
  show wpAny _ _ (ite ((Value.ref l == Value.none) = true) _ _) _ _ s
  rw [if_neg (show ¬ (Value.ref l == Value.none) = true from Bool.false_ne_true)]
  show wpAny _ _ (field (.ref it) 1 >>= fun _ => _) _ _ s
  refine wpAny_bind (wpAny_field e1 e3 (x := .int i 0) rfl ?_)
  show wpAny _ _ (seqItems? (.ref l) >>= fun _ => _) _ _ s
  refine wpAny_bind (wpAny_seqItems f1 f3 ?_)
  simp only [Int.toNat_natCast, hx]
  refine wpAny_bind (wpAny_rule (wpAny_bind (wpAny_setField e1 e3 (by simp) ?_)))
  show wpAny _ _ (newExc (.type "StopIteration") [] >>= fun _ => _) _ _ _
  refine wpAny_bind ?_
  simp only [newExc, newTuple]
  refine wpAny_bind (wpAny_newObj_type ?_ (by size_fits))
  refine wpAny_bind (m := firstArgMember _ _) (wpAny_of_eq (a := Value.none) (by first | (simp only [firstArgMember]; rfl) | rfl) ?_)
  refine wpAny_newObj_type ?_ (by size_fits)
  have yk : ∀ f, (s.heap.update it f).get? y = some oy := fun f => (Heap.get?_update_other _ _ ne).trans y1
  refine raiseNew_hot ⟨hh, oy, ys, Heap.get?_push_of_some _ (Heap.get?_push_of_some _ (yk _)), y2, y3⟩ (Nat.ne_of_lt (Heap.lt_size (Heap.get?_push_of_some _ (yk _)))) (Heap.get?_push_size _ rfl) rfl (by first | (simp; done) | (simp; omega)) ?_
  refine wpAny_bind (wpAny_isInstance (T := "StopIteration") (b := true) ⟨_, Heap.get?_update_self _ (Heap.get?_push_size _ rfl) rfl, rfl⟩ isSubtype_stop ?_)
  refine wpAny_pure (fin _ fun b o hb e => ?_)
  have bk : ∀ f, (s.heap.update it f).get? b = some o := fun f => (Heap.get?_update_other _ _ (Ne.symm hb)).trans e
  rw [Heap.get?_update_other _ _ (Nat.ne_of_gt (Heap.lt_size (Heap.get?_push_of_some _ (bk _))))]
  exact Heap.get?_push_of_some _ (Heap.get?_push_of_some _ (bk _))
/-- a list is walked, the handled exception standing by -/
theorem walk_hot {it l y : Addr} {oy : Obj} {ys : Array Value} (hh : A.handled = some (.ref y)) (y2 : oy.data = .fields ys) (y3 : ys[2]? = some .none) (ne : it ≠ y) (nl : l ≠ it) (xs : Array Value) :
    Walks prog w A it [it, l, y] [it] xs.size (fun i v => xs[i]? = some v) (fun i h => h.IsListIter it l i ∧ h.IsList l xs ∧ h.get? y = some oy) where
  sub := fun b hb => by simp at hb; simp [hb]
  frame := fun _ _ _ st k => ⟨st.1.at fun o e => k it (by simp) o e, st.2.1.at fun o e => k l (by simp) o e, k y (by simp) _ st.2.2⟩
  item := fun i s Q E hi st fin => by
    refine wpAny_pyNext_list_item st.1 st.2.1 (x := xs[i]) (by simp [hi]) fun h2 i2 sb => ?_
    exact fin _ h2 s.toks (by simp [hi]) ⟨i2, st.2.1.extBut sb.extBut nl, sb.extBut y oy (Ne.symm ne) st.2.2⟩ fun b o hb e => sb.extBut b o (fun z => hb (by simp [z])) e
  done := fun s Q E st fin => list_end_hot ⟨hh, oy, ys, st.2.2, y2, y3⟩ ne st.1 st.2.1 (by simp) fun h2 k => fin h2 s.toks fun b o hb e => k b o (fun z => hb (by simp [z])) e
  self := fun _ _ _ _ st fin => wpAny_pyIter_listiter st.1 fin
end
end So
end
section
set_option Elab.async false
set_option autoImplicit false
set_option linter.all false
/-! S23: sum([int(one) for one in names]) while an exception is handled. -/
namespace So
open PySem PySem.Spec PyProof.Rows L2 HotX
open Ev (D Ob Mem)
def toI (b : Bool) : Int := if b then 1 else 0
theorem toI_le (b : Bool) : 0 ≤ toI b ∧ toI b ≤ 1 := by cases b <;> decide
theorem preSum_take (es : List Int) : ∀ j, j ≤ es.length → preSum (fun i => es.getD i 0) j = (es.take j).sum
  | 0, _ => by simp [preSum]
  | j + 1, h => by
    have hj : j < es.length := h
    rw [preSum, preSum_take es j (by omega), List.take_add_one, List.getElem?_eq_getElem hj, List.sum_append, List.getD_eq_getElem?_getD, List.getElem?_eq_getElem hj]
    simp
theorem sum_small : ∀ (bs : List Bool), 0 ≤ (bs.map toI).sum ∧ (bs.map toI).sum ≤ bs.length
  | [] => by simp
  | b :: bs => by
    have h1 := sum_small bs
    have h2 := toI_le b
    rw [List.map_cons, List.sum_cons, List.length_cons]
    omega
theorem paired_int : ∀ {vs : List Value} {us : List Value} {bs : List Bool}, Paired (fun v y => ∃ b t, v = Value.bool b ∧ y = Value.int (toI b) t) vs us → vs = bs.map Value.bool → IntsAre us (bs.map toI)
  | _, _, [], .nil, _ => .nil
  | _, _, _ :: _, .nil, e => by cases e
  | _, _, [], .cons _ _, e => by cases e
  | _, _, b :: bs, .cons ⟨b', t, e1, e2⟩ r, e => by
    rw [List.map_cons] at e
    obtain ⟨e3, e4⟩ := List.cons.inj e
    subst e2
    rw [e1] at e3
    cases e3
    exact .cons _ _ (paired_int r e4)
theorem vals_bool : ∀ {bs : List Bool} {us : List Value}, Vals (bs.map V.bl) us → us = bs.map Value.bool
  | [], _, .nil => rfl
  | b :: bs, _, .cons r t => by
    have e : _ = Value.bool b := r
    rw [e, vals_bool t]
    rfl
theorem ints_at : ∀ {us : List Value} {es : List Int}, IntsAre us es → ∀ (i : Nat) v, us[i]? = some v → ∃ t, v = .int (es.getD i 0) t
  | _, _, .nil, i, v, e => by simp at e
  | _, _, .cons n t r, 0, v, e => by
    simp at e
    exact ⟨t, by rw [← e]; rfl⟩
  | _, _, .cons n t r, i + 1, v, e => by
    obtain ⟨t2, e2⟩ := ints_at r i v (by simpa using e)
    exact ⟨t2, by rw [e2]; simp⟩
def tSumH (i : Nat) : TE := fun σ H Q => ∃ (l : Addr) (bs : List Bool), σ[i]? = some (some (V.ref l)) ∧ H l = some (.lst (bs.map V.bl)) ∧ bs.length ≤ 50 ∧ Q (.int (bs.map toI).sum) H
section
variable {X : Cx} {i : Nat} {x y : Str} {p1 p2 p3 p4 p5 p6 p7 pos : Pos} {scope : Scope}
/-- the block's scope, as it must be -/
structure LcS (scope : Scope) (y : Str) : Prop where
  free : ∀ z ∈ scope.names, z.2 ≠ .free
  cell : ∀ z ∈ scope.names, z.2 ≠ .cell
  kind : scope.kind = .function
  uniq : ∀ z ∈ scope.names, z.2 = .local → scope.names.lookup z.1 = some .local
  own : scope.names.lookup y = some .local
  int : scope.names.lookup ("int" : Str) = some .globalImplicit
theorem pe_sumH (hot : L2H.HotC X) (hi : X.N[i]? = some x) (vis : Vis X.env.scope x) (hd : (x == ("__debug__" : Str)) = false) (hcd : (x == ("__classdict__" : Str)) = false) (gs : Gl X "sum") (ms : X.mg "sum" = none) (mi : X.mg "int" = none) (ls : LcS scope y)
    (hy : (y == ("__debug__" : Str)) = false) (hyc : (y == ("__classdict__" : Str)) = false) :
    PE X (.Call (.Name "sum" p1) [.ListComp (.Call (.Name "int" p2) [.Name y p3] [] p4) [⟨.Name y p5, .Name x p6, [], 0⟩] scope p7] [] pos) (tSumH i) := by
  refine ⟨fun pins s σ H Q I hq => ?_⟩
  obtain ⟨l, bs, e1, e2, e3, fin⟩ := hq
  obtain ⟨p, ⟨hh, ys, y2, y3⟩, hp⟩ := hot
  refine Call_ (ld_blt I gs ms PyProof.Rows.boot_sum ?_)
  refine callWith_builtin1 (args_cons ?_ rfl) rfl rfl
  refine wpAny_ListComp_walk (p := fun _ => true) (F := fun v y => ∃ b t, v = Value.bool b ∧ y = Value.int (toI b) t) ls.free ls.cell ls.kind ls.uniq ls.own ?_ (fun _ => rfl)
  refine thn ((pe_var (pos := p6) (i := i) hi vis hd hcd).run pins s σ H (fun v H1 => v = V.ref l ∧ H = H1) I ⟨_, e1, rfl, rfl⟩) fun u s1 ⟨v, H1, I1, ru, ev, eH⟩ => ?_
  subst ev; subst eH
  obtain rfl : u = Value.ref l := ru
  obtain ⟨its, n, rv, ob, _⟩ := I1.lst e2
  have eits := vals_bool rv
  have isl : s1.heap.IsList l its.toArray := ⟨_, ob, rfl, _, rfl⟩
  have P1 := I1.pin p (List.mem_append_left _ hp)
  have lt : l < s1.heap.objs.size := Heap.lt_size ob
  have ltp : p.1 < s1.heap.objs.size := Heap.lt_size P1.1
  refine wpAny_pyIter_list isl ?_
  refine ⟨s1.heap.objs.size, _, _, _, _, _, rfl, walk_hot hh y2 y3 (Nat.ne_of_gt ltp) (Nat.ne_of_lt lt) its.toArray, ?_, ⟨⟨_, Heap.get?_push_size _ rfl, rfl, rfl⟩, ?_, Heap.get?_push_of_some _ P1.1⟩, fun b hb => ?_, ⟨?_, ?_⟩, ?_⟩
  · rw [List.size_toArray, eits, List.length_map]
    have := sizeLine_eq
    omega
  · exact ⟨_, Heap.get?_push_of_some _ ob, rfl, _, rfl⟩
  · show b < (s1.heap.push _).objs.size
    rw [Heap.size_push]
    simp only [List.mem_cons, List.not_mem_nil, or_false] at hb
    rcases hb with hb | hb | hb
    · rw [hb]; exact Nat.lt_succ_self _
    · rw [hb]; exact Nat.lt_succ_of_lt lt
    · rw [hb]; exact Nat.lt_succ_of_lt ltp
  · intro C j v s3 m3 E' hv hns hm hk ht
    exact wpAny_tests_nil ⟨rfl, s3.heap, s3.toks, rfl, fun _ _ e => e⟩
  · intro C j v s3 m3 E' hv hpv hns hm hk ht
    -- int(one) in the block
    have keep : ∀ b o, s1.heap.get? b = some o → s3.heap.get? b = some o := fun b o e => hk b o (by
      simp only [List.mem_cons, List.not_mem_nil, or_false]
      exact Nat.ne_of_lt (Heap.lt_size e)) (Heap.get?_push_of_some _ e)
    obtain ⟨mb, b1, b2⟩ := I1.mod.blt
    obtain ⟨b, hb⟩ : ∃ b, v = Value.bool b := by
      have hv : its.toArray[j]? = some v := hv
      rw [eits, List.getElem?_toArray, List.getElem?_map] at hv
      cases q : bs[j]? with
      | none => rw [q] at hv; cases hv
      | some b => rw [q] at hv; cases hv; exact ⟨b, rfl⟩
    subst hb
    refine Call_ (Calls.Name_function_global ls.kind ls.int (Calls.loadGlobal_builtin (mg := X.mg) (mb := mb) ?_ mi ?_ ((b2 "int" (by decide)).trans (by decide +kernel : bootBuiltins "int" = some (.type "int"))) ?_) (by decide))
    · show s3.heap.Ns X.env.globals X.mg
      rw [I1.ok.glob]
      exact (I1.mod.glob.keeps I1.bk).keeps keep
    · show s3.heap.Ns X.env.builtins mb
      rw [I1.ok.blt]
      exact (b1.keeps I1.bk).keeps keep
    · refine callWith_type1 (args_cons ?_ rfl) rfl rfl
      refine wpAny_Name (wpAny_loadName_local ls.kind ls.own hns hm ?_) hy
      refine args_nil (call_int_bool ⟨⟨b, _, rfl, rfl⟩, s3.heap, s3.toks + 1, rfl, fun _ _ e => e⟩)
  · intro D h2 tk us vs hD isD pl hl hP pr hk
    refine args_nil (call_sum_walk (wpAny_pyIter_list isD ?_))
    have all : vs.filter (fun _ => true) = vs := List.filter_eq_self.mpr fun _ _ => rfl
    rw [all] at pr
    have evs : vs = bs.map Value.bool := by
      refine List.ext_getElem? fun j => ?_
      rw [← eits]
      by_cases hj : j < vs.length
      · have := hP j vs[j] (List.getElem?_eq_getElem hj)
        rw [List.getElem?_eq_getElem hj, ← this, List.getElem?_toArray]
      · have hl' : its.length = vs.length := by rw [hl, List.size_toArray]
        rw [List.getElem?_eq_none (by omega), List.getElem?_eq_none (by omega)]
    have ia := paired_int pr evs
    have es := ia.length
    rw [List.length_map] at es
    have hl2 : us.size = bs.length := by rw [← es]; simp
    have keep : ∀ b o, s1.heap.get? b = some o → h2.get? b = some o := fun b o e => hk b o (by
      simp only [List.mem_cons, List.not_mem_nil, or_false]
      exact Nat.ne_of_lt (Heap.lt_size e)) (Heap.get?_push_of_some _ e)
    have ltD : D < h2.objs.size := by obtain ⟨_, e, _⟩ := isD; exact Heap.lt_size e
    have Pp := keep _ _ P1.1
    have ltp2 := Heap.lt_size Pp
    have val : ∀ j, j ≤ bs.length → preSum (fun i => (bs.map toI).getD i 0) j = ((bs.map toI).take j).sum := fun j hj => preSum_take _ j (by rw [List.length_map]; exact hj)
    refine ⟨h2.objs.size, _, _, _, _, _, fun i => (bs.map toI).getD i 0, rfl, walk_hot (show X.A.in1.handled = _ from hh) y2 y3 (Nat.ne_of_gt ltp2) (Nat.ne_of_lt ltD) us, ⟨⟨_, Heap.get?_push_size _ rfl, rfl, rfl⟩, isD.push _, Heap.get?_push_of_some _ Pp⟩, fun b hb => ?_, fun j v hv => ?_, fun j hj => ?_, fun h3 tk3 t3 hk3 => ?_⟩
    · show b < (h2.push _).objs.size
      rw [Heap.size_push]
      simp only [List.mem_cons, List.not_mem_nil, or_false] at hb
      rcases hb with hb | hb | hb
      · rw [hb]; exact Nat.lt_succ_self _
      · rw [hb]; exact Nat.lt_succ_of_lt ltD
      · rw [hb]; exact Nat.lt_succ_of_lt ltp2
    · exact ints_at ia j v (by simpa using hv)
    · have hj : j < bs.length := by rw [← hl2]; exact hj
      have e4 : (bs.map toI).getD j 0 = toI bs[j] := by rw [List.getD_eq_getElem?_getD, List.getElem?_map, List.getElem?_eq_getElem hj]; rfl
      have e5 := toI_le bs[j]
      have e6 := sum_small (bs.take (j + 1))
      rw [val (j + 1) hj, ← List.map_take]
      have e7 : (bs.take (j + 1)).length ≤ bs.length := List.length_take_le' ..
      unfold InLong
      dsimp only
      rw [e4]
      omega
    · have e8 : preSum (fun i => (bs.map toI).getD i 0) us.size = (bs.map toI).sum := by
        rw [hl2, val bs.length (Nat.le_refl _), List.take_of_length_le (by rw [List.length_map]; exact Nat.le_refl _)]
      rw [e8]
      refine ⟨V.int (bs.map toI).sum, H, ?_, ⟨_, rfl⟩, fin⟩
      exact I1.kept (t' := tk3) fun b o e => hk3 b o (by
        simp only [List.mem_cons, List.not_mem_nil, or_false]
        exact Nat.ne_of_lt (Heap.lt_size (keep b o e))) (Heap.get?_push_of_some _ (keep b o e))
end
end So
end
section
set_option Elab.async false
set_option autoImplicit false
set_option linter.all false
/-! S24: the def that tells an error's kind, called in an except suite. -/
namespace So
open PySem PySem.Spec PyProof.Rows L2 HotX
open Ev (D Ob Mem)
/-! ### its text -/
def isB (c : Expr) (n : Str) : Bool := match c with
  | .Call (.Name f _) [.Name e _, .Name k _] [] _ => decide (f = "isinstance") && decide (e = "e") && decide (k = n)
  | _ => false
theorem isB_iv {c : Expr} {n : Str} (h : isB c n = true) : ∃ p1 p2 p3 p, c = .Call (.Name "isinstance" p1) [.Name "e" p2, .Name n p3] [] p := by
  unfold isB at h
  split at h
  · simp only [Bool.and_eq_true, decide_eq_true_eq] at h
    obtain ⟨⟨h1, h2⟩, h3⟩ := h
    subst h1 h2 h3
    exact ⟨_, _, _, _, rfl⟩
  · cases h
def kB (c : Expr) (s : Str) : Bool := match c with
  | .Constant (.str x) _ _ => decide (x = s)
  | _ => false
theorem kB_iv {c : Expr} {s : Str} (h : kB c s = true) : ∃ j p, c = .Constant (.str s) j p := by
  unfold kB at h
  split at h
  · have := of_decide_eq_true h
    subst this
    exact ⟨_, _, rfl⟩
  · cases h
def lcSB (sc : Scope) : Bool := (sc.names.all fun z => decide (z.2 ≠ .free)) && (sc.names.all fun z => decide (z.2 ≠ .cell)) && decide (sc.kind = .function) && (sc.names.all fun z => decide (z.2 ≠ .local) || decide (sc.names.lookup z.1 = some .local)) &&
  decide (sc.names.lookup ("one" : Str) = some .local) && decide (sc.names.lookup ("int" : Str) = some .globalImplicit)
theorem lcSB_ok {sc : Scope} (h : lcSB sc = true) : LcS sc "one" := by
  unfold lcSB at h
  simp only [Bool.and_eq_true, decide_eq_true_eq, List.all_eq_true, Bool.or_eq_true] at h
  obtain ⟨⟨⟨⟨⟨h1, h2⟩, h3⟩, h4⟩, h5⟩, h6⟩ := h
  exact ⟨h1, h2, h3, fun z hz e => (h4 z hz).resolve_left fun k => k e, h5, h6⟩
def cl5 : List Str := ["NotAllowed", "TooLarge", "Missing", "BadPaper", "BadForm"]
def tx5 : List Str := ["refused", "large", "missing", "paper", "form"]
def clB : List Expr → List Str → Bool
  | [], [] => true
  | c :: cs, n :: ns => isB c n && clB cs ns
  | _, _ => false
def ksB : List Expr → List Str → Bool
  | [], [] => true
  | c :: cs, n :: ns => kB c n && ksB cs ns
  | _, _ => false
def errB (b : List Stmt) : Bool := match b with
  | [.Assign [.Name n1 _] (.List cs _) _,
     .If (.Compare (.Call (.Name n2 _) [.ListComp (.Call (.Name n3 _) [.Name n4 _] [] _) [⟨.Name n5 _, .Name n6 _, [], a⟩] scope _] [] _) [.NotEq] [.Constant (.int k) _ _] _) [.Return (some (.Constant (.str o) _ _)) _] [] _,
     .Return (some (.Subscript (.List ks _) (.Call (.Attribute (.Name n7 _) n8 ap) [.Constant (.bool bb) _ _] [] cp) _)) _] =>
    decide (n1 = "names") && clB cs cl5 && decide (n2 = "sum") && decide (n3 = "int") && decide (n4 = "one") && decide (n5 = "one") && decide (n6 = "names") && decide (a = 0) && lcSB scope && decide (k = 1) && decide (o = "odd") && ksB ks tx5 && decide (n7 = "names") && decide (n8 = "index") && bb && (ap.endLine == cp.line)
  | _ => false

/-! ### its readings -/
section
variable {X : Cx} {pos : Pos}
/-- what is asked of the class D: the answers for the classes ns -/
def KitL (K : PySem.W.Frag) (D : Addr) : List Str → List Bool → Prop
  | [], [] => True
  | n :: ns, b :: bs => PySem.W.kitOne K (.ref D) (.ref (He.ga K n)) = some b ∧ KitL K D ns bs
  | _, _ => False
theorem cr_isH {D : Addr} {p : Addr × Obj} (hp : p ∈ X.pn) (C : ExcC X.K D) (h1 : p.2.cls = .ref D) (h2 : p.2.dict = none) (h3 : ∃ vs, p.2.data = .fields vs) : CallR X (.builtin "isinstance") (rIsE X.K D p.1) := by
  intro pins s σ H xs us Q I r h
  obtain ⟨c, cv, b, rfl, hcv, e, q⟩ := h
  match us, r with
  | [u, w], .cons rx (.cons rt .nil) =>
    obtain rfl : u = Value.ref p.1 := rx
    have ew := hcv _ rt
    subst ew
    have get := (I.pin p (List.mem_append_left _ hp)).1
    have J : PySem.W.InstAt s.heap p.1 p.2 D none := by
      obtain ⟨pa, oc, od, dt, sl⟩ := p
      dsimp only at h1 h2 h3 get ⊢
      obtain ⟨vs, h3⟩ := h3
      subst h1 h2 h3
      exact ⟨get, rfl, rfl, trivial⟩
    exact PySem.W.kia_one (PySem.W.handS_kitx_exc C.hg C.hk C.hs C.hd C.ha C.hn C.ht C.hm) I.kIn J e (fun z => nomatch z) fun tk => ⟨.bl b, H, I.kept (t' := tk) fun _ _ z => z, rfl, q⟩
/-- the context of the def's body -/
structure ErrX (X : Cx) (p : Addr × Obj) (D : Addr) : Prop where
  N : X.N = ([("e" : Str), ("names" : Str), ("one" : Str)] : List Str)
  pn : p ∈ X.pn
  ex : ExcC X.K D
  h1 : p.2.cls = .ref D
  h2 : p.2.dict = none
  h3 : ∃ vs, p.2.data = .fields vs
  hot : L2H.HotC X
  le : X.env.scope.names.lookup ("e" : Str) = some .local
  ln : X.env.scope.names.lookup ("names" : Str) = some .local
  gi : Gl X "isinstance"
  gs : Gl X "sum"
  mi : X.mg "isinstance" = none
  ms : X.mg "sum" = none
  mt : X.mg "int" = none
  cl : ∀ n ∈ cl5, Gl X n ∧ X.mg n = some (.ref (He.ga X.K n))
def tIsL (a : Addr) (bs : List Bool) : TA := fun σ H Q => σ[0]? = some (some (V.ref a)) ∧ Q (bs.map V.bl) H
theorem pa_isL {p : Addr × Obj} {D : Addr} (c : ErrX X p D) : ∀ {cs : List Expr} {ns : List Str} {bs : List Bool}, clB cs ns = true → (∀ n ∈ ns, n ∈ cl5) → KitL X.K D ns bs → PA X cs (tIsL p.1 bs)
  | [], [], [], _, _, _ => PA.imp pa_nil fun σ H Q h => h.2
  | [], [], _ :: _, _, _, k => False.elim k
  | [], _ :: _, _, h, _, _ => by simp [clB] at h
  | _ :: _, [], _, h, _, _ => by simp [clB] at h
  | _ :: _, _ :: _, [], _, _, k => False.elim k
  | e :: cs, n :: ns, b :: bs, h, hn, k => by
    rw [clB, Bool.and_eq_true] at h
    obtain ⟨p1, p2, p3, p4, rfl⟩ := isB_iv h.1
    obtain ⟨g1, m1⟩ := c.cl n (hn n List.mem_cons_self)
    have hd : (n == ("__debug__" : Str)) = false := by
      have := hn n List.mem_cons_self
      simp only [cl5, List.mem_cons, List.not_mem_nil, or_false] at this
      rcases this with z | z | z | z | z <;> subst z <;> decide
    have a1 : PA X [.Name "e" p2, .Name n p3] (tCons (tVar 0) (tCons (tC (.ref (He.ga X.K n))) tNil)) :=
      pa_cons (pe_var (by rw [c.N]; rfl) (.inl c.le)) (pa_cons (pe_glob g1 m1 rfl hd) pa_nil)
    have e1 : PE X (.Call (.Name "isinstance" p1) [.Name "e" p2, .Name n p3] [] p4) (fun σ H Q => σ[0]? = some (some (V.ref p.1)) ∧ Q (.bl b) H) := by
      refine PE.imp (pe_callB (cr_isH c.pn c.ex c.h1 c.h2 c.h3) c.gi c.mi (by decide +kernel) a1) ?_
      rintro σ H Q ⟨h1, q⟩
      exact ⟨_, h1, .ref (He.ga X.K n), _, b, rfl, fun u hu => hu, k.1, q⟩
    exact PA.imp (pa_cons e1 (pa_isL c h.2 (fun m hm => hn m (List.mem_cons_of_mem _ hm)) k.2)) fun σ H Q ⟨q1, q2⟩ => ⟨q1, q1, q2⟩
theorem pa_kL : ∀ {cs : List Expr} {ns : List Str}, ksB cs ns = true → PA X cs (fun σ H Q => Q (ns.map V.str) H)
  | [], [], _ => PA.imp pa_nil fun σ H Q h => h
  | [], _ :: _, h => by simp [ksB] at h
  | _ :: _, [], h => by simp [ksB] at h
  | e :: cs, n :: ns, h => by
    rw [ksB, Bool.and_eq_true] at h
    obtain ⟨j, p, rfl⟩ := kB_iv h.1
    exact PA.imp (pa_cons pe_str (pa_kL h.2)) fun σ H Q q => q
def tErr (K : PySem.W.Frag) (a : Addr) (bs : List Bool) : TS :=
  tSeq (tAsg (tLst (tIsL a bs)) (gName 1)) (tSeq (tIfS (tTest (tOp rNe (tSumH 1) (tC (.int 1)))) (tRet (tC (.str "odd"))) tNext)
    (tRet (tOp (rIxL K) (tLst (fun σ H Q => Q (tx5.map V.str) H)) (tBM K "list" (rIndex K) (tVar 1) (tCons (tC (.bl true)) tNil)))))
theorem err_pss {p : Addr × Obj} {D : Addr} (c : ErrX X p D) {b : List Stmt} {bs : List Bool} (h : errB b = true) (k : KitL X.K D cl5 bs) : PSs X b (tErr X.K p.1 bs) := by
  unfold errB at h
  split at h
  · simp only [Bool.and_eq_true, decide_eq_true_eq] at h
    obtain ⟨⟨⟨⟨⟨⟨⟨⟨⟨⟨⟨⟨⟨⟨⟨h1, h2⟩, h3⟩, h4⟩, h5⟩, h6⟩, h7⟩, h8⟩, h9⟩, h10⟩, h11⟩, h12⟩, h13⟩, h14⟩, h15⟩, h16⟩ := h
    subst h1 h3 h4 h5 h6 h7 h8 h10 h11 h13 h14 h15
    have hN : X.N.Nodup := by rw [c.N]; decide
    have i1 : X.N[1]? = some ("names" : Str) := by rw [c.N]; rfl
    refine pss_cons (ps_set (i := 1) hN i1 (.inl c.ln) (pe_lst (pa_isL c h2 (fun _ h => h) k)) rfl (.inr c.ln)) (pss_cons (ps_if (pt_cmpR op_ne ?_ pe_int (nomark _)) (pss_one (ps_ret pe_str)) pss_nil)
      (pss_one (ps_ret (pe_ix ix_list (pe_lst (pa_kL h12)) (pe_bm PySem.F.plainAttrs_list PySem.F.slot_list_index PySem.F.type_list_index mt_index (pe_var i1 (.inl c.ln)) (pa_cons pe_bl pa_nil) rfl rfl h16) (fun _ _ => rfl)))))
    exact pe_sumH c.hot i1 (.inl c.ln) (by decide) (by decide) c.gs c.ms c.mt (lcSB_ok h9) (by decide) (by decide)
  · cases h
end
end So
end
section
set_option Elab.async false
set_option autoImplicit false
set_option linter.all false
/-! S25: .. its outcome, its call. -/
namespace So
open PySem PySem.Spec PyProof.Rows L2 HotX
open Ev (D Ob Mem)
/-- what it tells, from the five answers -/
def codes5 : List (List Nat) := [[114, 101, 102, 117, 115, 101, 100], [108, 97, 114, 103, 101], [109, 105, 115, 115, 105, 110, 103], [112, 97, 112, 101, 114], [102, 111, 114, 109]]
def errD (bs : List Bool) : D := if (bs.map toI).sum = 1 then .str (codes5.getD (bs.idxOf true) []) else .str [111, 100, 100]
theorem codes_tx : codes5.map tx = tx5 := by decide +kernel
theorem odd_tx : tx [111, 100, 100] = ("odd" : Str) := by decide +kernel
theorem codes_ok : ∀ s ∈ codes5, OkS s := by
  intro s hs c hc
  simp only [codes5, List.mem_cons, List.not_mem_nil, or_false] at hs
  rcases hs with h | h | h | h | h <;> subst h <;> (simp only [List.mem_cons, List.not_mem_nil, or_false] at hc; omega)
theorem mem_of_sum {bs : List Bool} (h : (bs.map toI).sum = 1) : true ∈ bs := by
  refine Classical.byContradiction fun n => ?_
  have : ∀ l : List Bool, true ∉ l → (l.map toI).sum = 0 := by
    intro l
    induction l with
    | nil => intro _; rfl
    | cons b l ih =>
      intro hn
      cases b with
      | true => exact absurd List.mem_cons_self hn
      | false =>
        rw [List.map_cons, List.sum_cons, ih fun z => hn (List.mem_cons_of_mem _ z)]
        rfl
  rw [this bs n] at h
  cases h
theorem tErr_ok {S : Sx} {a : Addr} {bs : List Bool} {H : L2.Hp} {g : G} {h : Mem} {Q : VK} {nx : L2.St → L2.Hp → Prop} (hl : bs.length = 5) (R : Rel S g h H)
    (fin : ∀ v g' H', Step g h H g' h H' → Rel S g' h H' → VD S g' (errD bs) v → Q v H') : tErr S.K a bs { nx := nx, rt := Q } [some (V.ref a), none, none] H := by
  refine ⟨rfl, by rw [List.length_map, hl]; exact sizeLine_eq ▸ by decide, fun q hq => ?_⟩
  have R1 : Rel S g h (upd H q (.lst (bs.map V.bl))) := R.new hq
  have s1 : Step g h H g h (upd H q (.lst (bs.map V.bl))) := Step.new R hq
  have e1 : (upd H q (.lst (bs.map V.bl))) q = some (.lst (bs.map V.bl)) := upd_same
  generalize upd H q (.lst (bs.map V.bl)) = H1 at R1 s1 e1
  refine ⟨q, bs, rfl, e1, by omega, rfl, !decide (V.int (bs.map toI).sum = V.int 1), rfl, ?_⟩
  by_cases hs : (bs.map toI).sum = 1
  · have ed : errD bs = .str (codes5.getD (bs.idxOf true) []) := if_pos hs
    dsimp only
    rw [if_neg (by rw [hs]; decide)]
    refine ⟨by rw [show (tx5.map V.str).length = 5 from rfl]; exact sizeLine_eq ▸ by decide, fun q2 hq2 => ?_⟩
    have m := mem_of_sum hs
    have li : bs.idxOf true < bs.length := List.idxOf_lt_length_iff.mpr m
    have gi : bs[bs.idxOf true]? = some true := by
      rw [List.getElem?_eq_getElem li]
      exact congrArg some (List.getElem_idxOf li)
    have ne : q2 ≠ q := fun z => by rw [z, e1] at hq2; cases hq2
    have e2 : (upd H1 q2 (.lst (tx5.map V.str))) q = some (.lst (bs.map V.bl)) := by rw [upd_ne (Ne.symm ne)]; exact e1
    refine ⟨.ref q, rfl, .inl ⟨rfl, _, .inl (.inl e2)⟩, q, bs.map V.bl, .bl true, bs.idxOf true, .bl true, rfl, rfl, .inl (.inl e2), rfl, ?_, by rw [List.getElem?_map, gi]; rfl, rfl, fun j z hj hz => ?_, ?_⟩
    · rw [List.all_eq_true]
      intro z hz
      obtain ⟨b, _, e⟩ := List.mem_map.mp hz
      subst e
      rfl
    · rw [List.getElem?_map] at hz
      have hjl : j < bs.length := by omega
      rw [List.getElem?_eq_getElem hjl] at hz
      cases hz
      have := List.not_of_lt_findIdx (p := (· == true)) (xs := bs) (by simpa [List.idxOf] using hj)
      cases hb : bs[j] with
      | false => rfl
      | true => rw [hb] at this; cases this
    · have c5 : ∃ s, codes5[bs.idxOf true]? = some s := ⟨codes5[bs.idxOf true]'(by rw [hl] at li; exact li), List.getElem?_eq_getElem _⟩
      obtain ⟨s, es⟩ := c5
      have ds : codes5.getD (bs.idxOf true) [] = s := by rw [List.getD_eq_getElem?_getD, es]; rfl
      have tj : (tx5.map V.str)[bs.idxOf true]? = some (.str (tx s)) := by rw [← codes_tx, List.getElem?_map, List.getElem?_map, es]; rfl
      refine ⟨q2, tx5.map V.str, (bs.idxOf true : Int), .str (tx s), rfl, rfl, .inl (.inl upd_same), ?_, ?_⟩
      · unfold L2.atI L2.ixN
        rw [if_pos (by omega), if_pos (by rw [show (tx5.map V.str).length = 5 from rfl]; omega)]
        exact tj
      · have R2 := R1.new (o := .lst (tx5.map V.str)) hq2
        refine fin _ g _ (s1.trans R R1 (Step.new R1 hq2)) R2 ?_
        rw [ed, ds]
        exact ⟨rfl, codes_ok s (List.mem_of_getElem? es)⟩
  · have ed : errD bs = .str [111, 100, 100] := if_neg hs
    dsimp only
    rw [if_pos (by simp; exact hs)]
    refine fin _ g H1 s1 R1 ?_
    rw [ed]
    exact ⟨congrArg V.str odd_tx.symm, fun c hc => by simp only [List.mem_cons, List.not_mem_nil, or_false] at hc; omega⟩

/-- the checks of that def -/
def errS (sc : Scope) : Bool := decide (sc.names.lookup ("e" : Str) = some .local) && decide (sc.names.lookup ("names" : Str) = some .local) && decide (sc.names.lookup ("isinstance" : Str) = some .globalImplicit) && decide (sc.names.lookup ("sum" : Str) = some .globalImplicit) && cl5.all fun n => decide (sc.names.lookup n = some .globalImplicit)
def excB (K : PySem.W.Frag) (D : Addr) : Bool :=
  He.eqO (PySem.W.findIn K (.ref D) "__getattribute__") (some (some (.builtin "BaseException.__getattribute__"))) && He.eqO (PySem.W.findIn K (.ref D) "__getattr__") (some none) && decide (PySem.W.subIn K (.ref D) (.type "BaseException") = some true) && PySem.W.hasDictIn K D &&
    He.eqO (PySem.W.findIn K (.ref D) "__class__") (some (some (.builtin "object.__class__"))) && He.eqO (PySem.W.specialIn K (.builtin "object.__class__") "__get__") (some (some (.builtin "getset_descriptor.__get__"))) && decide (PySem.W.takesIn K (.builtin "object.__class__") = some true) && decide (PySem.W.mroIn K D (.type "object") = some true)
theorem excB_ok {K : PySem.W.Frag} {D : Addr} (h : excB K D = true) : ExcC K D := by
  unfold excB at h
  simp only [Bool.and_eq_true, decide_eq_true_eq] at h
  obtain ⟨⟨⟨⟨⟨⟨⟨h1, h2⟩, h3⟩, h4⟩, h5⟩, h6⟩, h7⟩, h8⟩ := h
  exact ⟨He.eqO_ok h1, He.eqO_ok h2, h3, h4, He.eqO_ok h5, He.eqO_ok h6, h7, h8⟩
def kitB (K : PySem.W.Frag) (D : Addr) : List Str → List Bool → Bool
  | [], [] => true
  | n :: ns, b :: bs => decide (PySem.W.kitOne K (.ref D) (.ref (He.ga K n)) = some b) && kitB K D ns bs
  | _, _ => false
theorem kitB_ok {K : PySem.W.Frag} {D : Addr} : ∀ {ns : List Str} {bs : List Bool}, kitB K D ns bs = true → KitL K D ns bs
  | [], [], _ => trivial
  | [], _ :: _, h => by simp [kitB] at h
  | _ :: _, [], h => by simp [kitB] at h
  | n :: ns, b :: bs, h => by
    rw [kitB, Bool.and_eq_true, decide_eq_true_eq] at h
    exact ⟨h.1, kitB_ok h.2⟩
/-- what the top must say for it: cs, the classes with their five answers -/
def errK (t : Txt) (cs : List (Nat × List Bool)) (K : PySem.W.Frag) : Bool :=
  (cl5.all fun n => gloB K n) && He.eqO (PySem.W.nsIn K mainGlobals "isinstance") (some none) && cs.all fun q => excB K ((t.sx K).ca q.1) && kitB K ((t.sx K).ca q.1) cl5 q.2
section
variable {t : Txt} {P : Program} {w : World} {K : PySem.W.Frag} {mg : Str → Option Value} {base : Heap}
theorem err_ok {cs : List (Nat × List Bool)} {f0 : Nat} {d0 : DT} (X : K.In base) (G : base.Ns mainGlobals mg) (fb : factB t K = true) (ek : errK t cs K = true)
    (hn : d0.name = "_law_error") (hN : d0.N = ([("e" : Str), ("names" : Str), ("one" : Str)] : List Str)) (hp : d0.ps = ([("e" : Str)] : List Str)) (hf : t.fs[f0]? = some "_law_error") (sc : scB d0.N d0.ps (C8.fnScope d0.st) = true) (es : errS (C8.fnScope d0.st) = true) (eb : errB (C8.fnBody d0.st) = true)
    (FD : ∃ fd, FunD K d0.name d0.name (C8.fnArgs d0.st) (C8.fnBody d0.st) (C8.fnScope d0.st) [] [] (He.ga K d0.name) fd) (bp : BindP d0)
    (tab : ∀ f c d, t.pg.errT f c = some d → f = f0 ∧ ∃ bs, (c, bs) ∈ cs ∧ bs.length = 5 ∧ d = errD bs) : ErrOk (t.tx P w K mg base) := by
  intro f c d hd A outer s H p g h Q E hr hg hot hpin e0 hc1 hc2 R fin
  obtain ⟨rfl, bs, hbs, hl, rfl⟩ := tab f c d hd
  obtain ⟨fdt, oc, od, dV, kV, doc, pm, an, cdv, ct, osl, efd, lk, cd, dv, kw⟩ := FD.imp fun fd F => F.ex
  subst efd
  obtain rfl : dV = .none := by
    rcases dv with ⟨_, z⟩ | ⟨z, _⟩
    · exact z
    · exact absurd rfl z
  unfold errK at ek
  simp only [Bool.and_eq_true] at ek
  obtain ⟨⟨k1, k2⟩, k3⟩ := ek
  have k4 := List.all_eq_true.mp k3 (c, bs) hbs
  rw [Bool.and_eq_true] at k4
  unfold errS at es
  simp only [Bool.and_eq_true, decide_eq_true_eq, List.all_eq_true] at es
  obtain ⟨⟨⟨⟨s1, s2⟩, s3⟩, s4⟩, s5⟩ := es
  unfold factB at fb
  simp only [Bool.and_eq_true] at fb
  have f4 := fb.1.1.2
  have blt : ∀ x ∈ used, mg x = none := fun x hx => PySem.W.mg_none_of X G (He.eqO_ok (List.all_eq_true.mp f4 x hx))
  have S := sc_of sc
  have efa : (t.sx K).fa f = He.ga K d0.name := by rw [hn]; exact fs_at hf
  have inH : K.In s.heap := e0.mod.kin.keeps fun b o e => (e0.bs b o e).1
  have nolim : s.heap.NoLimit := e0.mod.nolimit.keeps fun b o e => (e0.bs b o e).1
  have bind : BindsTo s (PySem.W.fnOf d0.name d0.name (C8.fnArgs d0.st) (C8.fnBody d0.st) (C8.fnScope d0.st) .none kV doc pm an cdv ct) ⟨[.ref p.1], []⟩ (d0.ps.zip [.ref p.1]) := .of_eq (bp kV doc pm an cdv ct [.ref p.1] (by rw [hp]; rfl))
  have kinds : ∀ y ∈ d0.ps.zip [Value.ref p.1], (C8.fnScope d0.st).names.lookup y.1 = some .local ∨ ((C8.fnScope d0.st).names.lookup y.1 = some .cell ∧ ((cellsFrom (s.heap.objs.size + 1) (C8.fnScope d0.st).names []).lookup y.1).isSome = true) := by
    rintro ⟨n, v⟩ hy
    refine (S.par n (List.of_mem_zip hy).1).imp id fun q => ⟨q, ?_⟩
    exact PySem.W.cellsFrom_some _ _ _ (.inl q)
  show codeAny (model P w) A (.call (.ref ((t.sx K).fa f)) ⟨[.ref p.1], []⟩) _ s
  rw [efa]
  refine codeAny_call_function hr.depth (inH _ _ lk) rfl S.co S.gen rfl (PySem.W.codeRec_of inH cd) (bind _ _ _ _ ?_)
  refine wpAny_newFunctionEnv_cells S.kind kinds fun env he s1' xs => ?_
  subst he
  refine ⟨nolim.keeps xs.toInCall.keep, codeAny_func ?_⟩
  have e0' : Env0 P w K mg base A outer s H := e0
  have I := L2H.inv_startH (CX := L2N.CX P w) (E := E) (p := p) S hpin e0' (vs := [V.ref p.1]) (by rw [hp]; rfl) (.cons rfl .nil) xs
  obtain ⟨hh, ws, w1, w2⟩ := id hot
  have ex : ErrX (L2H.cxH (L2N.CX P w) P w K mg base d0.N d0.name (C8.fnScope d0.st) (He.ga K d0.name) cdv A outer s H E p) p ((t.sx K).ca c) := by
    refine ⟨hN, List.mem_cons_self, excB_ok k4.1, hc1, hc2, ⟨ws, w1⟩, ⟨p, ⟨hh, ws, w1, w2⟩, List.mem_cons_self⟩, s1, s2, s3, s4, PySem.W.mg_none_of X G (He.eqO_ok k2), blt "sum" (by decide), blt "int" (by decide), fun n hn => ⟨s5 n hn, ?_⟩⟩
    exact PySem.W.mg_of X G (He.eqO_ok (List.all_eq_true.mp k1 n hn))
  have body := err_pss ex eb (kitB_ok k4.2)
  have hq : tErr K p.1 bs { nx := fun _ H' => Q .non H', rt := Q } (L2.start d0.N [V.ref p.1]) H := by
    have e : L2.start d0.N [V.ref p.1] = [some (V.ref p.1), none, none] := by rw [hN]; rfl
    rw [e]
    exact tErr_ok (S := t.sx K) hl R fin
  refine wpAny_mono (body.run [] s1' _ H _ I hq) (fun fl s2 hs => ?_) fun e s2 hs => hs
  match fl, hs with
  | .ret u, ⟨v, σ2, H2, J, r2, q2⟩ => exact ⟨v, H2, J.os, J.bare, J.base, J.hok, r2, q2⟩
  | .next, ⟨σ2, H2, J, q2⟩ => exact ⟨.non, H2, J.os, J.bare, J.base, J.hok, rfl, q2⟩
  | .brk, ⟨_, _, _, q2⟩ => exact False.elim q2
  | .cont, ⟨_, _, _, q2⟩ => exact False.elim q2
end
end So
end
section
set_option autoImplicit false
set_option maxRecDepth 100000
namespace K00
open Ev
def e_is_label_0 : CE := (.cmp .in_ (.v 1) (.g 5))
/-- is_label(text): 0=text 1=sign -/
def d_is_label : Def := ⟨1, 2, true, (.cons (.ite (.or (.cons (.not (.e (.chn .le .le (.c (.int 1)) (.bi .len (.cons (.v 0) .nil)) (.g 0)))) (.cons (.e (.cmp .notin (.ix (.v 0) (.c (.int 0))) (.g 4))) .nil))) (.cons (.ret (.c (.bl false)))
    .nil) .nil)
    (.cons (.ret (.bi .all (.cons (.fr (.lc e_is_label_0 (.nm 1) (.it (.v 0)) .yes)) .nil)))
    .nil))⟩
def e_rising_0 : CE := (.cmp .lt (.v 1) (.v 2))
/-- rising(row): 0=row 1=one 2=other -/
def d_rising : Def := ⟨1, 3, true, (.cons (.ret (.bi .all (.cons (.fr (.lc e_rising_0 (.tp (.cons (.nm 1) (.cons (.nm 2) .nil))) (.zip (.cons (.v 0) (.cons (.sl (.v 0) (.so (.c (.int 1))) .no) .nil))) .yes)) .nil)))
    .nil)⟩
def b_measured_0 : CSs := (.cons (.asg (.tp (.cons (.nm 4) (.cons (.nm 5) .nil))) (.call 2 (.cons (.v 1) .nil)))
    (.cons (.aug 2 .add (.v 4))
    (.cons (.asg (.nm 3) (.bi .max2 (.cons (.v 3) (.cons (.bin .add (.v 5) (.c (.int 1))) .nil))))
    .nil)))
/-- measured(document): 0=document 1=inner 2=size 3=deep 4=more 5=below -/
def d_measured : Def := ⟨1, 6, true, (.cons (.asg (.tp (.cons (.nm 2) (.cons (.nm 3) .nil))) (.tup (.cons (.c (.int 1)) (.cons (.c (.int 0)) .nil))))
    (.cons (.for_ (.nm 1) (.it (.sl (.v 0) (.so (.c (.int 1))) .no)) b_measured_0)
    (.cons (.ret (.tup (.cons (.v 2) (.cons (.v 3) .nil))))
    .nil)))⟩
def b_nodes_0 : CSs := (.cons (.expr (.mt .append (.v 2) (.cons (.tup (.cons (.tup (.star (.v 4) (.cons (.bin .sub (.v 3) (.c (.int 1))) .nil))) (.cons (.ix (.v 5) (.v 3)) .nil))) .nil)))
    .nil)
def b_nodes_1 : CSs := (.cons (.asg (.tp (.cons (.nm 4) (.cons (.nm 5) .nil))) (.mt .pop0 (.v 2) .nil))
    (.cons (.expr (.mt .append (.v 1) (.cons (.tup (.cons (.v 4) (.cons (.v 5) .nil))) .nil)))
    (.cons (.for_ (.nm 3) (.rng (.cons (.bin .sub (.bi .len (.cons (.v 5) .nil)) (.c (.int 1))) (.cons (.c (.int 0)) (.cons (.neg (.c (.int 1))) .nil)))) b_nodes_0)
    .nil)))
/-- nodes(document): 0=document 1=found 2=waiting 3=at 4=path 5=here -/
def d_nodes : Def := ⟨1, 6, true, (.cons (.asg (.nm 1) (.nw (.lst .nil)))
    (.cons (.asg (.nm 2) (.nw (.lst (.cons (.tup (.cons (.tup .nil) (.cons (.v 0) .nil))) .nil))))
    (.cons (.while_ (.e (.cmp .gt (.bi .len (.cons (.v 2) .nil)) (.c (.int 0)))) b_nodes_1)
    (.cons (.ret (.frz (.v 1)))
    .nil))))⟩
def b_check_document_0 : CSs := (.cons (.ite (.or (.cons (.not (.e (.call 0 (.cons (.ix (.v 4) (.c (.int 0))) .nil)))) (.cons (.e (.cmp .gt (.bin .sub (.bi .len (.cons (.v 4) .nil)) (.c (.int 1))) (.g 1))) .nil))) (.cons (.raise 1 [116, 104, 105, 115, 32, 105, 115, 32, 110, 111, 32, 100, 111, 99, 117, 109, 101, 110, 116])
    .nil) .nil)
    .nil)
/-- check_document(document): 0=document 1=size 2=deep 3=_ 4=here -/
def d_check_document : Def := ⟨1, 5, true, (.cons (.asg (.tp (.cons (.nm 1) (.cons (.nm 2) .nil))) (.call 2 (.cons (.v 0) .nil)))
    (.cons (.ite (.or (.cons (.e (.cmp .gt (.v 1) (.g 2))) (.cons (.e (.cmp .gt (.v 2) (.g 3))) .nil))) (.cons (.raise 2 [116, 104, 101, 32, 100, 111, 99, 117, 109, 101, 110, 116, 32, 105, 115, 32, 116, 111, 111, 32, 108, 97, 114, 103, 101])
    .nil) .nil)
    (.cons (.for_ (.tp (.cons (.nm 3) (.cons (.nm 4) .nil))) (.it (.call 3 (.cons (.v 0) .nil))) b_check_document_0)
    (.cons (.ret (.c .non))
    .nil))))⟩
/-- size(document): 0=document -/
def d_size : Def := ⟨1, 1, true, (.cons (.expr (.call 4 (.cons (.v 0) .nil)))
    (.cons (.ret (.ix (.call 2 (.cons (.v 0) .nil)) (.c (.int 0))))
    .nil))⟩
/-- depth(document): 0=document -/
def d_depth : Def := ⟨1, 1, true, (.cons (.expr (.call 4 (.cons (.v 0) .nil)))
    (.cons (.ret (.ix (.call 2 (.cons (.v 0) .nil)) (.c (.int 1))))
    .nil))⟩
def e_signs_of_0 : CE := (.tup (.cons (.ix (.v 2) (.c (.int 0))) (.cons (.bin .sub (.bi .len (.cons (.v 2) .nil)) (.c (.int 1))) .nil)))
/-- signs_of(document): 0=document 1=_ 2=here -/
def d_signs_of : Def := ⟨1, 3, true, (.cons (.expr (.call 4 (.cons (.v 0) .nil)))
    (.cons (.ret (.bi .tuple_ (.cons (.fr (.sortdict e_signs_of_0 (.tp (.cons (.nm 1) (.cons (.nm 2) .nil))) (.it (.call 3 (.cons (.v 0) .nil))) .yes)) .nil)))
    .nil))⟩
def e_check_signs_0 : CE := (.and (.cons (.call 0 (.cons (.v 1) .nil)) (.cons (.chn .le .le (.c (.int 0)) (.v 2) (.g 1)) .nil)))
/-- check_signs(signs): 0=signs 1=label 2=rank -/
def d_check_signs : Def := ⟨1, 3, true, (.cons (.ite (.or (.cons (.not (.e (.call 1 (.cons (.v 0) .nil)))) (.cons (.not (.e (.bi .all (.cons (.fr (.lc e_check_signs_0 (.tp (.cons (.nm 1) (.cons (.nm 2) .nil))) (.it (.v 0)) .yes)) .nil)))) .nil))) (.cons (.raise 1 [116, 104, 101, 115, 101, 32, 97, 114, 101, 32, 110, 111, 32, 115, 105, 103, 110, 115])
    .nil) .nil)
    (.cons (.ret (.c .non))
    .nil))⟩
def e_paths_0 : CE := (.v 1)
/-- paths(document): 0=document 1=path 2=_ -/
def d_paths : Def := ⟨1, 3, true, (.cons (.expr (.call 4 (.cons (.v 0) .nil)))
    (.cons (.ret (.fr (.lc e_paths_0 (.tp (.cons (.nm 1) (.cons (.nm 2) .nil))) (.it (.call 3 (.cons (.v 0) .nil))) .yes)))
    .nil))⟩
/-- _law_same(told, due): 0=told 1=due -/
def d_law_same : Def := ⟨2, 2, true, (.cons (.ret (.cmp .eq (.bi .repr (.cons (.fr (.lst (.cons (.v 0) .nil))) .nil)) (.bi .repr (.cons (.fr (.lst (.cons (.v 1) .nil))) .nil))))
    .nil)⟩
def b_law_stream_0 : CSs := (.cons (.expr (.mt .append (.v 1) (.cons (.bin .mod (.bi .int_ (.cons (.v 3) .nil)) (.c (.int 1009))) .nil)))
    (.cons (.asg (.nm 3) (.bin .fdiv (.v 3) (.c (.int 1009))))
    (.cons (.ite (.e (.cmp .eq (.v 3) (.c (.int 0)))) (.cons .brk
    .nil) .nil)
    .nil)))
def b_law_stream_1 : CSs := (.cons (.asg (.nm 5) (.bin .mod (.bi .int_ (.cons (.bin .add (.bin .add (.bin .mul (.v 5) (.c (.int 48271))) (.bin .mul (.c (.int 7)) (.v 4))) (.c (.int 11))) .nil)) (.c (.int 2147483647))))
    (.cons (.expr (.mt .append (.v 1) (.cons (.bin .mod (.bin .mod (.bi .int_ (.cons (.bin .add (.bin .mul (.v 5) (.c (.int 69621))) (.v 4)) .nil)) (.c (.int 2147483629))) (.c (.int 1009))) .nil)))
    .nil))
def b_law_stream_2 : CSs := (.cons (.asg (.nm 3) (.bi .abs (.cons (.bi .int_ (.cons (.v 2) .nil)) .nil)))
    (.cons (.ite (.e (.cmp .ge (.v 3) (.bin .pow (.c (.int 10)) (.c (.int 18))))) (.cons (.for_ (.nm 4) (.rng (.cons (.c (.int 60)) .nil)) b_law_stream_0)
    .nil) (.cons (.asg (.nm 5) (.bin .mod (.bi .int_ (.cons (.v 3) .nil)) (.c (.int 2147483647))))
    (.cons (.for_ (.nm 4) (.rng (.cons (.c (.int 10)) .nil)) b_law_stream_1)
    .nil)))
    .nil))
/-- _law_stream(script): 0=script 1=numbers 2=cell 3=rest 4=k 5=stirred -/
def d_law_stream : Def := ⟨1, 6, true, (.cons (.asg (.nm 1) (.nw (.lst .nil)))
    (.cons (.for_ (.nm 2) (.it (.sl (.v 0) .no (.so (.c (.int 63))))) b_law_stream_2)
    (.cons (.ite (.e (.cmp .eq (.bi .len (.cons (.v 1) .nil)) (.c (.int 0)))) (.cons (.expr (.mt .append (.v 1) (.cons (.c (.int 0)) .nil)))
    .nil) .nil)
    (.cons (.ret (.frz (.v 1)))
    .nil))))⟩
/-- _law_next(state, many): 0=state 1=many 2=turn -/
def d_law_next : Def := ⟨2, 3, true, (.cons (.setix (.v 0) (.c (.int 1)) (.bin .add (.ix (.v 0) (.c (.int 1))) (.c (.int 1))))
    (.cons (.asg (.nm 2) (.bin .fdiv (.ix (.v 0) (.c (.int 1))) (.bi .len (.cons (.ix (.v 0) (.c (.int 0))) .nil))))
    (.cons (.ret (.bin .mod (.bi .int_ (.cons (.bin .add (.bin .add (.ix (.ix (.v 0) (.c (.int 0))) (.bin .mod (.ix (.v 0) (.c (.int 1))) (.bi .len (.cons (.ix (.v 0) (.c (.int 0))) .nil)))) (.bin .mul (.v 2) (.c (.int 389)))) (.bin .mul (.bin .mul (.ix (.v 0) (.c (.int 1))) (.v 2)) (.c (.int 17)))) .nil)) (.v 1)))
    .nil)))⟩
def d_law_error : Def := ⟨1, 0, true, .nil⟩
def e_law_is_label_0 : CE := (.cmp .in_ (.v 1) (.c (.str [97, 98, 99, 100, 101, 102, 103, 104, 105, 106, 107, 108, 109, 110, 111, 112, 113, 114, 115, 116, 117, 118, 119, 120, 121, 122, 48, 49, 50, 51, 52, 53, 54, 55, 56, 57])))
/-- _law_is_label(text): 0=text 1=sign -/
def d_law_is_label : Def := ⟨1, 2, true, (.cons (.ret (.and (.cons (.chn .le .le (.c (.int 1)) (.bi .len (.cons (.v 0) .nil)) (.c (.int 12))) (.cons (.cmp .in_ (.ix (.v 0) (.c (.int 0))) (.c (.str [97, 98, 99, 100, 101, 102, 103, 104, 105, 106, 107, 108, 109, 110, 111, 112, 113, 114, 115, 116, 117, 118, 119, 120, 121, 122]))) (.cons (.bi .all (.cons (.fr (.lc e_law_is_label_0 (.nm 1) (.it (.v 0)) .yes)) .nil)) .nil)))))
    .nil)⟩
def e_law_size_0 : CE := (.call 15 (.cons (.v 1) .nil))
/-- _law_size(document): 0=document 1=inner -/
def d_law_size : Def := ⟨1, 2, true, (.cons (.ret (.bin .add (.c (.int 1)) (.bi .sum (.cons (.fr (.lc e_law_size_0 (.nm 1) (.it (.sl (.v 0) (.so (.c (.int 1))) .no)) .yes)) .nil))))
    .nil)⟩
def e_law_depth_0 : CE := (.bin .add (.c (.int 1)) (.call 16 (.cons (.v 1) .nil)))
/-- _law_depth(document): 0=document 1=inner -/
def d_law_depth : Def := ⟨1, 2, true, (.cons (.ret (.bi .max1 (.cons (.bin .add (.fr (.lst (.cons (.c (.int 0)) .nil))) (.fr (.lc e_law_depth_0 (.nm 1) (.it (.sl (.v 0) (.so (.c (.int 1))) .no)) .yes))) .nil)))
    .nil)⟩
def b_law_nodes_0 : CSs := (.cons (.expr (.mt .extend (.v 2) (.cons (.call 17 (.cons (.ix (.v 0) (.bin .add (.v 3) (.c (.int 1)))) (.cons (.bin .add (.v 1) (.tup (.cons (.v 3) .nil))) .nil))) .nil)))
    .nil)
/-- _law_nodes(document, path): 0=document 1=path 2=found 3=k -/
def d_law_nodes : Def := ⟨2, 4, true, (.cons (.asg (.nm 2) (.nw (.lst (.cons (.tup (.cons (.v 1) (.cons (.v 0) .nil))) .nil))))
    (.cons (.for_ (.nm 3) (.rng (.cons (.bin .sub (.bi .len (.cons (.v 0) .nil)) (.c (.int 1))) .nil)) b_law_nodes_0)
    (.cons (.ret (.frz (.v 2)))
    .nil)))⟩
/-- _law_put(document, path, other): 0=document 1=path 2=other 3=at -/
def d_law_put : Def := ⟨3, 4, true, (.cons (.ite (.e (.cmp .eq (.bi .len (.cons (.v 1) .nil)) (.c (.int 0)))) (.cons (.ret (.v 2))
    .nil) .nil)
    (.cons (.asg (.nm 3) (.bin .add (.ix (.v 1) (.c (.int 0))) (.c (.int 1))))
    (.cons (.ret (.bin .add (.bin .add (.sl (.v 0) .no (.so (.v 3))) (.tup (.cons (.call 18 (.cons (.ix (.v 0) (.v 3)) (.cons (.sl (.v 1) (.so (.c (.int 1))) .no) (.cons (.v 2) .nil)))) .nil))) (.sl (.v 0) (.so (.bin .add (.v 3) (.c (.int 1)))) .no)))
    .nil)))⟩
def b_law_label_0 : CSs := (.cons (.asg (.nm 2) (.bin .add (.v 2) (.ix (.bin .add (.v 1) (.c (.str [48, 49, 50, 51, 52, 53, 54, 55, 56, 57]))) (.call 12 (.cons (.v 0) (.cons (.c (.int 36)) .nil))))))
    .nil)
/-- _law_label(state): 0=state 1=letters 2=word 3=k -/
def d_law_label : Def := ⟨1, 4, true, (.cons (.asg (.nm 1) (.c (.str [97, 98, 99, 100, 101, 102, 103, 104, 105, 106, 107, 108, 109, 110, 111, 112, 113, 114, 115, 116, 117, 118, 119, 120, 121, 122])))
    (.cons (.asg (.nm 2) (.ix (.v 1) (.call 12 (.cons (.v 0) (.cons (.c (.int 26)) .nil)))))
    (.cons (.for_ (.nm 3) (.rng (.cons (.ix (.fr (.lst (.cons (.c (.int 0)) (.cons (.c (.int 0)) (.cons (.c (.int 1)) (.cons (.c (.int 2)) (.cons (.c (.int 11)) .nil))))))) (.call 12 (.cons (.v 0) (.cons (.c (.int 5)) .nil)))) .nil)) b_law_label_0)
    (.cons (.ret (.v 2))
    .nil))))⟩
def b_law_signs_0 : CSs := (.cons (.expr (.mt .append (.v 2) (.cons (.tup (.cons (.call 19 (.cons (.v 0) .nil)) (.cons (.ix (.fr (.lst (.cons (.c (.int 0)) (.cons (.c (.int 1)) (.cons (.c (.int 1)) (.cons (.c (.int 2)) (.cons (.c (.int 2)) (.cons (.ix (.fr (.lst (.cons (.c (.int 2)) (.cons (.c (.int 3)) .nil)))) (.bi .int_ (.cons (.cmp .eq (.call 12 (.cons (.v 0) (.cons (.c (.int 5)) .nil))) (.c (.int 0))) .nil))) .nil)))))))) (.call 12 (.cons (.v 0) (.cons (.c (.int 6)) .nil)))) .nil))) .nil)))
    .nil)
/-- _law_signs(state, most): 0=state 1=most 2=found 3=k -/
def d_law_signs : Def := ⟨2, 4, true, (.cons (.asg (.nm 2) (.nw (.lst (.cons (.tup (.cons (.call 19 (.cons (.v 0) .nil)) (.cons (.c (.int 0)) .nil))) .nil))))
    (.cons (.for_ (.nm 3) (.rng (.cons (.call 12 (.cons (.v 0) (.cons (.v 1) .nil))) .nil)) b_law_signs_0)
    (.cons (.ret (.bi .tuple_ (.cons (.fr (.sortset (.v 2))) .nil)))
    .nil)))⟩
def e_law_document_0 : CE := (.v 10)
def s_law_document_0 : CS := (.asg (.nm 3) (.fr (.lc e_law_document_0 (.tp (.cons (.nm 9) (.cons (.nm 10) .nil))) (.it (.v 1)) .yes)))
def c_law_document_0 : CT := (.e (.cmp .eq (.v 10) (.c (.int 0))))
def e_law_document_1 : CE := (.v 9)
def s_law_document_1 : CS := (.asg (.nm 4) (.fr (.lc e_law_document_1 (.tp (.cons (.nm 9) (.cons (.nm 10) .nil))) (.it (.v 1)) c_law_document_0)))
def s_law_document_2 : CS := (.ite (.or (.cons (.e (.cmp .lt (.v 2) (.c (.int 2)))) (.cons (.e (.cmp .eq (.bi .max1 (.cons (.v 3) .nil)) (.c (.int 0)))) .nil))) (.cons (.ret (.tup (.cons (.ix (.v 4) (.call 12 (.cons (.v 0) (.cons (.bi .len (.cons (.v 4) .nil)) .nil)))) .nil)))
    .nil) .nil)
def c_law_document_1 : CT := (.and (.cons (.e (.cmp .gt (.ix (.v 12) (.c (.int 1))) (.c (.int 0)))) (.cons (.e (.cmp .lt (.ix (.v 12) (.c (.int 1))) (.v 2))) .nil)))
def e_law_document_2 : CE := (.v 12)
def s_law_document_3 : CS := (.asg (.nm 5) (.fr (.lc e_law_document_2 (.nm 12) (.it (.v 1)) c_law_document_1)))
def s_law_document_4 : CS := (.ite (.e (.cmp .eq (.bi .len (.cons (.v 5) .nil)) (.c (.int 0)))) (.cons (.ret (.tup (.cons (.ix (.v 4) (.call 12 (.cons (.v 0) (.cons (.bi .len (.cons (.v 4) .nil)) .nil)))) .nil)))
    .nil) .nil)
def s_law_document_5 : CS := (.asg (.tp (.cons (.nm 9) (.cons (.nm 10) .nil))) (.ix (.v 5) (.call 12 (.cons (.v 0) (.cons (.bi .len (.cons (.v 5) .nil)) .nil)))))
def s_law_document_6 : CS := (.asg (.nm 6) (.bin .sub (.v 2) (.c (.int 1))))
def s_law_document_7 : CS := (.asg (.nm 7) (.nw (.lst .nil)))
def b_law_document_0 : CSs := (.cons (.asg (.nm 11) (.bin .sub (.v 6) (.bin .sub (.bin .sub (.v 10) (.v 8)) (.c (.int 1)))))
    (.cons (.ite (.e (.cmp .lt (.v 8) (.bin .sub (.v 10) (.c (.int 1))))) (.cons (.asg (.nm 11) (.bin .add (.c (.int 1)) (.call 12 (.cons (.v 0) (.cons (.v 11) .nil)))))
    .nil) .nil)
    (.cons (.expr (.mt .append (.v 7) (.cons (.call 21 (.cons (.v 0) (.cons (.v 1) (.cons (.v 11) .nil)))) .nil)))
    (.cons (.asg (.nm 6) (.bin .sub (.v 6) (.v 11)))
    .nil))))
def s_law_document_8 : CS := (.for_ (.nm 8) (.rng (.cons (.v 10) .nil)) b_law_document_0)
def s_law_document_9 : CS := (.ret (.bin .add (.tup (.cons (.v 9) .nil)) (.bi .tuple_ (.cons (.v 7) .nil))))
/-- _law_document(state, signs, whole): 0=state 1=signs 2=whole 3=ranks 4=leaves 5=rows 6=left 7=inner 8=k 9=label 10=rank 11=own 12=sign -/
def d_law_document : Def := ⟨3, 13, true, (.cons s_law_document_0
    (.cons s_law_document_1
    (.cons s_law_document_2
    (.cons s_law_document_3
    (.cons s_law_document_4
    (.cons s_law_document_5
    (.cons s_law_document_6
    (.cons s_law_document_7
    (.cons s_law_document_8
    (.cons s_law_document_9
    .nil))))))))))⟩
def e_law_document_due_0 : CE := (.and (.cons (.call 14 (.cons (.ix (.v 2) (.c (.int 0))) .nil)) (.cons (.cmp .lt (.bi .len (.cons (.v 2) .nil)) (.c (.int 5))) .nil)))
/-- _law_document_due(document): 0=document 1=path 2=here -/
def d_law_document_due : Def := ⟨1, 3, true, (.cons (.ite (.or (.cons (.e (.cmp .gt (.call 15 (.cons (.v 0) .nil)) (.c (.int 300)))) (.cons (.e (.cmp .gt (.call 16 (.cons (.v 0) .nil)) (.c (.int 40)))) .nil))) (.cons (.ret (.c (.str [108, 97, 114, 103, 101])))
    .nil) .nil)
    (.cons (.ret (.ix (.fr (.lst (.cons (.c .non) (.cons (.c (.str [114, 101, 102, 117, 115, 101, 100])) .nil)))) (.bi .int_ (.cons (.not (.bi .all (.cons (.fr (.lc e_law_document_due_0 (.tp (.cons (.nm 1) (.cons (.nm 2) .nil))) (.it (.call 17 (.cons (.v 0) (.cons (.tup .nil) .nil)))) .yes)) .nil))) .nil))))
    .nil))⟩
/-- _law_odd_document(state, document): 0=state 1=document 2=rows 3=word 4=path 5=here -/
def d_law_odd_document : Def := ⟨2, 6, true, (.cons (.asg (.nm 2) (.call 17 (.cons (.v 1) (.cons (.tup .nil) .nil))))
    (.cons (.asg (.tp (.cons (.nm 4) (.cons (.nm 5) .nil))) (.ix (.v 2) (.call 12 (.cons (.v 0) (.cons (.bi .len (.cons (.v 2) .nil)) .nil)))))
    (.cons (.asg (.nm 3) (.ix (.fr (.lst (.cons (.c (.str [])) (.cons (.c (.str [65])) (.cons (.c (.str [49, 97])) (.cons (.c (.str [97, 32, 98])) (.cons (.c (.str [97, 98, 99, 100, 101, 102, 103, 104, 105, 106, 107, 108, 109])) (.cons (.c (.str [63, 120])) (.cons (.c (.str [97, 95])) .nil))))))))) (.call 12 (.cons (.v 0) (.cons (.c (.int 7)) .nil)))))
    (.cons (.ret (.call 18 (.cons (.v 1) (.cons (.v 4) (.cons (.ix (.fr (.lst (.cons (.bin .add (.tup (.cons (.v 3) .nil)) (.sl (.v 5) (.so (.c (.int 1))) .no)) (.cons (.bin .add (.v 5) (.bin .mul (.tup (.cons (.tup (.cons (.c (.str [97])) .nil)) .nil)) (.bin .sub (.c (.int 5)) (.bi .len (.cons (.v 5) .nil))))) (.cons (.bin .add (.v 5) (.tup (.cons (.tup (.cons (.v 3) .nil)) .nil))) .nil))))) (.call 12 (.cons (.v 0) (.cons (.c (.int 3)) .nil)))) .nil)))))
    .nil))))⟩
/-- _law_told(kind, document): 0=kind 1=document 2=e -/
def d_law_told : Def := ⟨2, 3, true, (.cons (.try_ (.cons (.ite (.e (.cmp .eq (.v 0) (.c (.int 0)))) (.cons (.ret (.call 4 (.cons (.v 1) .nil)))
    .nil) .nil)
    (.cons (.ret (.tup (.cons (.c (.str [116, 111, 108, 100])) (.cons (.callv (.ix (.fr (.lst (.cons (.f 5) (.cons (.f 6) (.cons (.f 7) (.cons (.f 9) .nil)))))) (.bin .sub (.v 0) (.c (.int 1)))) (.cons (.v 1) .nil)) .nil))))
    .nil)) [0, 1, 2, 3, 4, 5] (.err 13))
    .nil)⟩
/-- _law_signs_told(signs): 0=signs 1=e -/
def d_law_signs_told : Def := ⟨1, 2, true, (.cons (.try_ (.cons (.ret (.call 8 (.cons (.v 0) .nil)))
    .nil) [0, 1, 2, 3, 4, 5] (.err 13))
    .nil)⟩
def b_law_chain_0 : CSs := (.cons (.asg (.nm 1) (.tup (.cons (.c (.str [103])) (.cons (.v 1) .nil))))
    .nil)
/-- _law_chain(many): 0=many 1=document 2=k -/
def d_law_chain : Def := ⟨1, 3, true, (.cons (.asg (.nm 1) (.tup (.cons (.c (.str [97])) .nil)))
    (.cons (.for_ (.nm 2) (.rng (.cons (.v 0) .nil)) b_law_chain_0)
    (.cons (.ret (.v 1))
    .nil)))⟩
/-- _law_exact(many): 0=many 1=third -/
def d_law_exact : Def := ⟨1, 2, true, (.cons (.ite (.e (.cmp .eq (.v 0) (.c (.int 1)))) (.cons (.ret (.tup (.cons (.c (.str [97])) .nil)))
    .nil) .nil)
    (.cons (.ite (.e (.cmp .lt (.v 0) (.c (.int 4)))) (.cons (.ret (.tup (.cons (.c (.str [103])) (.cons (.call 27 (.cons (.bin .sub (.v 0) (.c (.int 1))) .nil)) .nil))))
    .nil) .nil)
    (.cons (.asg (.nm 1) (.bin .fdiv (.bin .sub (.v 0) (.c (.int 1))) (.c (.int 3))))
    (.cons (.ret (.tup (.cons (.c (.str [102])) (.cons (.call 27 (.cons (.v 1) .nil)) (.cons (.call 27 (.cons (.v 1) .nil)) (.cons (.call 27 (.cons (.bin .sub (.bin .sub (.v 0) (.c (.int 1))) (.bin .mul (.c (.int 2)) (.v 1))) .nil)) .nil))))))
    .nil))))⟩
def s_law_0 : CS := (.asg (.nm 1) (.nw (.lst (.cons (.call 11 (.cons (.v 0) .nil)) (.cons (.c (.int 0)) .nil)))))
def u_law_0 : CS := (.asg (.nm 6) (.call 20 (.cons (.v 1) (.cons (.c (.int 6)) .nil))))
def u_law_1 : CS := (.asg (.nm 7) (.call 21 (.cons (.v 1) (.cons (.v 6) (.cons (.bin .add (.c (.int 1)) (.call 12 (.cons (.v 1) (.cons (.c (.int 20)) .nil)))) .nil)))))
def u_law_2 : CS := (.asg (.nm 8) (.bi .repr (.cons (.v 7) .nil)))
def u_law_3 : CS := (.asg (.nm 3) (.call 17 (.cons (.v 7) (.cons (.tup .nil) .nil))))
def e_law_0 : CE := (.tup (.cons (.ix (.v 16) (.c (.int 0))) (.cons (.bin .sub (.bi .len (.cons (.v 16) .nil)) (.c (.int 1))) .nil)))
def u_law_4 : CS := (.asg (.nm 9) (.bi .tuple_ (.cons (.fr (.sortset (.fr (.lc e_law_0 (.tp (.cons (.nm 15) (.cons (.nm 16) .nil))) (.it (.v 3)) .yes)))) .nil)))
def e_law_1 : CE := (.v 15)
def u_law_5 : CS := (.asg (.nm 10) (.fr (.lst (.cons (.c .non) (.cons (.tup (.cons (.c (.str [116, 111, 108, 100])) (.cons (.bi .len (.cons (.v 3) .nil)) .nil))) (.cons (.tup (.cons (.c (.str [116, 111, 108, 100])) (.cons (.call 16 (.cons (.v 7) .nil)) .nil))) (.cons (.tup (.cons (.c (.str [116, 111, 108, 100])) (.cons (.v 9) .nil))) (.cons (.tup (.cons (.c (.str [116, 111, 108, 100])) (.cons (.fr (.lc e_law_1 (.tp (.cons (.nm 15) (.cons (.nm 16) .nil))) (.it (.v 3)) .yes)) .nil))) .nil))))))))
def e_law_2 : CE := (.call 24 (.cons (.v 17) (.cons (.v 7) .nil)))
def u_law_6 : CS := (.ite (.or (.cons (.not (.e (.call 10 (.cons (.fr (.lc e_law_2 (.nm 17) (.rng (.cons (.c (.int 5)) .nil)) .yes)) (.cons (.v 10) .nil))))) (.cons (.e (.cmp .isnot (.call 25 (.cons (.v 6) .nil)) (.c .non))) .nil))) (.cons (.ret (.c (.bl false)))
    .nil) .nil)
def u_law_7 : CS := (.asg (.nm 11) (.call 23 (.cons (.v 1) (.cons (.v 7) .nil))))
def u_law_8 : CS := (.asg (.nm 10) (.call 22 (.cons (.v 11) .nil)))
def e_law_3 : CE := (.call 24 (.cons (.v 17) (.cons (.v 11) .nil)))
def u_law_9 : CS := (.ite (.or (.cons (.not (.e (.call 10 (.cons (.fr (.lc e_law_3 (.nm 17) (.rng (.cons (.c (.int 5)) .nil)) .yes)) (.cons (.fr (.rep (.fr (.lst (.cons (.v 10) .nil))) (.c (.int 5)))) .nil))))) (.cons (.e (.cmp .ne (.v 10) (.c (.str [114, 101, 102, 117, 115, 101, 100])))) (.cons (.e (.cmp .ne (.bi .repr (.cons (.v 7) .nil)) (.v 8))) .nil)))) (.cons (.ret (.c (.bl false)))
    .nil) .nil)
def u_law_10 : CS := (.asg (.nm 12) (.fr (.lst (.cons (.bin .add (.v 6) (.sl (.v 6) (.so (.neg (.c (.int 1)))) .no)) (.cons (.tup (.cons (.tup (.cons (.c (.str [98])) (.cons (.c (.int 0)) .nil))) (.cons (.tup (.cons (.c (.str [97])) (.cons (.c (.int 0)) .nil))) .nil))) (.cons (.tup (.cons (.tup (.cons (.c (.str [97])) (.cons (.c (.int 4)) .nil))) .nil)) (.cons (.tup (.cons (.tup (.cons (.c (.str [97])) (.cons (.neg (.c (.int 1))) .nil))) .nil)) (.cons (.tup (.cons (.tup (.cons (.c (.str [65])) (.cons (.c (.int 0)) .nil))) .nil)) .nil))))))))
def e_law_4 : CE := (.call 25 (.cons (.v 14) .nil))
def u_law_11 : CS := (.ite (.e (.cmp .ne (.fr (.lc e_law_4 (.nm 14) (.it (.v 12)) .yes)) (.fr (.rep (.fr (.lst (.cons (.c (.str [114, 101, 102, 117, 115, 101, 100])) .nil))) (.c (.int 5)))))) (.cons (.ret (.c (.bl false)))
    .nil) .nil)
def b_law_0 : CSs := (.cons u_law_0
    (.cons u_law_1
    (.cons u_law_2
    (.cons u_law_3
    (.cons u_law_4
    (.cons u_law_5
    (.cons u_law_6
    (.cons u_law_7
    (.cons u_law_8
    (.cons u_law_9
    (.cons u_law_10
    (.cons u_law_11
    .nil))))))))))))
def s_law_1 : CS := (.for_ (.nm 2) (.rng (.cons (.c (.int 5)) .nil)) b_law_0)
def s_law_2 : CS := (.asg (.nm 3) (.fr (.lst (.cons (.call 26 (.cons (.c (.int 40)) .nil)) (.cons (.call 26 (.cons (.c (.int 41)) .nil)) (.cons (.bin .add (.tup (.cons (.c (.str [65])) .nil)) (.tup (.cons (.call 26 (.cons (.c (.int 41)) .nil)) .nil))) .nil))))))
def e_law_5 : CE := (.call 24 (.cons (.c (.int 0)) (.cons (.v 14) .nil)))
def s_law_3 : CS := (.ite (.not (.e (.call 10 (.cons (.fr (.lc e_law_5 (.nm 14) (.it (.v 3)) .yes)) (.cons (.fr (.lst (.cons (.c .non) (.cons (.c (.str [108, 97, 114, 103, 101])) (.cons (.c (.str [108, 97, 114, 103, 101])) .nil))))) .nil))))) (.cons (.ret (.c (.bl false)))
    .nil) .nil)
def s_law_4 : CS := (.asg (.nm 4) (.bin .add (.c (.int 300)) (.call 12 (.cons (.v 1) (.cons (.c (.int 2)) .nil)))))
def s_law_5 : CS := (.ite (.not (.e (.call 10 (.cons (.fr (.lst (.cons (.call 24 (.cons (.c (.int 0)) (.cons (.call 27 (.cons (.v 4) .nil)) .nil))) (.cons (.call 24 (.cons (.c (.int 1)) (.cons (.call 27 (.cons (.v 4) .nil)) .nil))) .nil)))) (.cons (.ix (.fr (.lst (.cons (.fr (.lst (.cons (.c .non) (.cons (.tup (.cons (.c (.str [116, 111, 108, 100])) (.cons (.c (.int 300)) .nil))) .nil)))) (.cons (.fr (.lst (.cons (.c (.str [108, 97, 114, 103, 101])) (.cons (.c (.str [108, 97, 114, 103, 101])) .nil)))) .nil)))) (.bin .sub (.v 4) (.c (.int 300)))) .nil))))) (.cons (.ret (.c (.bl false)))
    .nil) .nil)
def e_law_6 : CE := (.call 0 (.cons (.v 13) .nil))
def s_law_6 : CS := (.asg (.nm 5) (.fr (.lc e_law_6 (.nm 13) (.it (.fr (.lst (.cons (.c (.str [97])) (.cons (.c (.str [97, 49])) (.cons (.c (.str [])) (.cons (.c (.str [65])) (.cons (.c (.str [49])) (.cons (.c (.str [97, 95])) (.cons (.c (.str [97, 98, 99, 100, 101, 102, 103, 104, 105, 106, 107, 108])) (.cons (.c (.str [97, 98, 99, 100, 101, 102, 103, 104, 105, 106, 107, 108, 109])) (.cons (.c (.str [63, 120])) (.cons (.c (.str [97, 32, 98])) .nil))))))))))))) .yes)))
def s_law_7 : CS := (.ite (.e (.cmp .ne (.v 5) (.fr (.lst (.cons (.c (.bl true)) (.cons (.c (.bl true)) (.cons (.c (.bl false)) (.cons (.c (.bl false)) (.cons (.c (.bl false)) (.cons (.c (.bl false)) (.cons (.c (.bl true)) (.cons (.c (.bl false)) (.cons (.c (.bl false)) (.cons (.c (.bl false)) .nil)))))))))))))) (.cons (.ret (.c (.bl false)))
    .nil) .nil)
def s_law_8 : CS := (.ret (.cmp .eq (.tup (.cons (.g 0) (.cons (.g 1) (.cons (.g 2) (.cons (.g 3) .nil))))) (.tup (.cons (.c (.int 12)) (.cons (.c (.int 3)) (.cons (.c (.int 300)) (.cons (.c (.int 40)) .nil)))))))
/-- law(script): 0=script 1=state 2=turn 3=rows 4=many 5=words 6=signs 7=document 8=kept 9=told 10=due 11=odd 12=bad 13=word 14=one 15=path 16=here 17=kind -/
def d_law : Def := ⟨1, 18, false, (.cons s_law_0
    (.cons s_law_1
    (.cons s_law_2
    (.cons s_law_3
    (.cons s_law_4
    (.cons s_law_5
    (.cons s_law_6
    (.cons s_law_7
    (.cons s_law_8
    .nil)))))))))⟩
def defs : List Def := [d_is_label, d_rising, d_measured, d_nodes, d_check_document, d_size, d_depth, d_signs_of, d_check_signs, d_paths, d_law_same, d_law_stream, d_law_next, d_law_error, d_law_is_label, d_law_size, d_law_depth, d_law_nodes, d_law_put, d_law_label, d_law_signs, d_law_document, d_law_document_due, d_law_odd_document, d_law_told, d_law_signs_told, d_law_chain, d_law_exact, d_law]
def glob : List D := [.int 12, .int 3, .int 300, .int 40, .str [97, 98, 99, 100, 101, 102, 103, 104, 105, 106, 107, 108, 109, 110, 111, 112, 113, 114, 115, 116, 117, 118, 119, 120, 121, 122], .str [97, 98, 99, 100, 101, 102, 103, 104, 105, 106, 107, 108, 109, 110, 111, 112, 113, 114, 115, 116, 117, 118, 119, 120, 121, 122, 48, 49, 50, 51, 52, 53, 54, 55, 56, 57]]
def errT (f c : Nat) : Option D := if f = 13 then (match c with | 0 => some (.str [111, 100, 100]) | 1 => some (.str [114, 101, 102, 117, 115, 101, 100]) | 2 => some (.str [108, 97, 114, 103, 101]) | 3 => some (.str [109, 105, 115, 115, 105, 110, 103]) | 4 => some (.str [112, 97, 112, 101, 114]) | _ => none) else none
def prog : Prog := ⟨defs, glob, errT, 6⟩
abbrev i_is_label : Nat := 0
abbrev i_rising : Nat := 1
abbrev i_measured : Nat := 2
abbrev i_nodes : Nat := 3
abbrev i_check_document : Nat := 4
abbrev i_size : Nat := 5
abbrev i_depth : Nat := 6
abbrev i_signs_of : Nat := 7
abbrev i_check_signs : Nat := 8
abbrev i_paths : Nat := 9
abbrev i_law_same : Nat := 10
abbrev i_law_stream : Nat := 11
abbrev i_law_next : Nat := 12
abbrev i_law_error : Nat := 13
abbrev i_law_is_label : Nat := 14
abbrev i_law_size : Nat := 15
abbrev i_law_depth : Nat := 16
abbrev i_law_nodes : Nat := 17
abbrev i_law_put : Nat := 18
abbrev i_law_label : Nat := 19
abbrev i_law_signs : Nat := 20
abbrev i_law_document : Nat := 21
abbrev i_law_document_due : Nat := 22
abbrev i_law_odd_document : Nat := 23
abbrev i_law_told : Nat := 24
abbrev i_law_signs_told : Nat := 25
abbrev i_law_chain : Nat := 26
abbrev i_law_exact : Nat := 27
abbrev i_law : Nat := 28
abbrev x_FormError : Nat := 0
abbrev x_NotAllowed : Nat := 1
abbrev x_TooLarge : Nat := 2
abbrev x_Missing : Nat := 3
abbrev x_BadPaper : Nat := 4
abbrev x_BadForm : Nat := 5
end K00
end
section
set_option Elab.async false
set_option autoImplicit false
set_option maxRecDepth 100000
set_option maxHeartbeats 0
namespace K00
open PySem PySem.Spec
def top (i : Nat) : Stmt := PySem.Challenge.pw_recastform_k00_documents_checked.main.body.getD i (.Pass ⟨0, 0, 0, 0⟩)
abbrev t_0 : So.DT := ⟨"is_label", ["text", "sign"], ["text"], top 14⟩
abbrev t_1 : So.DT := ⟨"rising", ["row", "one", "other"], ["row"], top 15⟩
abbrev t_2 : So.DT := ⟨"measured", ["document", "inner", "size", "deep", "more", "below"], ["document"], top 16⟩
abbrev t_3 : So.DT := ⟨"nodes", ["document", "found", "waiting", "at", "path", "here"], ["document"], top 17⟩
abbrev t_4 : So.DT := ⟨"check_document", ["document", "size", "deep", "_", "here"], ["document"], top 18⟩
abbrev t_5 : So.DT := ⟨"size", ["document"], ["document"], top 19⟩
abbrev t_6 : So.DT := ⟨"depth", ["document"], ["document"], top 20⟩
abbrev t_7 : So.DT := ⟨"signs_of", ["document", "_", "here"], ["document"], top 21⟩
abbrev t_8 : So.DT := ⟨"check_signs", ["signs", "label", "rank"], ["signs"], top 22⟩
abbrev t_9 : So.DT := ⟨"paths", ["document", "path", "_"], ["document"], top 23⟩
abbrev t_10 : So.DT := ⟨"_law_same", ["told", "due"], ["told", "due"], top 25⟩
abbrev t_11 : So.DT := ⟨"_law_stream", ["script", "numbers", "cell", "rest", "k", "stirred"], ["script"], top 26⟩
abbrev t_12 : So.DT := ⟨"_law_next", ["state", "many", "turn"], ["state", "many"], top 27⟩
abbrev t_13 : So.DT := ⟨"_law_error", ["e", "names", "one"], ["e"], top 28⟩
abbrev t_14 : So.DT := ⟨"_law_is_label", ["text", "sign"], ["text"], top 29⟩
abbrev t_15 : So.DT := ⟨"_law_size", ["document", "inner"], ["document"], top 30⟩
abbrev t_16 : So.DT := ⟨"_law_depth", ["document", "inner"], ["document"], top 31⟩
abbrev t_17 : So.DT := ⟨"_law_nodes", ["document", "path", "found", "k"], ["document", "path"], top 32⟩
abbrev t_18 : So.DT := ⟨"_law_put", ["document", "path", "other", "at"], ["document", "path", "other"], top 33⟩
abbrev t_19 : So.DT := ⟨"_law_label", ["state", "letters", "word", "k"], ["state"], top 34⟩
abbrev t_20 : So.DT := ⟨"_law_signs", ["state", "most", "found", "k"], ["state", "most"], top 35⟩
abbrev t_21 : So.DT := ⟨"_law_document", ["state", "signs", "whole", "ranks", "leaves", "rows", "left", "inner", "k", "label", "rank", "own", "sign"], ["state", "signs", "whole"], top 36⟩
abbrev t_22 : So.DT := ⟨"_law_document_due", ["document", "path", "here"], ["document"], top 37⟩
abbrev t_23 : So.DT := ⟨"_law_odd_document", ["state", "document", "rows", "word", "path", "here"], ["state", "document"], top 38⟩
abbrev t_24 : So.DT := ⟨"_law_told", ["kind", "document", "e"], ["kind", "document"], top 39⟩
abbrev t_25 : So.DT := ⟨"_law_signs_told", ["signs", "e"], ["signs"], top 40⟩
abbrev t_26 : So.DT := ⟨"_law_chain", ["many", "document", "k"], ["many"], top 41⟩
abbrev t_27 : So.DT := ⟨"_law_exact", ["many", "third"], ["many"], top 42⟩
abbrev t_28 : So.DT := ⟨"law", ["script", "state", "turn", "rows", "many", "words", "signs", "document", "kept", "told", "due", "odd", "bad", "word", "one", "path", "here", "kind"], ["script"], top 43⟩
def dts : List So.DT := [t_0, t_1, t_2, t_3, t_4, t_5, t_6, t_7, t_8, t_9, t_10, t_11, t_12, t_13, t_14, t_15, t_16, t_17, t_18, t_19, t_20, t_21, t_22, t_23, t_24, t_25, t_26, t_27, t_28]
def txt : So.Txt where
  pg := prog
  gl := ["MAX_LABEL", "MAX_RANK", "MAX_SIZE", "MAX_DEPTH", "FIRST", "LATER"]
  fs := ["is_label", "rising", "measured", "nodes", "check_document", "size", "depth", "signs_of", "check_signs", "paths", "_law_same", "_law_stream", "_law_next", "_law_error", "_law_is_label", "_law_size", "_law_depth", "_law_nodes", "_law_put", "_law_label", "_law_signs", "_law_document", "_law_document_due", "_law_odd_document", "_law_told", "_law_signs_told", "_law_chain", "_law_exact", "law"]
  xs := ["FormError", "NotAllowed", "TooLarge", "Missing", "BadPaper", "BadForm"]
  sub := [[0, 1, 2, 3, 4, 5], [1], [2], [3], [4], [5]]
  rz := [0, 1, 2, 3, 4]
theorem bn_0 : So.BindP t_0 := fun _ _ _ _ _ _ us hl => match us, hl with | [_], _ => rfl
theorem bn_1 : So.BindP t_1 := fun _ _ _ _ _ _ us hl => match us, hl with | [_], _ => rfl
theorem bn_2 : So.BindP t_2 := fun _ _ _ _ _ _ us hl => match us, hl with | [_], _ => rfl
theorem bn_3 : So.BindP t_3 := fun _ _ _ _ _ _ us hl => match us, hl with | [_], _ => rfl
theorem bn_4 : So.BindP t_4 := fun _ _ _ _ _ _ us hl => match us, hl with | [_], _ => rfl
theorem bn_5 : So.BindP t_5 := fun _ _ _ _ _ _ us hl => match us, hl with | [_], _ => rfl
theorem bn_6 : So.BindP t_6 := fun _ _ _ _ _ _ us hl => match us, hl with | [_], _ => rfl
theorem bn_7 : So.BindP t_7 := fun _ _ _ _ _ _ us hl => match us, hl with | [_], _ => rfl
theorem bn_8 : So.BindP t_8 := fun _ _ _ _ _ _ us hl => match us, hl with | [_], _ => rfl
theorem bn_9 : So.BindP t_9 := fun _ _ _ _ _ _ us hl => match us, hl with | [_], _ => rfl
theorem bn_10 : So.BindP t_10 := fun _ _ _ _ _ _ us hl => match us, hl with | [_, _], _ => rfl
theorem bn_11 : So.BindP t_11 := fun _ _ _ _ _ _ us hl => match us, hl with | [_], _ => rfl
theorem bn_12 : So.BindP t_12 := fun _ _ _ _ _ _ us hl => match us, hl with | [_, _], _ => rfl
theorem bn_13 : So.BindP t_13 := fun _ _ _ _ _ _ us hl => match us, hl with | [_], _ => rfl
theorem bn_14 : So.BindP t_14 := fun _ _ _ _ _ _ us hl => match us, hl with | [_], _ => rfl
theorem bn_15 : So.BindP t_15 := fun _ _ _ _ _ _ us hl => match us, hl with | [_], _ => rfl
theorem bn_16 : So.BindP t_16 := fun _ _ _ _ _ _ us hl => match us, hl with | [_], _ => rfl
theorem bn_17 : So.BindP t_17 := fun _ _ _ _ _ _ us hl => match us, hl with | [_, _], _ => rfl
theorem bn_18 : So.BindP t_18 := fun _ _ _ _ _ _ us hl => match us, hl with | [_, _, _], _ => rfl
theorem bn_19 : So.BindP t_19 := fun _ _ _ _ _ _ us hl => match us, hl with | [_], _ => rfl
theorem bn_20 : So.BindP t_20 := fun _ _ _ _ _ _ us hl => match us, hl with | [_, _], _ => rfl
theorem bn_21 : So.BindP t_21 := fun _ _ _ _ _ _ us hl => match us, hl with | [_, _, _], _ => rfl
theorem bn_22 : So.BindP t_22 := fun _ _ _ _ _ _ us hl => match us, hl with | [_], _ => rfl
theorem bn_23 : So.BindP t_23 := fun _ _ _ _ _ _ us hl => match us, hl with | [_, _], _ => rfl
theorem bn_24 : So.BindP t_24 := fun _ _ _ _ _ _ us hl => match us, hl with | [_, _], _ => rfl
theorem bn_25 : So.BindP t_25 := fun _ _ _ _ _ _ us hl => match us, hl with | [_], _ => rfl
theorem bn_26 : So.BindP t_26 := fun _ _ _ _ _ _ us hl => match us, hl with | [_], _ => rfl
theorem bn_27 : So.BindP t_27 := fun _ _ _ _ _ _ us hl => match us, hl with | [_], _ => rfl
theorem bn_28 : So.BindP t_28 := fun _ _ _ _ _ _ us hl => match us, hl with | [_], _ => rfl
theorem bnAll : ∀ d ∈ dts, So.BindP d := by
  intro d hd
  unfold dts at hd
  simp only [List.mem_cons, List.not_mem_nil, or_false] at hd
  rcases hd with rfl | rfl | rfl | rfl | rfl | rfl | rfl | rfl | rfl | rfl | rfl | rfl | rfl | rfl | rfl | rfl | rfl | rfl | rfl | rfl | rfl | rfl | rfl | rfl | rfl | rfl | rfl | rfl | rfl
  · exact bn_0
  · exact bn_1
  · exact bn_2
  · exact bn_3
  · exact bn_4
  · exact bn_5
  · exact bn_6
  · exact bn_7
  · exact bn_8
  · exact bn_9
  · exact bn_10
  · exact bn_11
  · exact bn_12
  · exact bn_13
  · exact bn_14
  · exact bn_15
  · exact bn_16
  · exact bn_17
  · exact bn_18
  · exact bn_19
  · exact bn_20
  · exact bn_21
  · exact bn_22
  · exact bn_23
  · exact bn_24
  · exact bn_25
  · exact bn_26
  · exact bn_27
  · exact bn_28
abbrev Rw : PySem.W.OpenRow := PySem.W.OpenLaw.row PySem.Challenge.rw_recastform_k00_documents_checked
def errCs : List (Nat × List Bool) := [(0, [false, false, false, false, false]), (1, [true, false, false, false, false]), (2, [false, true, false, false, false]), (3, [false, false, true, false, false]), (4, [false, false, false, true, false])]
theorem errTab : ∀ f c d, txt.pg.errT f c = some d → f = 13 ∧ ∃ bs, (c, bs) ∈ errCs ∧ bs.length = 5 ∧ d = So.errD bs := by
  intro f c d h
  have h : errT f c = some d := h
  unfold errT at h
  split at h
  · rename_i e
    refine ⟨e, ?_⟩
    split at h <;> first | (cases h; exact ⟨_, by simp [errCs]; rfl, rfl, rfl⟩) | cases h
  · cases h
def factsB (K : PySem.W.Frag) : Bool := So.factB txt K && So.errK txt errCs K
abbrev hk : PySem.W.Hook := So.hookX 4 factsB (dts.map So.DT.dd)
abbrev ob (s : PySem.W.SharedT) : He.AlD := So.obX 4 factsB (dts.map So.DT.dd) s
abbrev vw : Program := PySem.W.view Rw.prog [43]
def loose0 : List PySem.Str := ["FormError", "NotAllowed", "TooLarge", "Missing", "BadPaper", "BadForm", "MAX_LABEL", "MAX_RANK", "MAX_SIZE", "MAX_DEPTH", "FIRST", "LATER", "is_label", "rising", "measured", "nodes", "check_document", "size", "depth", "signs_of"]
def loose1 : List PySem.Str := ["check_signs", "paths", "_law_same", "_law_stream", "_law_next", "_law_error", "_law_is_label", "_law_size", "_law_depth", "_law_nodes", "_law_put", "_law_label", "_law_signs", "_law_document", "_law_document_due", "_law_odd_document", "_law_told", "_law_signs_told", "_law_chain", "_law_exact"]
def loose : List PySem.Str := loose0 ++ loose1
abbrev lawAt : Nat := 43
abbrev lawF : Nat := 28
theorem run (w : World) : HandSHeadRun.RunEq Rw vw hk ob 8000 loose w := by
  intro os
  kernel_rfl
theorem textOk : So.textB txt = true := by kernel_rfl
theorem namesOk : dts.map So.DT.name = txt.fs := by kernel_rfl
theorem defsOk : So.defsB txt txt.pg.defs dts = true := by kernel_rfl

theorem errSc : So.scB t_13.N t_13.ps (C8.fnScope t_13.st) = true := by kernel_rfl
theorem errSs : So.errS (C8.fnScope t_13.st) = true := by kernel_rfl
theorem errBs : So.errB (C8.fnBody t_13.st) = true := by kernel_rfl

theorem fixOk {P : Program} {w : World} {K : PySem.W.Frag} {mg : Str → Option Value} {base : Heap} (X : K.In base) (G : base.Ns mainGlobals mg) (fb : factsB K = true)
    (FD : ∀ d ∈ dts, ∃ fd, L2.FunD K d.name d.name (C8.fnArgs d.st) (C8.fnBody d.st) (C8.fnScope d.st) [] [] (He.ga K d.name) fd) : So.TFix (txt.tx P w K mg base) := by
  unfold factsB at fb
  obtain ⟨fb, ek⟩ := Bool.and_eq_true_iff.mp fb
  exact So.tfix X G fb textOk namesOk defsOk FD bnAll (So.err_ok (f0 := 13) (d0 := t_13) (cs := errCs) X G fb ek rfl rfl rfl rfl errSc errSs errBs (FD t_13 (by simp [dts])) bn_13 errTab)
theorem ends {k : Nat} (hr : L2.Room k callerA) (main : ∀ ns : List Int, ns.length ≤ 63 → ∃ h1, Ev.callF prog k lawF [.scr (ns.map .int)] [] = .ok (.bl true) h1) : PySem.Challenge.rw_recastform_k00_documents_checked.Holds := by
  w_on; o_law
  refine HandSHeadRun.head_any (r := Rw) (q := vw) (H := hk) (ob := ob) (M := 8000) (loose := loose) (d := HandSHeadRun.topDef Rw.prog lawAt) (kwd := []) (fun s => So.obX_eq s)
    (by kernel_rfl) (fun s => by kernel_rfl) run (by kernel_rfl) (by kernel_rfl) (by kernel_rfl) (by rfl) (by first | assumption | decide +kernel) (by decide +kernel) ⟨rfl, rfl, rfl, rfl, rfl, by decide +kernel⟩ ?hw ?hc
  case hw => w_witness2
  case hc =>
    refine Att.attach_call (n := 63) rfl (by kernel_rfl) fun w s₀ s₁ mg mb fa o pm cd doc a vs ns G Y ho hd hcd hmg hobj hints hlen hg => ?_
    obtain ⟨K, KX, fb, FD⟩ := Y
    have FD' : ∀ d ∈ dts, ∃ fd, L2.FunD K d.name d.name (C8.fnArgs d.st) (C8.fnBody d.st) (C8.fnScope d.st) [] [] (He.ga K d.name) fd := fun d hd => FD d.dd (List.mem_map_of_mem hd)
    refine So.script_run KX G.T.g G.T.b G.T.builtins G.T.nolimit hg hobj hints (Nat.le_trans hlen (by decide)) fun base H X2 G2 e0 sq => ?_
    have F := fixOk (P := (PySem.Challenge.rw_recastform_k00_documents_checked).prog) (w := w) X2 G2 fb FD'
    obtain ⟨h1, ev⟩ := main ns hlen
    have e : fa = (txt.sx K).fa lawF := by
      have e1 : (HandSHeadRun.topDef Rw.prog lawAt).name = ("law" : PySem.Str) := by kernel_rfl
      rw [e1] at hmg
      have e2 := (F.defs lawF "law" rfl).1
      exact Value.ref.inj (Option.some.inj (hmg.symm.trans e2))
    rw [e]
    exact So.law_run (T := txt.tx _ w K mg base) (F.ok k) hr e0 sq h1 ev

end K00
end
section
set_option autoImplicit false
set_option linter.all false
/-! M0: plain lemmas about the evaluator. -/
namespace Ev
mutual
theorem D.beq_refl : ∀ d : D, d.beq d = true
  | .non => rfl
  | .bl b => by simp [D.beq]
  | .int i => by simp [D.beq]
  | .str s => by simp [D.beq]
  | .tup xs => by rw [D.beq]; exact D.beqs_refl xs
  | .lst xs => by rw [D.beq]; exact D.beqs_refl xs
  | .loc n => by simp [D.beq]
  | .fn n => by simp [D.beq]
  | .scr xs => by rw [D.beq]; exact D.beqs_refl xs
  | .rep x => by rw [D.beq]; exact D.beq_refl x
theorem D.beqs_refl : ∀ ds : List D, D.beqs ds ds = true
  | [] => rfl
  | d :: ds => by rw [D.beqs, D.beq_refl d, D.beqs_refl ds]; rfl
end
mutual
theorem D.pure_ok (n : Nat) : ∀ d : D, d.pure = true → d.okB n = true
  | .non, _ => rfl
  | .bl _, _ => rfl
  | .int _, _ => rfl
  | .str _, _ => rfl
  | .tup xs, h => by rw [D.pure] at h; rw [D.okB]; exact D.pures_ok n xs h
  | .lst xs, h => by rw [D.pure] at h; rw [D.okB]; exact D.pures_ok n xs h
  | .loc _, h => by cases h
  | .fn _, h => by cases h
  | .scr _, h => by cases h
  | .rep _, h => by cases h
theorem D.pures_ok (n : Nat) : ∀ ds : List D, D.pures ds = true → D.okBs n ds = true
  | [], _ => rfl
  | d :: ds, h => by
    rw [D.pures, Bool.and_eq_true] at h
    rw [D.okBs, D.pure_ok n d h.1, D.pures_ok n ds h.2]
    rfl
end
theorem Ob.beq_refl (o : Ob) : o.beq o = true := by
  cases o with
  | box d => exact D.beq_refl d
  | gone => rfl
  | ins c fs => simp [Ob.beq, D.beqs_refl]
theorem sameOr_refl (n : Nat) : ∀ h : Mem, sameOr n h h = true
  | [] => rfl
  | o :: h => by rw [sameOr, Ob.beq_refl o, sameOr_refl n h]; rfl
theorem sameOr_set (n : Nat) (o : Ob) (ho : o.okB n = true) : ∀ (h : Mem) (i : Nat), sameOr n h (h.set i o) = true
  | [], _ => rfl
  | a :: h, 0 => by rw [List.set_cons_zero, sameOr, ho, sameOr_refl n h]; simp
  | a :: h, i + 1 => by rw [List.set_cons_succ, sameOr, Ob.beq_refl a, sameOr_set n o ho h i]; rfl
/-- what a call leaves: the same heap, new objects behind it -/
theorem fin_app {gc : Bool} {h t : Mem} {d : D} (hd : d.okB h.length = true) (hg : gc = true) : fin gc h (h ++ t) d = .ok d h := by
  subst hg
  unfold fin gcOk
  rw [List.take_left, hd, sameOr_refl]
  rfl
theorem fin_same {gc : Bool} {h : Mem} {d : D} (hd : d.okB h.length = true) : fin gc h h d = .ok d h := by
  unfold fin gcOk
  rw [List.take_length, hd, sameOr_refl]
  cases gc <;> rfl
theorem fin_set {h t : Mem} {d : D} {n : Nat} {o : Ob} (hd : d.okB h.length = true) (ho : o.okB h.length = true) : fin true h (h.set n o ++ t) d = .ok d (h.set n o) := by
  unfold fin gcOk
  have : (h.set n o ++ t).take h.length = h.set n o := by
    rw [List.take_append_of_le_length (by simp), List.take_of_length_le (by simp)]
  rw [this, hd, sameOr_set _ _ ho]
  rfl
theorem finX_app {gc : Bool} {h t : Mem} {c : Nat} (hg : gc = true) : finX gc h (h ++ t) c .non = .exc c .non h := by
  subst hg
  unfold finX gcOk
  rw [List.take_left, sameOr_refl]
  rfl
theorem finX_same {gc : Bool} {h : Mem} {c : Nat} : finX gc h h c .non = .exc c .non h := by
  unfold finX gcOk
  rw [List.take_length, sameOr_refl]
  cases gc <;> rfl
theorem fin_pure {gc : Bool} {h : Mem} {d : D} (hd : d.pure = true) : fin gc h h d = .ok d h := fin_same (D.pure_ok _ d hd)

mutual
theorem D.fullW_pure (g : Nat → Option D) : ∀ d : D, d.pure = true → d.fullW g = some d
  | .non, _ => rfl
  | .bl _, _ => rfl
  | .int _, _ => rfl
  | .str _, _ => rfl
  | .tup xs, h => by rw [D.pure] at h; rw [D.fullW, D.fullWs_pure g xs h]; rfl
  | .lst xs, h => by rw [D.pure] at h; rw [D.fullW, D.fullWs_pure g xs h]; rfl
  | .loc _, h => by cases h
  | .fn _, h => by cases h
  | .scr _, h => by cases h
  | .rep _, h => by cases h
theorem D.fullWs_pure (g : Nat → Option D) : ∀ ds : List D, D.pures ds = true → D.fullWs g ds = some ds
  | [], _ => rfl
  | d :: ds, h => by
    rw [D.pures, Bool.and_eq_true] at h
    rw [D.fullWs, D.fullW_pure g d h.1, D.fullWs_pure g ds h.2]
end
theorem full_pure {h : Mem} {d : D} (n : Nat) (hd : d.pure = true) : full h n d = some d := by
  cases n <;> (unfold full; exact D.fullW_pure _ d hd)
theorem shal_pure {h : Mem} {d : D} (hd : d.pure = true) : shal h d = d := by
  cases d <;> first | rfl | cases hd
theorem cmp_eq {h : Mem} {a b : D} (ha : a.pure = true) (hb : b.pure = true) (da : a.dep ≤ 64) (db : b.dep ≤ 64) : cmpop h .eq a b = some (a.eqv b) := by
  have e : cmpop h .eq a b = (match full h 3 a, full h 3 b with
    | some x, some y => if x.dep ≤ 64 ∧ y.dep ≤ 64 then some (x.eqv y) else none
    | _, _ => none) := by
    cases a <;> cases b <;> first | rfl | cases ha | cases hb
  rw [e, full_pure 3 ha, full_pure 3 hb]
  dsimp only
  rw [if_pos ⟨da, db⟩]
theorem cmp_ne {h : Mem} {a b : D} (ha : a.pure = true) (hb : b.pure = true) (da : a.dep ≤ 64) (db : b.dep ≤ 64) : cmpop h .ne a b = some (!a.eqv b) := by
  have e : cmpop h .ne a b = (match full h 3 a, full h 3 b with
    | some x, some y => if x.dep ≤ 64 ∧ y.dep ≤ 64 then some (!x.eqv y) else none
    | _, _ => none) := by
    cases a <;> cases b <;> first | rfl | cases ha | cases hb
  rw [e, full_pure 3 ha, full_pure 3 hb]
  dsimp only
  rw [if_pos ⟨da, db⟩]

/-! ### comprehensions, loops -/
theorem lcL_nm {elt : Fr → Mem → R} {test : Fr → Mem → RB} {i : Nat} {σ : Fr} {h : Mem} {F : D → D} {p : D → Bool} (hi : i < σ.length) : ∀ (xs acc : List D),
    (∀ x ∈ xs, test (σ.set i (some x)) h = .ok (p x) h ∧ (p x = true → elt (σ.set i (some x)) h = .ok (F x) h)) → acc.length + xs.length ≤ LIM →
    lcL elt test (.nm i) σ xs acc h = .ok (acc ++ (xs.filter p).map F) h
  | [], acc, _, _ => by simp [lcL]
  | x :: xs, acc, hx, hl => by
    obtain ⟨h1, h2⟩ := hx x List.mem_cons_self
    rw [List.length_cons] at hl
    rw [lcL, asgT, if_pos hi]
    dsimp only
    rw [h1]
    cases hp : p x with
    | true =>
      dsimp only
      rw [h2 hp]
      dsimp only
      rw [if_pos (by omega), lcL_nm hi xs (acc ++ [F x]) (fun y hy => hx y (List.mem_cons_of_mem _ hy)) (by rw [List.length_append]; simp; omega), List.filter_cons, if_pos hp]
      simp
    | false =>
      dsimp only
      rw [lcL_nm hi xs acc (fun y hy => hx y (List.mem_cons_of_mem _ hy)) (by omega), List.filter_cons, if_neg (by rw [hp]; decide)]
/-- a comprehension with any target; the frames by x -/
theorem lcL_tg {elt : Fr → Mem → R} {test : Fr → Mem → RB} {t : Tg} {σ : Fr} {h : Mem} {F : D → D} {p : D → Bool} {fr : D → Fr} : ∀ (xs acc : List D),
    (∀ x ∈ xs, asgT t x σ = some (fr x) ∧ test (fr x) h = .ok (p x) h ∧ (p x = true → elt (fr x) h = .ok (F x) h)) → acc.length + xs.length ≤ LIM →
    lcL elt test t σ xs acc h = .ok (acc ++ (xs.filter p).map F) h
  | [], acc, _, _ => by simp [lcL]
  | x :: xs, acc, hx, hl => by
    obtain ⟨h0, h1, h2⟩ := hx x List.mem_cons_self
    rw [List.length_cons] at hl
    rw [lcL, h0]
    dsimp only
    rw [h1]
    cases hp : p x with
    | true =>
      dsimp only
      rw [h2 hp]
      dsimp only
      rw [if_pos (by omega), lcL_tg xs (acc ++ [F x]) (fun y hy => hx y (List.mem_cons_of_mem _ hy)) (by rw [List.length_append]; simp; omega), List.filter_cons, if_pos hp]
      simp
    | false =>
      dsimp only
      rw [lcL_tg xs acc (fun y hy => hx y (List.mem_cons_of_mem _ hy)) (by omega), List.filter_cons, if_neg (by rw [hp]; decide)]
/-- an invariant of a for: by what is left -/
theorem forL_inv {body : Fr → Mem → RS} {t : Tg} {Q : RS → Prop} (I : List D → Fr → Mem → Prop) (done : ∀ σ h, I [] σ h → Q (.nx σ h))
    (turn : ∀ x xs σ h, I (x :: xs) σ h → ∃ σ1, asgT t x σ = some σ1 ∧ match body σ1 h with
      | .nx σ2 h2 => I xs σ2 h2
      | .ct σ2 h2 => I xs σ2 h2
      | .bk σ2 h2 => Q (.nx σ2 h2)
      | r => Q r) : ∀ (xs : List D) (σ : Fr) (h : Mem), I xs σ h → Q (forL body t xs σ h)
  | [], σ, h, i => by rw [forL]; exact done σ h i
  | x :: xs, σ, h, i => by
    obtain ⟨σ1, e, k⟩ := turn x xs σ h i
    rw [forL, e]
    dsimp only
    cases q : body σ1 h with
    | nx σ2 h2 => rw [q] at k; exact forL_inv I done turn xs σ2 h2 k
    | ct σ2 h2 => rw [q] at k; exact forL_inv I done turn xs σ2 h2 k
    | bk σ2 h2 => rw [q] at k; exact k
    | rt d h2 => rw [q] at k; exact k
    | exc c y σ2 h2 => rw [q] at k; exact k
    | stuck => rw [q] at k; exact k
/-- a while, by a measure below the fuel -/
theorem whileL_inv {test : Fr → Mem → RB} {body : Fr → Mem → RS} {Q : RS → Prop} (I : Nat → Fr → Mem → Prop)
    (turn : ∀ m σ h, I m σ h → match test σ h with
      | .ok true h1 => 0 < m ∧ (match body σ h1 with
        | .nx σ2 h2 => ∃ m', m' < m ∧ I m' σ2 h2
        | .ct σ2 h2 => ∃ m', m' < m ∧ I m' σ2 h2
        | .bk σ2 h2 => Q (.nx σ2 h2)
        | r => Q r)
      | .ok false h1 => Q (.nx σ h1)
      | .exc c x h1 => Q (.exc c x σ h1)
      | .stuck => False) : ∀ (n m : Nat) (σ : Fr) (h : Mem), m < n → I m σ h → Q (whileL test body n σ h)
  | 0, m, σ, h, l, i => by omega
  | n + 1, m, σ, h, l, i => by
    have k := turn m σ h i
    rw [whileL]
    cases q : test σ h with
    | ok b h1 =>
      rw [q] at k
      cases b with
      | false => exact k
      | true =>
        dsimp only at k ⊢
        obtain ⟨k0, k⟩ := k
        cases qb : body σ h1 with
        | nx σ2 h2 =>
          rw [qb] at k
          obtain ⟨m', l', i'⟩ := k
          exact whileL_inv I turn n m' σ2 h2 (by omega) i'
        | ct σ2 h2 =>
          rw [qb] at k
          obtain ⟨m', l', i'⟩ := k
          exact whileL_inv I turn n m' σ2 h2 (by omega) i'
        | bk σ2 h2 => rw [qb] at k; exact k
        | rt d h2 => rw [qb] at k; exact k
        | exc c y σ2 h2 => rw [qb] at k; exact k
        | stuck => rw [qb] at k; exact k
    | exc c x h1 => rw [q] at k; exact k
    | stuck => rw [q] at k; exact k.elim
end Ev
namespace Ev
theorem callF_succ {P : Prog} {k f : Nat} {args : List D} {h : Mem} {fd : Def} (hd : P.defs[f]? = some fd) (ha : args.length = fd.np ∧ fd.np ≤ fd.ns) : callF P (k + 1) f args h =
    match evSs (P.cx k (callF P k)) fd.body (startF fd.ns args) h with
    | .nx _ h1 => fin fd.gc h h1 .non
    | .rt d h1 => fin fd.gc h h1 d
    | .exc c x _ h1 => finX fd.gc h h1 c x
    | _ => .stuck := by
  rw [callF, hd]
  dsimp only
  rw [if_pos ha] <;> rfl
end Ev
namespace Ev
theorem forL_nx {body : Fr → Mem → RS} {t : Tg} {x : D} {xs : List D} {σ σ1 σ2 : Fr} {h h2 : Mem} (e : asgT t x σ = some σ1) (b : body σ1 h = .nx σ2 h2) : forL body t (x :: xs) σ h = forL body t xs σ2 h2 := by
  rw [forL, e]
  dsimp only
  rw [b]
end Ev
namespace Ev
theorem forL_app {body : Fr → Mem → RS} {t : Tg} {ys : List D} : ∀ {xs : List D} {σ σ1 : Fr} {h h1 : Mem}, forL body t xs σ h = .nx σ1 h1 → (∀ (x : D) (σ : Fr) (h : Mem) σ2 h2, body σ h ≠ .bk σ2 h2) → forL body t (xs ++ ys) σ h = forL body t ys σ1 h1
  | [], σ, σ1, h, h1, e, _ => by
    rw [forL] at e
    cases e
    rfl
  | x :: xs, σ, σ1, h, h1, e, nb => by
    rw [forL] at e
    rw [List.cons_append, forL]
    cases q : asgT t x σ with
    | none => rw [q] at e; cases e
    | some σ' =>
      rw [q] at e
      dsimp only at e ⊢
      cases qb : body σ' h with
      | nx σ2 h2 => rw [qb] at e; exact forL_app e nb
      | ct σ2 h2 => rw [qb] at e; exact forL_app e nb
      | bk σ2 h2 => exact absurd qb (nb x σ' h σ2 h2)
      | rt d h2 => rw [qb] at e; cases e
      | exc c y σ2 h2 => rw [qb] at e; cases e
      | stuck => rw [qb] at e; cases e
end Ev
namespace Ev
theorem fin_set0 {h : Mem} {d : D} {n : Nat} {o : Ob} (hd : d.okB h.length = true) (ho : o.okB h.length = true) : fin true h (h.set n o) d = .ok d (h.set n o) := by
  have := fin_set (t := []) (n := n) hd ho
  rw [List.append_nil] at this
  exact this
theorem okB_box {n : Nat} {ys : List D} (h : D.pures ys = true) : (Ob.box (.lst ys)).okB n = true := D.pures_ok n ys h
end Ev
namespace Ev
theorem seq_nx {C : Cx} {s : CS} {ss : CSs} {σ σ1 : Fr} {h h1 : Mem} (e : evS C s σ h = .nx σ1 h1) : evSs C (.cons s ss) σ h = evSs C ss σ1 h1 := by rw [evSs, e]
theorem seq_rt {C : Cx} {s : CS} {ss : CSs} {σ : Fr} {h h1 : Mem} {d : D} (e : evS C s σ h = .rt d h1) : evSs C (.cons s ss) σ h = .rt d h1 := by rw [evSs, e]
theorem seq_exc {C : Cx} {s : CS} {ss : CSs} {σ σ1 : Fr} {h h1 : Mem} {c : Nat} {d : D} (e : evS C s σ h = .exc c d σ1 h1) : evSs C (.cons s ss) σ h = .exc c d σ1 h1 := by rw [evSs, e]
end Ev
namespace Ev
/-! range: by these two, never by unfolding rngD at data (the kernel would count to 2^62) -/
theorem evS_for {C : Cx} {t : Tg} {s : Src} {b : CSs} {σ : Fr} {h h1 : Mem} {ds : List D} (e : evSrc C s σ h = .ok ds h1) : evS C (.for_ t s b) σ h = forL (evSs C b) t ds σ h1 := by rw [evS, e]
theorem evSrc_rng {C : Cx} {es : CEs} {σ : Fr} {h h1 : Mem} {ds xs : List D} (ha : evL C es σ h = .ok ds h1) (hr : rngD ds = some xs) : evSrc C (.rng es) σ h = .ok xs h1 := by
  rw [evSrc, ha]
  simp only [hr]
end Ev
namespace Ev
theorem ev_lc {C : Cx} {e : CE} {t : Tg} {s : Src} {c : CT} {σ : Fr} {h h1 h2 : Mem} {ds rs : List D} (hs : evSrc C s σ h = .ok ds h1) (hl : lcL (evE C e) (evT C c) t σ ds [] h1 = .ok rs h2) : evE C (.fr (.lc e t s c)) σ h = .ok (.lst rs) h2 := by
  rw [evE, evF, hs]
  dsimp only
  rw [hl]
end Ev
namespace Ev
theorem ev_cons {C : Cx} {e : CE} {es : CEs} {σ : Fr} {h h1 h2 : Mem} {d : D} {ds : List D} (he : evE C e σ h = .ok d h1) (hs : evL C es σ h1 = .ok ds h2) : evL C (.cons e es) σ h = .ok (d :: ds) h2 := by
  rw [evL, he]
  dsimp only
  rw [hs]
theorem ev_star {C : Cx} {e : CE} {es : CEs} {σ : Fr} {h h1 h2 : Mem} {d : D} {xs ds : List D} (he : evE C e σ h = .ok d h1) (hq : seqD (shal h1 d) = some xs) (hs : evL C es σ h1 = .ok ds h2) : evL C (.star e es) σ h = .ok (xs ++ ds) h2 := by
  rw [evL, he]
  dsimp only
  rw [hq]
  dsimp only
  rw [hs]
theorem ev_nil {C : Cx} {σ : Fr} {h : Mem} : evL C .nil σ h = .ok [] h := by rw [evL]
theorem ev_tup {C : Cx} {es : CEs} {σ : Fr} {h h1 : Mem} {ds : List D} (hs : evL C es σ h = .ok ds h1) (hl : ds.length ≤ LIM) : evE C (.tup es) σ h = .ok (.tup ds) h1 := by
  rw [evE, hs]
  dsimp only
  rw [if_pos hl]
theorem ev_ret {C : Cx} {e : CE} {σ : Fr} {h h1 : Mem} {d : D} (he : evE C e σ h = .ok d h1) : evS C (.ret e) σ h = .rt d h1 := by rw [evS, he]
end Ev
namespace Ev
theorem ev_cmp {C : Cx} {o : Cop} {a b : CE} {σ : Fr} {h h1 h2 : Mem} {x y : D} {z : Bool} (ha : evE C a σ h = .ok x h1) (hb : evE C b σ h1 = .ok y h2) (hc : cmpop h2 o x y = some z) : evE C (.cmp o a b) σ h = .ok (.bl z) h2 := by
  rw [evE, ha]
  dsimp only
  rw [hb]
  dsimp only
  rw [hc]
end Ev
namespace Ev
theorem ev_bin {C : Cx} {o : Bop} {a b : CE} {σ : Fr} {h h1 h2 : Mem} {x y z : D} (ha : evE C a σ h = .ok x h1) (hb : evE C b σ h1 = .ok y h2) (hc : binop o (shal h2 x) (shal h2 y) = some z) : evE C (.bin o a b) σ h = .ok z h2 := by
  rw [evE, ha]
  dsimp only
  rw [hb]
  dsimp only
  rw [hc]
theorem ev_ix {C : Cx} {a b : CE} {σ : Fr} {h h1 h2 : Mem} {x y z : D} (ha : evE C a σ h = .ok x h1) (hb : evE C b σ h1 = .ok y h2) (hc : item (shal h2 x) y = some z) : evE C (.ix a b) σ h = .ok z h2 := by
  rw [evE, ha]
  dsimp only
  rw [hb]
  dsimp only
  rw [hc]
theorem ev_bi {C : Cx} {m : Bi} {es : CEs} {σ : Fr} {h h1 : Mem} {ds : List D} {z : D} (ha : evL C es σ h = .ok ds h1) (hc : biF m ds h1 = some z) : evE C (.bi m es) σ h = .ok z h1 := by
  rw [evE, ha]
  dsimp only
  rw [hc]
theorem ev_c {C : Cx} {d : D} {σ : Fr} {h : Mem} (hp : d.pure = true) : evE C (.c d) σ h = .ok d h := by rw [evE, if_pos hp]
end Ev
end
section
set_option autoImplicit false
set_option linter.all false
/-! M1: operations on data that is known; documents. -/
namespace Ev
section
variable {h : Mem} {a b : Int} {s t : List Nat} {xs ys : List D} {d : D}
@[simp] theorem shal_int : shal h (.int a) = .int a := rfl
@[simp] theorem shal_str : shal h (.str s) = .str s := rfl
@[simp] theorem shal_tup : shal h (.tup xs) = .tup xs := rfl
@[simp] theorem shal_lst : shal h (.lst xs) = .lst xs := rfl
@[simp] theorem shal_non : shal h .non = .non := rfl
@[simp] theorem shal_bl {x : Bool} : shal h (.bl x) = .bl x := rfl
theorem shal_box {n : Nat} (e : h[n]? = some (.box d)) : shal h (.loc n) = d := by
  show (match h[n]? with | some (.box c) => c | _ => D.loc n) = d
  rw [e]
@[simp] theorem bin_addi : binop .add (.int a) (.int b) = some (.int (a + b)) := rfl
@[simp] theorem bin_subi : binop .sub (.int a) (.int b) = some (.int (a - b)) := rfl
@[simp] theorem bin_addt : binop .add (.tup xs) (.tup ys) = if xs.length + ys.length ≤ LIM then some (.tup (xs ++ ys)) else none := rfl
@[simp] theorem bin_addl : binop .add (.lst xs) (.lst ys) = if xs.length + ys.length ≤ LIM then some (.lst (xs ++ ys)) else none := rfl
@[simp] theorem bin_adds : binop .add (.str s) (.str t) = if s.length + t.length ≤ LIM then some (.str (s ++ t)) else none := rfl
@[simp] theorem bin_mod : binop .mod (.int a) (.int b) = if 0 < b then some (.int (a % b)) else none := rfl
@[simp] theorem bin_div : binop .fdiv (.int a) (.int b) = if 0 < b ∧ b < 1073741824 then some (.int (a / b)) else none := rfl
@[simp] theorem bin_mul : binop .mul (.int a) (.int b) = if (-(2 ^ 64) < a ∧ a < 2 ^ 64) ∨ (-(2 ^ 64) < b ∧ b < 2 ^ 64) then some (.int (a * b)) else none := rfl
@[simp] theorem cmp_lt : cmpop h .lt (.int a) (.int b) = some (decide (a < b)) := rfl
@[simp] theorem cmp_le : cmpop h .le (.int a) (.int b) = some (decide (a ≤ b)) := rfl
@[simp] theorem cmp_gt : cmpop h .gt (.int a) (.int b) = some (decide (b < a)) := rfl
@[simp] theorem cmp_ge : cmpop h .ge (.int a) (.int b) = some (decide (b ≤ a)) := rfl
@[simp] theorem cmp_eqi : cmpop h .eq (.int a) (.int b) = some (decide (a = b)) := by
  rw [cmp_eq rfl rfl (by simp [D.dep]) (by simp [D.dep])]
  rfl
@[simp] theorem cmp_nei : cmpop h .ne (.int a) (.int b) = some (!decide (a = b)) := by
  rw [cmp_ne rfl rfl (by simp [D.dep]) (by simp [D.dep])]
  rfl
@[simp] theorem cmp_eqs : cmpop h .eq (.str s) (.str t) = some (decide (s = t)) := by
  rw [cmp_eq rfl rfl (by simp [D.dep]) (by simp [D.dep])]
  rfl
@[simp] theorem cmp_nes : cmpop h .ne (.str s) (.str t) = some (!decide (s = t)) := by
  rw [cmp_ne rfl rfl (by simp [D.dep]) (by simp [D.dep])]
  rfl
@[simp] theorem cmp_ins {c : Nat} : cmpop h .in_ (.str [c]) (.str t) = some (decide (c ∈ t)) := rfl
@[simp] theorem cmp_nins {c : Nat} : cmpop h .notin (.str [c]) (.str t) = some (!decide (c ∈ t)) := rfl
@[simp] theorem cmp_isn : cmpop h .is_ .non .non = some true := rfl
@[simp] theorem cmp_isns : cmpop h .is_ (.str s) .non = some false := rfl
@[simp] theorem item_tup {i : Int} : item (.tup xs) (.int i) = atI xs i := rfl
@[simp] theorem item_lst {i : Int} : item (.lst xs) (.int i) = atI xs i := rfl
@[simp] theorem bi_lens : biF .len [.str s] h = if s.length ≤ LIM then some (.int s.length) else none := rfl
@[simp] theorem bi_lent : biF .len [.tup xs] h = some (.int xs.length) := rfl
@[simp] theorem bi_lenl : biF .len [.lst xs] h = some (.int xs.length) := rfl
theorem bi_lenb {n : Nat} (e : h[n]? = some (.box (.lst xs))) : biF .len [.loc n] h = some (.int xs.length) := by
  simp only [biF, shal_box e]
@[simp] theorem bi_int : biF .int_ [.int a] h = some (.int a) := rfl
@[simp] theorem bi_intb {x : Bool} : biF .int_ [.bl x] h = some (.int (if x = true then 1 else 0)) := rfl
@[simp] theorem bi_abs : biF .abs [.int a] h = some (.int (if a < 0 then -a else a)) := rfl
@[simp] theorem bi_max2 : biF .max2 [.int a, .int b] h = some (.int (if b > a then b else a)) := rfl
@[simp] theorem bi_tuplel : biF .tuple_ [.lst xs] h = some (.tup xs) := rfl
@[simp] theorem bi_tuplet : biF .tuple_ [.tup xs] h = some (.tup xs) := rfl
theorem bi_tupleb {n : Nat} (e : h[n]? = some (.box (.lst xs))) : biF .tuple_ [.loc n] h = some (.tup xs) := by
  simp only [biF, shal_box e]
theorem bools_map {α : Type} (F : α → Bool) : ∀ l : List α, bools (l.map fun x => D.bl (F x)) = some (l.map F)
  | [] => rfl
  | x :: l => by rw [List.map_cons, bools, bools_map F l]; rfl
theorem ints_map {α : Type} (F : α → Int) : ∀ l : List α, intsD (l.map fun x => D.int (F x)) = some (l.map F)
  | [] => rfl
  | x :: l => by rw [List.map_cons, intsD, ints_map F l]; rfl
@[simp] theorem bi_all : biF .all [.lst xs] h = (bools xs).map fun l => .bl (l.all id) := rfl
@[simp] theorem bi_sum : biF .sum [.lst xs] h = (intsD xs).map fun l => .int l.sum := rfl
@[simp] theorem bi_max1 : biF .max1 [.lst (d :: xs)] h = (intsD (d :: xs)).map fun l => .int (maxI l) := rfl
end
@[simp] theorem pure_non : (D.non).pure = true := rfl
@[simp] theorem pure_bl {b : Bool} : (D.bl b).pure = true := rfl
@[simp] theorem pure_int {i : Int} : (D.int i).pure = true := rfl
@[simp] theorem pure_str {s : List Nat} : (D.str s).pure = true := rfl
@[simp] theorem pure_tup {xs : List D} : (D.tup xs).pure = D.pures xs := rfl
@[simp] theorem pure_lst {xs : List D} : (D.lst xs).pure = D.pures xs := rfl
@[simp] theorem pures_nil : D.pures [] = true := rfl
@[simp] theorem pures_cons {d : D} {xs : List D} : D.pures (d :: xs) = (d.pure && D.pures xs) := rfl
@[simp] theorem fin_non {gc : Bool} {h : Mem} : fin gc h h .non = .ok .non h := fin_pure rfl
@[simp] theorem fin_bl {gc : Bool} {h : Mem} {b : Bool} : fin gc h h (.bl b) = .ok (.bl b) h := fin_pure rfl
@[simp] theorem fin_int {gc : Bool} {h : Mem} {i : Int} : fin gc h h (.int i) = .ok (.int i) h := fin_pure rfl
@[simp] theorem fin_str {gc : Bool} {h : Mem} {s : List Nat} : fin gc h h (.str s) = .ok (.str s) h := fin_pure rfl
@[simp] theorem finX_same' {gc : Bool} {h : Mem} {c : Nat} : finX gc h h c .non = .exc c .non h := finX_same
/-! ### places -/
theorem atI_nat {α : Type} {xs : List α} {i : Nat} : atI xs (i : Int) = xs[i]? := by
  unfold atI ixN
  by_cases h : i < xs.length
  · rw [if_pos (by omega), if_pos (by omega)]
    rfl
  · rw [if_pos (by omega), if_neg (by omega), List.getElem?_eq_none (by omega)]
    rfl
theorem atI_last {α : Type} {xs : List α} (h : xs ≠ []) : atI xs (-1) = xs.getLast? := by
  have hl : 0 < xs.length := List.length_pos_iff.mpr h
  unfold atI ixN
  rw [if_neg (by omega), if_pos (by omega), List.getLast?_eq_getElem?]
  show xs[(-1 + (xs.length : Int)).toNat]? = _
  congr 1
  omega
theorem cut_from {α : Type} {xs : List α} {i : Nat} (h : i ≤ xs.length) : cut xs (some (i : Int)) none = xs.drop i := by
  have e : sIx xs.length 0 (some (i : Int)) = min i xs.length := by
    show (if (0 : Int) ≤ (i : Int) then min (i : Int).toNat xs.length else ((i : Int) + xs.length).toNat) = _
    rw [if_pos (by omega)]
    rfl
  show (xs.drop (sIx xs.length 0 (some (i : Int)))).take (xs.length - sIx xs.length 0 (some (i : Int))) = _
  rw [e]
  rw [Nat.min_eq_left h, List.take_of_length_le (by rw [List.length_drop]; exact Nat.le_refl _)]
theorem cut_to {α : Type} {xs : List α} {i : Nat} (h : i ≤ xs.length) : cut xs none (some (i : Int)) = xs.take i := by
  have e : sIx xs.length xs.length (some (i : Int)) = min i xs.length := by
    show (if (0 : Int) ≤ (i : Int) then min (i : Int).toNat xs.length else ((i : Int) + xs.length).toNat) = _
    rw [if_pos (by omega)]
    rfl
  show (xs.drop 0).take (sIx xs.length xs.length (some (i : Int)) - 0) = _
  rw [e]
  rw [Nat.min_eq_left h]
  simp
theorem rngL_map (n : Nat) : ∀ (lo : Int), rngL lo 1 n = (List.range n).map fun i => .int (lo + i) := by
  induction n with
  | zero => intro lo; rfl
  | succ n ih =>
    intro lo
    rw [rngL, ih, List.range_succ_eq_map, List.map_cons, List.map_map]
    simp
    intro i _
    omega

/-! ### documents -/
inductive Doc where
  | mk (l : List Nat) (ks : List Doc)
  deriving Inhabited
mutual
def enc : Doc → D
  | .mk l ks => .tup (.str l :: encs ks)
def encs : List Doc → List D
  | [] => []
  | d :: ds => enc d :: encs ds
end
mutual
def sz : Doc → Nat
  | .mk _ ks => 1 + szs ks
def szs : List Doc → Nat
  | [] => 0
  | d :: ds => sz d + szs ds
end
mutual
def dp : Doc → Nat
  | .mk _ ks => dps ks
def dps : List Doc → Nat
  | [] => 0
  | d :: ds => max (dp d + 1) (dps ds)
end
def Doc.lb : Doc → List Nat
  | .mk l _ => l
def Doc.ks : Doc → List Doc
  | .mk _ ks => ks
theorem encs_map : ∀ ds, encs ds = ds.map enc
  | [] => rfl
  | d :: ds => by rw [encs, encs_map ds]; rfl
mutual
def Doc.beq : Doc → Doc → Bool
  | .mk l ks, .mk l' ks' => decide (l = l') && Docs.beq ks ks'
def Docs.beq : List Doc → List Doc → Bool
  | [], [] => true
  | a :: as, b :: bs => Doc.beq a b && Docs.beq as bs
  | _, _ => false
end
mutual
theorem beq_doc : ∀ a b : Doc, a.beq b = true ↔ a = b
  | .mk l ks, .mk l' ks' => by
    rw [Doc.beq, Bool.and_eq_true, decide_eq_true_eq, beq_docs ks ks']
    simp
theorem beq_docs : ∀ a b : List Doc, Docs.beq a b = true ↔ a = b
  | [], [] => by simp [Docs.beq]
  | [], b :: bs => by simp [Docs.beq]
  | a :: as, [] => by simp [Docs.beq]
  | a :: as, b :: bs => by
    rw [Docs.beq, Bool.and_eq_true, beq_doc a b, beq_docs as bs]
    simp
end
instance : DecidableEq Doc := fun a b => decidable_of_iff _ (beq_doc a b)
mutual
theorem enc_pure : ∀ d : Doc, (enc d).pure = true
  | .mk l ks => by rw [enc, D.pure, D.pures, encs_pure ks]; rfl
theorem encs_pure : ∀ ds : List Doc, D.pures (encs ds) = true
  | [] => rfl
  | d :: ds => by rw [encs, D.pures, enc_pure d, encs_pure ds]; rfl
end
mutual
theorem enc_dep : ∀ d : Doc, (enc d).dep = dp d + 1
  | .mk l ks => by
    rw [enc, D.dep, D.deps, encs_dep ks, dp]
    have : (D.str l).dep = 0 := rfl
    rw [this]
    simp
theorem encs_dep : ∀ ds : List Doc, D.deps (encs ds) = dps ds
  | [] => rfl
  | d :: ds => by rw [encs, D.deps, enc_dep d, encs_dep ds, dps]
end
mutual
theorem enc_eqv : ∀ a b : Doc, (enc a).eqv (enc b) = decide (a = b)
  | .mk l ks, .mk l' ks' => by
    rw [enc, enc, D.eqv, D.eqvs, D.eqv, encs_eqv ks ks']
    by_cases h1 : l = l' <;> by_cases h2 : ks = ks' <;> simp [h1, h2]
theorem encs_eqv : ∀ a b : List Doc, D.eqvs (encs a) (encs b) = decide (a = b)
  | [], [] => by simp [encs, D.eqvs]
  | [], b :: bs => by simp [encs, D.eqvs]
  | a :: as, [] => by simp [encs, D.eqvs]
  | a :: as, b :: bs => by
    rw [encs, encs, D.eqvs, enc_eqv a b, encs_eqv as bs]
    by_cases h1 : a = b <;> by_cases h2 : as = bs <;> simp [h1, h2]
end
theorem doc_eq {h : Mem} {a b : Doc} (ha : dp a ≤ 60) (hb : dp b ≤ 60) : cmpop h .eq (enc a) (enc b) = some (decide (a = b)) := by
  rw [cmp_eq (enc_pure a) (enc_pure b) (by rw [enc_dep]; omega) (by rw [enc_dep]; omega), enc_eqv]
theorem doc_ne {h : Mem} {a b : Doc} (ha : dp a ≤ 60) (hb : dp b ≤ 60) : cmpop h .ne (enc a) (enc b) = some (!decide (a = b)) := by
  rw [cmp_ne (enc_pure a) (enc_pure b) (by rw [enc_dep]; omega) (by rw [enc_dep]; omega), enc_eqv]
mutual
theorem dp_sz : ∀ d : Doc, dp d < sz d
  | .mk l ks => by
    have := dps_szs ks
    rw [dp, sz]
    omega
theorem dps_szs : ∀ ds : List Doc, dps ds ≤ szs ds
  | [] => Nat.le_refl _
  | d :: ds => by
    have h1 := dp_sz d
    have h2 := dps_szs ds
    rw [dps, szs]
    omega
end
theorem dp_mem {d : Doc} : ∀ {ds : List Doc}, d ∈ ds → dp d + 1 ≤ dps ds
  | e :: ds, h => by
    rw [dps]
    rcases List.mem_cons.mp h with z | z
    · subst z; exact Nat.le_max_left ..
    · exact Nat.le_trans (dp_mem z) (Nat.le_max_right ..)
theorem sz_mem {d : Doc} : ∀ {ds : List Doc}, d ∈ ds → sz d ≤ szs ds
  | e :: ds, h => by
    rw [szs]
    rcases List.mem_cons.mp h with z | z
    · subst z; omega
    · have := sz_mem z; omega
theorem len_szs : ∀ ds : List Doc, ds.length ≤ szs ds
  | [] => Nat.le_refl _
  | d :: ds => by
    have h1 := len_szs ds
    have h2 := dp_sz d
    rw [szs, List.length_cons]
    omega
end Ev
namespace Ev
section
variable {h : Mem} {a b x : Ob}
theorem m1_get0 : (h ++ [a])[h.length]? = some a := by simp
theorem m2_get0 : (h ++ [a, b])[h.length]? = some a := by simp
theorem m2_get1 : (h ++ [a, b])[h.length + 1]? = some b := by
  rw [List.getElem?_append_right (by omega)]
  simp
theorem m1_set0 : (h ++ [a]).set h.length x = h ++ [x] := by simp
theorem m2_set0 : (h ++ [a, b]).set h.length x = h ++ [x, b] := by simp
theorem m2_set1 : (h ++ [a, b]).set (h.length + 1) x = h ++ [a, x] := by
  rw [List.set_append_right _ _ (by omega)]
  simp
theorem m1_len : (h ++ [a]).length = h.length + 1 := by simp
theorem m1_app : h ++ [a] ++ [b] = h ++ [a, b] := by simp
theorem mt_append {n : Nat} {xs : List D} {d : D} (e : h[n]? = some (.box (.lst xs))) (hl : xs.length < LIM) : mtf .append (.loc n) [d] h = some (.non, h.set n (.box (.lst (xs ++ [d])))) := by
  show mtb .append (.loc n) [d] h = _
  unfold mtb
  simp only [e]
  rw [if_pos hl]
theorem mt_pop0 {n : Nat} {xs ys : List D} {y : D} (e : h[n]? = some (.box (.lst xs))) (hy : xs = ys ++ [y]) : mtf .pop0 (.loc n) [] h = some (y, h.set n (.box (.lst ys))) := by
  show mtb .pop0 (.loc n) [] h = _
  unfold mtb
  simp only [e]
  subst hy
  simp
theorem mt_extend {n : Nat} {xs ys : List D} (e : h[n]? = some (.box (.lst xs))) (hl : xs.length + ys.length ≤ LIM) : mtf .extend (.loc n) [.lst ys] h = some (.non, h.set n (.box (.lst (xs ++ ys)))) := by
  show mtb .extend (.loc n) [.lst ys] h = _
  unfold mtb
  simp only [e, shal_lst]
  rw [if_pos hl]
theorem mt_pop1 {n : Nat} {xs : List D} {y : D} (e : h[n]? = some (.box (.lst (y :: xs)))) : mtf .pop1 (.loc n) [.int 0] h = some (y, h.set n (.box (.lst xs))) := by
  show mtb .pop1 (.loc n) [.int 0] h = _
  unfold mtb
  simp only [e]
  have : ixN (y :: xs).length 0 = some 0 := by
    unfold ixN
    rw [if_pos (by omega), if_pos (by simp)]
    rfl
  rw [this]
  rfl
/-- a method's call on a box -/
theorem ev_mt {C : Cx} {m : Mt} {o : CE} {es : CEs} {σ : Fr} {h h1 h2 h3 : Mem} {n : Nat} {xs : List D} {ds : List D} {d : D} (ho : evE C o σ h = .ok (.loc n) h1) (e : h1[n]? = some (.box (.lst xs))) (ha : evL C es σ h1 = .ok ds h2) (hm : mtf m (.loc n) ds h2 = some (d, h3)) :
    evE C (.mt m o es) σ h = .ok d h3 := by
  rw [evE, ho]
  dsimp only
  rw [shal_box e]
  dsimp only
  rw [ha]
  dsimp only
  rw [hm]
theorem ev_v {C : Cx} {i : Nat} {σ : Fr} {h : Mem} {d : D} (e : σ[i]? = some (some d)) : evE C (.v i) σ h = .ok d h := by
  rw [evE]
  simp only [e]
end
end Ev
namespace Ev
theorem mul_r {a b : Int} (h : -(2 ^ 64) < b ∧ b < 2 ^ 64) : binop .mul (.int a) (.int b) = some (.int (a * b)) := by
  rw [bin_mul, if_pos (.inr h)]
theorem mul_l {a b : Int} (h : -(2 ^ 64) < a ∧ a < 2 ^ 64) : binop .mul (.int a) (.int b) = some (.int (a * b)) := by
  rw [bin_mul, if_pos (.inl h)]
end Ev
end
section
set_option autoImplicit false
set_option linter.all false
/-! M2: stepping through a body. -/
namespace Ev
/-- what a body's end gives the caller -/
def outF (gc : Bool) (h : Mem) : RS → R
  | .nx _ h1 => fin gc h h1 .non
  | .rt d h1 => fin gc h h1 d
  | .exc c x _ h1 => finX gc h h1 c x
  | _ => .stuck
theorem callF_out {P : Prog} {k f : Nat} {args : List D} {h : Mem} (fd : Def) (hd : P.defs[f]? = some fd) (ha : args.length = fd.np ∧ fd.np ≤ fd.ns) : callF P (k + 1) f args h = outF fd.gc h (evSs (P.cx k (callF P k)) fd.body (startF fd.ns args) h) := by
  rw [callF_succ hd ha]
  cases evSs (P.cx k (callF P k)) fd.body (startF fd.ns args) h <;> rfl
variable {C : Cx} {s : CS} {ss : CSs} {σ σ1 : Fr} {h h1 h2 : Mem} {x : R} {d : D} {gc : Bool} {c : Nat}
theorem st_nx {h0 : Mem} (e : evS C s σ h = .nx σ1 h1) (r : outF gc h0 (evSs C ss σ1 h1) = x) : outF gc h0 (evSs C (.cons s ss) σ h) = x := by
  rw [seq_nx e]; exact r
theorem st_rt {h0 : Mem} (e : evS C s σ h = .rt d h1) (r : fin gc h0 h1 d = x) : outF gc h0 (evSs C (.cons s ss) σ h) = x := by
  rw [seq_rt e]; exact r
theorem st_exc {h0 : Mem} (e : evS C s σ h = .exc c d σ1 h1) (r : finX gc h0 h1 c d = x) : outF gc h0 (evSs C (.cons s ss) σ h) = x := by
  rw [seq_exc e]; exact r
theorem st_fz {h0 : Mem} {i n : Nat} (e : σ[i]? = some (some (.loc n))) (g : h[n]? = some (.box d)) (r : outF gc h0 (evSs C ss (σ.set i (some d)) (h.set n .gone)) = x) : outF gc h0 (evSs C (.fz i ss) σ h) = x := by
  have : evSs C (.fz i ss) σ h = evSs C ss (σ.set i (some d)) (h.set n .gone) := by
    rw [evSs]
    simp only [e, g]
  rw [this]; exact r
theorem sq_fz {i n : Nat} {r : RS} (e : σ[i]? = some (some (.loc n))) (g : h[n]? = some (.box d)) (q : evSs C ss (σ.set i (some d)) (h.set n .gone) = r) : evSs C (.fz i ss) σ h = r := by
  have : evSs C (.fz i ss) σ h = evSs C ss (σ.set i (some d)) (h.set n .gone) := by
    rw [evSs]
    simp only [e, g]
  rw [this]; exact q
theorem st_ite {h0 : Mem} {t : CT} {a b : CSs} {v : Bool} (e : evT C t σ h = .ok v h1) (r : outF gc h0 (match evSs C (if v = true then a else b) σ h1 with | .nx σ2 h2 => evSs C ss σ2 h2 | r => r) = x) : outF gc h0 (evSs C (.cons (.ite t a b) ss) σ h) = x := by
  rw [evSs, evS, e]
  cases v <;> exact r
theorem sq_nx {r : RS} (e : evS C s σ h = .nx σ1 h1) (q : evSs C ss σ1 h1 = r) : evSs C (.cons s ss) σ h = r := by
  rw [seq_nx e]; exact q
theorem sq_rt (e : evS C s σ h = .rt d h1) : evSs C (.cons s ss) σ h = .rt d h1 := seq_rt e
theorem sq_nil : evSs C .nil σ h = .nx σ h := by rw [evSs]
theorem evS_ite {t : CT} {a b : CSs} {v : Bool} (e : evT C t σ h = .ok v h1) : evS C (.ite t a b) σ h = evSs C (if v = true then a else b) σ h1 := by
  rw [evS, e]
  cases v <;> rfl
theorem evS_asg {t : Tg} {e : CE} (q : evE C e σ h = .ok d h1) (a : asgT t d σ = some σ1) : evS C (.asg t e) σ h = .nx σ1 h1 := by
  rw [evS, q]
  dsimp only
  rw [a]
theorem evS_expr {e : CE} (q : evE C e σ h = .ok d h1) : evS C (.expr e) σ h = .nx σ h1 := by
  rw [evS, q]
theorem evE_call {f : Nat} {es : CEs} {ds : List D} (a : evL C es σ h = .ok ds h1) : evE C (.call f es) σ h = C.call f ds h1 := by
  rw [evE, a]
theorem evE_callx {f : Nat} {es : CEs} {ds : List D} {r : R} (a : evL C es σ h = .ok ds h1) (q : C.call f ds h1 = r) : evE C (.call f es) σ h = r := by
  rw [evE, a]; exact q
theorem evT_e {e : CE} {b : Bool} (q : evE C e σ h = .ok (.bl b) h1) : evT C (.e e) σ h = .ok b h1 := by
  rw [evT, q]
theorem evT_not {t : CT} {b : Bool} (q : evT C t σ h = .ok b h1) : evT C (.not t) σ h = .ok (!b) h1 := by
  rw [evT, q]
theorem evTO2 {s t : CT} {b : Bool} (q : evT C s σ h = .ok false h1) (r : evT C t σ h1 = .ok b h2) : evT C (.or (.cons s (.cons t .nil))) σ h = .ok b h2 := by
  rw [evT, evTO, q]
  · dsimp only
    rw [evTO, r]
  · intro z; cases z
theorem evTA2 {s t : CT} {b : Bool} (q : evT C s σ h = .ok true h1) (r : evT C t σ h1 = .ok b h2) : evT C (.and (.cons s (.cons t .nil))) σ h = .ok b h2 := by
  rw [evT, evTA, q]
  · dsimp only
    rw [evTA, r]
  · intro z; cases z
theorem evTA1 {s t : CT} (q : evT C s σ h = .ok false h1) : evT C (.and (.cons s (.cons t .nil))) σ h = .ok false h1 := by
  rw [evT, evTA, q]
  intro z; cases z
theorem ev_lst {es : CEs} {ds : List D} (hs : evL C es σ h = .ok ds h1) (hl : ds.length ≤ LIM) : evE C (.fr (.lst es)) σ h = .ok (.lst ds) h1 := by
  rw [evE, evF, hs]
  dsimp only
  rw [if_pos hl]
theorem ev_nw {e : FE} (q : evF C e σ h = .ok d h1) : evE C (.nw e) σ h = .ok (.loc h1.length) (h1 ++ [.box d]) := by
  rw [evE, q]
end Ev
namespace Ev
/-- a comprehension over data that stand for things -/
theorem lcL_on {α : Type} {elt : Fr → Mem → R} {test : Fr → Mem → RB} {t : Tg} {σ : Fr} {h : Mem} (g : α → D) (F : α → D) (p : α → Bool) (fr : α → Fr) : ∀ (xs : List α) (acc : List D),
    (∀ x ∈ xs, asgT t (g x) σ = some (fr x) ∧ test (fr x) h = .ok (p x) h ∧ (p x = true → elt (fr x) h = .ok (F x) h)) → acc.length + xs.length ≤ LIM →
    lcL elt test t σ (xs.map g) acc h = .ok (acc ++ (xs.filter p).map F) h
  | [], acc, _, _ => by simp [lcL]
  | x :: xs, acc, hx, hl => by
    obtain ⟨h0, h1, h2⟩ := hx x List.mem_cons_self
    rw [List.length_cons] at hl
    rw [List.map_cons, lcL, h0]
    dsimp only
    rw [h1]
    cases hp : p x with
    | true =>
      dsimp only
      rw [h2 hp]
      dsimp only
      rw [if_pos (by omega), lcL_on g F p fr xs (acc ++ [F x]) (fun y hy => hx y (List.mem_cons_of_mem _ hy)) (by rw [List.length_append]; simp; omega), List.filter_cons, if_pos hp]
      simp
    | false =>
      dsimp only
      rw [lcL_on g F p fr xs acc (fun y hy => hx y (List.mem_cons_of_mem _ hy)) (by omega), List.filter_cons, if_neg (by rw [hp]; decide)]
/-- the place that a number leads to -/
theorem atI_map {α : Type} {g : α → D} {xs : List α} {r : Nat} (hr : r < xs.length) : atI (xs.map g) (r : Int) = some (g xs[r]) := by
  rw [atI_nat, List.getElem?_map, List.getElem?_eq_getElem hr]
  rfl
theorem maxI_le {a : Int} : ∀ {l : List Int}, a ∈ l → a ≤ maxI l
  | [b], h => by
    simp at h
    subst h
    exact Int.le_refl _
  | b :: c :: l, h => by
    rw [maxI]
    · rcases List.mem_cons.mp h with z | z
      · subst z; omega
      · have := maxI_le z; omega
    · intro z; cases z
end Ev
end
section
set_option Elab.async false
set_option autoImplicit false
set_option maxRecDepth 100000
set_option linter.all false
/-! N1: the program's defs about documents. -/
namespace K00
open Ev
def FIRST : List Nat := [97, 98, 99, 100, 101, 102, 103, 104, 105, 106, 107, 108, 109, 110, 111, 112, 113, 114, 115, 116, 117, 118, 119, 120, 121, 122]
def LATER : List Nat := FIRST ++ [48, 49, 50, 51, 52, 53, 54, 55, 56, 57]
def lab (l : List Nat) : Bool := match l with
  | [] => false
  | c :: r => decide (r.length ≤ 11) && decide (c ∈ FIRST) && (c :: r).all fun x => decide (x ∈ LATER)
theorem gl0 : prog.glob[0]? = some (.int 12) := rfl
theorem gl1 : prog.glob[1]? = some (.int 3) := rfl
theorem gl2 : prog.glob[2]? = some (.int 300) := rfl
theorem gl3 : prog.glob[3]? = some (.int 40) := rfl
theorem gl4 : prog.glob[4]? = some (.str FIRST) := rfl
theorem gl5 : prog.glob[5]? = some (.str LATER) := rfl
theorem lim_lt' {n : Nat} (h : n ≤ 100000) : n < LIM := Nat.lt_of_le_of_lt h (by decide)
theorem lim_lt {n : Nat} (h : n ≤ 100000) : n ≤ LIM := Nat.le_trans h (by decide)
@[simp] theorem cx_glob (k : Nat) (c : Nat → List D → Mem → R) (i : Nat) : (prog.cx k c).glob i = prog.glob[i]? := rfl
@[simp] theorem cx_call (k : Nat) (c : Nat → List D → Mem → R) : (prog.cx k c).call = c := rfl
theorem is_label_ok (k : Nat) (l : List Nat) (h : Mem) (hl : l.length ≤ 1000) : callF prog (k + 1) i_is_label [.str l] h = .ok (.bl (lab l)) h := by
  rw [callF_succ (fd := d_is_label) rfl ⟨rfl, by decide⟩]
  cases l with
  | nil => simp [d_is_label, startF, evSs, evS, evT, evTO, evE, evL, List.replicate, gl0, LIM, lab]
  | cons c r =>
    have l1' : r.length + 1 ≤ LIM := lim_lt (by simp at hl; omega)
    have e1 : (1 : Int) ≤ (r.length : Int) + 1 := by omega
    have a0 : atI (c :: r) 0 = some c := atI_nat (i := 0)
    by_cases h1 : r.length ≤ 11
    · have e2 : (r.length : Int) + 1 ≤ 12 := by omega
      by_cases h2 : c ∈ FIRST
      · have lp := lcL_nm (elt := evE (prog.cx k (callF prog k)) e_is_label_0) (test := fun _ h => .ok true h) (i := 1) (σ := [some (.str (c :: r)), none]) (h := h) (F := fun d => match d with | .str [x] => .bl (decide (x ∈ LATER)) | _ => .non) (p := fun _ => true) (by simp)
          ((c :: r).map fun x => D.str [x]) [] (fun x hx => by
            obtain ⟨y, _, e⟩ := List.mem_map.mp hx
            subst e
            exact ⟨rfl, fun _ => by simp [e_is_label_0, evE, gl5, -List.mem_cons]⟩) (by simp; exact l1')
        simp [d_is_label, startF, evSs, evS, evT, evTO, evE, evL, evF, evSrc, itD, List.replicate, gl0, gl4, l1', e1, e2, item, a0, h2, -List.mem_cons]
        rw [← List.map_cons (f := fun x => D.str [x]), lp]
        have e5 : ([] ++ List.map (fun d => match d with | D.str [x] => D.bl (decide (x ∈ LATER)) | _ => D.non) (List.filter (fun _ => true) ((c :: r).map fun x => D.str [x]))) = (c :: r).map fun x => D.bl (decide (x ∈ LATER)) := by
          rw [List.filter_eq_self.mpr fun _ _ => rfl, List.map_map]
          rfl
        rw [e5]
        dsimp only
        rw [bi_all, bools_map]
        simp [lab, h1, h2, -List.mem_cons]
      · simp [d_is_label, startF, evSs, evS, evT, evTO, evE, evL, evF, evSrc, List.replicate, gl0, gl4, l1', e1, e2, item, a0, h2, lab, -List.mem_cons]
    · have e2 : ¬ (r.length : Int) + 1 ≤ 12 := by omega
      simp [d_is_label, startF, evSs, evS, evT, evTO, evE, evL, List.replicate, gl0, l1', e1, e2, lab, h1]
theorem measured_ok (k : Nat) : ∀ (d : Doc) (h : Mem), dp d < k → callF prog k i_measured [enc d] h = .ok (.tup [.int (sz d), .int (dp d)]) h := by
  induction k with
  | zero => intro d h l; omega
  | succ k ihk =>
    rintro ⟨lb, ks⟩ h l
    rw [callF_succ (fd := d_measured) rfl ⟨rfl, by decide⟩]
    have lim2 : 2 ≤ LIM := by decide
    have e0 : cut (D.str lb :: encs ks) (some 1) none = encs ks := cut_from (i := 1) (by simp)
    rw [dp] at l
    have loop : ∀ (xs : List Doc) (a b' : Nat) (o1 o4 o5 : Option D), (∀ x ∈ xs, dp x < k) →
        ∃ o1' o4' o5', forL (evSs (prog.cx k (callF prog k)) b_measured_0) (.nm 1) (encs xs) [some (enc (.mk lb ks)), o1, some (.int a), some (.int b'), o4, o5] h =
          .nx [some (enc (.mk lb ks)), o1', some (.int (a + szs xs : Nat)), some (.int (max b' (dps xs) : Nat)), o4', o5'] h := by
      intro xs
      induction xs with
      | nil => intro a b' o1 o4 o5 _; exact ⟨o1, o4, o5, by simp [encs, forL, szs, dps]⟩
      | cons x xs ih =>
        intro a b' o1 o4 o5 hx
        have hm := ihk x h (hx x List.mem_cons_self)
        obtain ⟨p1, p4, p5, e⟩ := ih (a + sz x) (max b' (dp x + 1)) (some (enc x)) (some (.int (sz x))) (some (.int (dp x))) (fun y hy => hx y (List.mem_cons_of_mem _ hy))
        refine ⟨p1, p4, p5, ?_⟩
        have em : (if (b' : Int) < (dp x : Int) + 1 then (dp x : Int) + 1 else (b' : Int)) = ((max b' (dp x + 1) : Nat) : Int) := by split <;> omega
        have ea : (a : Int) + (sz x : Int) = ((a + sz x : Nat) : Int) := by omega
        have hb : evSs (prog.cx k (callF prog k)) b_measured_0 [some (enc (.mk lb ks)), some (enc x), some (.int a), some (.int b'), o4, o5] h =
            .nx [some (enc (.mk lb ks)), some (enc x), some (.int (a + sz x : Nat)), some (.int (max b' (dp x + 1) : Nat)), some (.int (sz x)), some (.int (dp x))] h := by
          simp only [b_measured_0, hm, em, ea, evSs, evS, evE, evL, evT, evTA, evTO, evF, evSrc, evO, evAnd, evOr, asgT, asgTs, cx_glob, cx_call, shal_int, shal_str, shal_tup, shal_lst, shal_non, shal_bl, bin_addi, bin_subi, bin_addt, bin_addl, bin_adds, bin_mod, bin_div, cmp_lt, cmp_le, cmp_gt, cmp_ge, cmp_eqi, cmp_nei, cmp_eqs, cmp_nes, cmp_ins, cmp_nins, cmp_isn, cmp_isns, item_tup, item_lst, bi_lens, bi_lent, bi_lenl, bi_int, bi_intb, bi_abs, bi_max2, bi_tuplel, bi_tuplet, itD, slice, seqD, pure_non, pure_bl, pure_int, pure_str, pure_tup, pure_lst, pures_nil, pures_cons, startF, List.replicate, List.length_cons, List.length_nil, List.set_cons_zero, List.set_cons_succ, List.getElem?_cons_zero, List.getElem?_cons_succ, List.getElem?_nil, Nat.zero_add, Nat.reduceAdd, Nat.reduceSub, Nat.reduceLT, Nat.reduceLeDiff, if_true, Bool.not_true, Bool.not_false, List.map_cons, List.map_nil, List.cons_append, List.nil_append, reduceIte, and_self, and_true, true_and, decide_true, decide_false, Bool.true_and, Bool.and_true, Bool.false_and, Bool.and_false, fin_non, fin_bl, fin_int, fin_str, finX_same', gt_iff_lt, Nat.lt_add_one, Bool.false_eq_true]
        rw [encs, forL_nx rfl hb, e]
        simp only [szs, dps, Nat.add_assoc, Nat.max_assoc]
    obtain ⟨p1, p4, p5, e⟩ := loop ks 1 0 none none none (fun x hx => by have := dp_mem hx; omega)
    rw [show enc (.mk lb ks) = .tup (.str lb :: encs ks) from by rw [enc]] at e ⊢
    simp [asgT, asgTs, d_measured, startF, List.replicate, evSs, evS, evE, evL, evSrc, evO, lim2, slice, e0, itD]
    rw [show (some (D.int 1)) = some (D.int ((1 : Nat) : Int)) from rfl, show (some (D.int 0)) = some (D.int ((0 : Nat) : Int)) from rfl, e]
    simp [sz, dp, lim2, fin_pure (d := .tup [.int (1 + (szs ks : Int)), .int (dps ks : Int)]) rfl]
end K00
namespace K00
open Ev
mutual
def nds (p : List D) : Doc → List D
  | .mk l ks => .tup [.tup p, enc (.mk l ks)] :: ndss p 0 ks
def ndss (p : List D) (i : Nat) : List Doc → List D
  | [] => []
  | k :: ks => nds (p ++ [.int i]) k ++ ndss p (i + 1) ks
end
def kp (p : List D) (i : Nat) : List Doc → List D
  | [] => []
  | k :: ks => .tup [.tup (p ++ [.int i]), enc k] :: kp p (i + 1) ks
theorem kp_get (p : List D) : ∀ (ks : List Doc) (i j : Nat) (d : Doc), ks[j]? = some d → (kp p i ks)[j]? = some (.tup [.tup (p ++ [.int ((i + j : Nat) : Int)]), enc d])
  | [], i, j, d, e => by simp at e
  | k :: ks, i, 0, d, e => by
    simp at e
    subst e
    simp [kp]
  | k :: ks, i, j + 1, d, e => by
    have := kp_get p ks (i + 1) j d (by simpa using e)
    rw [kp, List.getElem?_cons_succ, this]
    have : i + 1 + j = i + (j + 1) := by omega
    rw [this]
theorem kp_len (p : List D) : ∀ (ks : List Doc) (i : Nat), (kp p i ks).length = ks.length
  | [], _ => rfl
  | k :: ks, i => by rw [kp, List.length_cons, kp_len p ks, List.length_cons]
theorem encs_len : ∀ ks : List Doc, (encs ks).length = ks.length
  | [] => rfl
  | k :: ks => by rw [encs, List.length_cons, encs_len ks, List.length_cons]
theorem encs_get : ∀ (ks : List Doc) (j : Nat), (encs ks)[j]? = (ks[j]?).map enc
  | [], j => by simp [encs]
  | k :: ks, 0 => by simp [encs]
  | k :: ks, j + 1 => by rw [encs, List.getElem?_cons_succ, encs_get ks j]; simp
/-- the children are pushed, the first on top -/
theorem nodes_push (k : Nat) (h : Mem) (fd : D) (l : List Nat) (ks : List Doc) (p : List D) (hp : p.length ≤ 1000) (hk : ks.length ≤ 1000) (d0 : Option D) : ∀ (m : Nat) (w : List D) (o3 : Option D), m ≤ ks.length → w.length + m ≤ 50000 →
    ∃ o3', forL (evSs (prog.cx k (callF prog k)) b_nodes_0) (.nm 3) (rngL m (-1) m) [d0, some (.loc h.length), some (.loc (h.length + 1)), o3, some (.tup p), some (enc (.mk l ks))] (h ++ [.box fd, .box (.lst w)]) =
      .nx [d0, some (.loc h.length), some (.loc (h.length + 1)), o3', some (.tup p), some (enc (.mk l ks))] (h ++ [.box fd, .box (.lst (w ++ ((kp p 0 ks).take m).reverse))]) := by
  intro m
  induction m with
  | zero => intro w o3 _ _; exact ⟨o3, by simp [rngL, forL]⟩
  | succ m ih =>
    intro w o3 hm hw
    have hd : ks[m]? = some ks[m] := List.getElem?_eq_getElem hm
    obtain ⟨o3', e⟩ := ih (w ++ [.tup [.tup (p ++ [.int ((m : Nat) : Int)]), enc ks[m]]]) (some (.int ((m : Int) + 1))) (by omega) (by rw [List.length_append]; simp; omega)
    refine ⟨o3', ?_⟩
    have e1 : (m : Int) + 1 - 1 = m := by omega
    have e2 : atI (D.str l :: encs ks) ((m : Int) + 1) = some (enc ks[m]) := by
      have := atI_nat (xs := D.str l :: encs ks) (i := m + 1)
      rw [List.getElem?_cons_succ, encs_get, hd] at this
      exact this
    have e3 : p.length + 1 ≤ LIM := lim_lt (by omega)
    have e4 : w.length < LIM := lim_lt' (by omega)
    have l2 : 2 ≤ LIM := by decide
    have ga : evL (prog.cx k (callF prog k)) (.cons (.tup (.cons (.tup (.star (.v 4) (.cons (.bin .sub (.v 3) (.c (.int 1))) .nil))) (.cons (.ix (.v 5) (.v 3)) .nil))) .nil) [d0, some (.loc h.length), some (.loc (h.length + 1)), some (.int ((m : Int) + 1)), some (.tup p), some (enc (.mk l ks))] (h ++ [.box fd, .box (.lst w)]) =
        .ok [.tup [.tup (p ++ [.int (m : Int)]), enc ks[m]]] (h ++ [.box fd, .box (.lst w)]) := by
      rw [show enc (.mk l ks) = .tup (.str l :: encs ks) from by rw [enc]]
      simp only [e1, e2, e3, l2, List.length_append, evSs, evS, evE, evL, evT, evTA, evTO, evF, evSrc, evO, evAnd, evOr, asgT, asgTs, cx_glob, cx_call, shal_int, shal_str, shal_tup, shal_lst, shal_non, shal_bl, bin_addi, bin_subi, bin_addt, bin_addl, bin_adds, bin_mod, bin_div, cmp_lt, cmp_le, cmp_gt, cmp_ge, cmp_eqi, cmp_nei, cmp_eqs, cmp_nes, cmp_ins, cmp_nins, cmp_isn, cmp_isns, item_tup, item_lst, bi_lens, bi_lent, bi_lenl, bi_int, bi_intb, bi_abs, bi_max2, bi_tuplel, bi_tuplet, itD, slice, seqD, pure_non, pure_bl, pure_int, pure_str, pure_tup, pure_lst, pures_nil, pures_cons, startF, List.replicate, List.length_cons, List.length_nil, List.set_cons_zero, List.set_cons_succ, List.getElem?_cons_zero, List.getElem?_cons_succ, List.getElem?_nil, Nat.zero_add, Nat.reduceAdd, Nat.reduceSub, Nat.reduceLT, Nat.reduceLeDiff, if_true, Bool.not_true, Bool.not_false, List.map_cons, List.map_nil, List.cons_append, List.nil_append, reduceIte, and_self, and_true, true_and, decide_true, decide_false, Bool.true_and, Bool.and_true, Bool.false_and, Bool.and_false, fin_non, fin_bl, fin_int, fin_str, finX_same', gt_iff_lt, Nat.lt_add_one, Bool.false_eq_true]
    have hb : evSs (prog.cx k (callF prog k)) b_nodes_0 [d0, some (.loc h.length), some (.loc (h.length + 1)), some (.int ((m : Int) + 1)), some (.tup p), some (enc (.mk l ks))] (h ++ [.box fd, .box (.lst w)]) =
        .nx [d0, some (.loc h.length), some (.loc (h.length + 1)), some (.int ((m : Int) + 1)), some (.tup p), some (enc (.mk l ks))] (h ++ [.box fd, .box (.lst (w ++ [.tup [.tup (p ++ [.int (m : Int)]), enc ks[m]]]))]) := by
      rw [b_nodes_0, evSs, evS, ev_mt (ev_v rfl) m2_get1 ga (mt_append m2_get1 e4)]
      simp only [evSs, m2_set1]
    have rg : rngL ((m + 1 : Nat) : Int) (-1) (m + 1) = .int ((m : Int) + 1) :: rngL (m : Int) (-1) m := by
      rw [rngL]
      have : ((m + 1 : Nat) : Int) + -1 = (m : Int) := by omega
      rw [this]
      rfl
    rw [rg, forL_nx rfl hb, e, List.append_assoc]
    have tk : (kp p 0 ks).take (m + 1) = (kp p 0 ks).take m ++ [.tup [.tup (p ++ [.int (m : Int)]), enc ks[m]]] := by
      rw [List.take_add_one, kp_get p ks 0 m _ hd]
      simp
    rw [tk, List.reverse_append]
    rfl
end K00
namespace K00
open Ev
/-- what the stack still holds, from the top -/
def stk : List (List D × Doc) → List D
  | [] => []
  | (p, d) :: r => .tup [.tup p, enc d] :: stk r
def outs : List (List D × Doc) → List D
  | [] => []
  | (p, d) :: r => nds p d ++ outs r
def szp : List (List D × Doc) → Nat
  | [] => 0
  | (_, d) :: r => sz d + szp r
def kps (p : List D) (i : Nat) : List Doc → List (List D × Doc)
  | [] => []
  | k :: ks => (p ++ [.int i], k) :: kps p (i + 1) ks
theorem kps_stk (p : List D) : ∀ (ks : List Doc) (i : Nat) (r : List (List D × Doc)), stk (kps p i ks ++ r) = kp p i ks ++ stk r
  | [], _, _ => rfl
  | k :: ks, i, r => by rw [kps, List.cons_append, stk, kps_stk p ks, kp]; rfl
theorem kps_outs (p : List D) : ∀ (ks : List Doc) (i : Nat) (r : List (List D × Doc)), outs (kps p i ks ++ r) = ndss p i ks ++ outs r
  | [], _, _ => by simp [kps, ndss]
  | k :: ks, i, r => by rw [kps, List.cons_append, outs, kps_outs p ks, ndss, List.append_assoc]
theorem kps_szp (p : List D) : ∀ (ks : List Doc) (i : Nat) (r : List (List D × Doc)), szp (kps p i ks ++ r) = szs ks + szp r
  | [], _, _ => by simp [kps, szs]
  | k :: ks, i, r => by rw [kps, List.cons_append, szp, kps_szp p ks, szs]; omega
theorem stk_len : ∀ r : List (List D × Doc), (stk r).length ≤ szp r
  | [] => Nat.le_refl _
  | (p, d) :: r => by
    have h1 := stk_len r
    have h2 := dp_sz d
    rw [stk, szp, List.length_cons]
    omega
/-- all paths on it are short -/
def shortP (n : Nat) : List (List D × Doc) → Prop
  | [] => True
  | (p, d) :: r => p.length + dp d ≤ n ∧ shortP n r
theorem kps_short {n : Nat} (p : List D) : ∀ (ks : List Doc) (i : Nat) (r : List (List D × Doc)), p.length + dps ks ≤ n → shortP n r → shortP n (kps p i ks ++ r)
  | [], _, _, _, h => h
  | k :: ks, i, r, h, hr => by
    rw [dps] at h
    refine ⟨?_, kps_short p ks (i + 1) r (by omega) hr⟩
    rw [List.length_append]
    simp
    omega
theorem nodes_loop (k : Nat) (h : Mem) (d0 : Option D) : ∀ (n : Nat) (st : List (List D × Doc)) (acc : List D) (o3 o4 o5 : Option D) (w : Nat), szp st ≤ n → n < w → shortP 900 st → acc.length + szp st ≤ 900 →
    ∃ f', whileL (evT (prog.cx k (callF prog k)) (.e (.cmp .gt (.bi .len (.cons (.v 2) .nil)) (.c (.int 0))))) (evSs (prog.cx k (callF prog k)) b_nodes_1) w [d0, some (.loc h.length), some (.loc (h.length + 1)), o3, o4, o5] (h ++ [.box (.lst acc), .box (.lst (stk st).reverse)]) =
      .nx f' (h ++ [.box (.lst (acc ++ outs st)), .box (.lst [])]) ∧ f'[1]? = some (some (.loc h.length)) := by
  intro n
  induction n with
  | zero =>
    intro st acc o3 o4 o5 w hs hw _ _
    cases st with
    | nil =>
      cases w with
      | zero => omega
      | succ w =>
        refine ⟨[d0, some (.loc h.length), some (.loc (h.length + 1)), o3, o4, o5], ?_, rfl⟩
        rw [whileL]
        simp only [stk, outs, List.reverse_nil, List.append_nil, bi_lenb (m2_get1 (h := h)), Int.lt_irrefl, List.length_nil, Int.ofNat_eq_natCast, Int.natCast_zero, evSs, evS, evE, evL, evT, evTA, evTO, evF, evSrc, evO, evAnd, evOr, asgT, asgTs, cx_glob, cx_call, shal_int, shal_str, shal_tup, shal_lst, shal_non, shal_bl, bin_addi, bin_subi, bin_addt, bin_addl, bin_adds, bin_mod, bin_div, cmp_lt, cmp_le, cmp_gt, cmp_ge, cmp_eqi, cmp_nei, cmp_eqs, cmp_nes, cmp_ins, cmp_nins, cmp_isn, cmp_isns, item_tup, item_lst, bi_lens, bi_lent, bi_lenl, bi_int, bi_intb, bi_abs, bi_max2, bi_tuplel, bi_tuplet, itD, slice, seqD, pure_non, pure_bl, pure_int, pure_str, pure_tup, pure_lst, pures_nil, pures_cons, startF, List.replicate, List.length_cons, List.length_nil, List.set_cons_zero, List.set_cons_succ, List.getElem?_cons_zero, List.getElem?_cons_succ, List.getElem?_nil, Nat.zero_add, Nat.reduceAdd, Nat.reduceSub, Nat.reduceLT, Nat.reduceLeDiff, if_true, Bool.not_true, Bool.not_false, List.map_cons, List.map_nil, List.cons_append, List.nil_append, reduceIte, and_self, and_true, true_and, decide_true, decide_false, Bool.true_and, Bool.and_true, Bool.false_and, Bool.and_false, fin_non, fin_bl, fin_int, fin_str, finX_same', gt_iff_lt, Nat.lt_add_one, Bool.false_eq_true]
    | cons q r =>
      obtain ⟨p, d⟩ := q
      have := dp_sz d
      rw [szp] at hs
      omega
  | succ n ih =>
    intro st acc o3 o4 o5 w hs hw hsh ha
    cases st with
    | nil => exact (by
      cases w with
      | zero => omega
      | succ w =>
        refine ⟨[d0, some (.loc h.length), some (.loc (h.length + 1)), o3, o4, o5], ?_, rfl⟩
        rw [whileL]
        simp only [stk, outs, List.reverse_nil, List.append_nil, bi_lenb (m2_get1 (h := h)), Int.lt_irrefl, List.length_nil, Int.ofNat_eq_natCast, Int.natCast_zero, evSs, evS, evE, evL, evT, evTA, evTO, evF, evSrc, evO, evAnd, evOr, asgT, asgTs, cx_glob, cx_call, shal_int, shal_str, shal_tup, shal_lst, shal_non, shal_bl, bin_addi, bin_subi, bin_addt, bin_addl, bin_adds, bin_mod, bin_div, cmp_lt, cmp_le, cmp_gt, cmp_ge, cmp_eqi, cmp_nei, cmp_eqs, cmp_nes, cmp_ins, cmp_nins, cmp_isn, cmp_isns, item_tup, item_lst, bi_lens, bi_lent, bi_lenl, bi_int, bi_intb, bi_abs, bi_max2, bi_tuplel, bi_tuplet, itD, slice, seqD, pure_non, pure_bl, pure_int, pure_str, pure_tup, pure_lst, pures_nil, pures_cons, startF, List.replicate, List.length_cons, List.length_nil, List.set_cons_zero, List.set_cons_succ, List.getElem?_cons_zero, List.getElem?_cons_succ, List.getElem?_nil, Nat.zero_add, Nat.reduceAdd, Nat.reduceSub, Nat.reduceLT, Nat.reduceLeDiff, if_true, Bool.not_true, Bool.not_false, List.map_cons, List.map_nil, List.cons_append, List.nil_append, reduceIte, and_self, and_true, true_and, decide_true, decide_false, Bool.true_and, Bool.and_true, Bool.false_and, Bool.and_false, fin_non, fin_bl, fin_int, fin_str, finX_same', gt_iff_lt, Nat.lt_add_one, Bool.false_eq_true])
    | cons q r =>
      obtain ⟨p, ⟨l, ks⟩⟩ := q
      cases w with
      | zero => omega
      | succ w =>
        rw [szp, sz] at hs ha
        obtain ⟨hsh1, hsh2⟩ := hsh
        rw [dp] at hsh1
        have lk := len_szs ks
        have ls := stk_len r
        obtain ⟨o3', ep⟩ := nodes_push k h (.lst (acc ++ [.tup [.tup p, enc (.mk l ks)]])) l ks p (by omega) (by omega) d0 ks.length (stk r).reverse o3 (Nat.le_refl _) (by rw [List.length_reverse]; omega)
        have e5 : (stk r).reverse ++ ((kp p 0 ks).take ks.length).reverse = (stk (kps p 0 ks ++ r)).reverse := by
          rw [List.take_of_length_le (by rw [kp_len]; exact Nat.le_refl _), kps_stk, List.reverse_append]
        rw [e5] at ep
        obtain ⟨f', er, ef⟩ := ih (kps p 0 ks ++ r) (acc ++ [.tup [.tup p, enc (.mk l ks)]]) o3' (some (.tup p)) (some (enc (.mk l ks))) w (by rw [kps_szp]; omega) (by omega) (kps_short p ks 0 r hsh1 hsh2) (by rw [kps_szp, List.length_append]; simp; omega)
        refine ⟨f', ?_, ef⟩
        have rs : (stk ((p, .mk l ks) :: r)).reverse = (stk r).reverse ++ [.tup [.tup p, enc (.mk l ks)]] := by rw [stk, List.reverse_cons]
        have tst : evT (prog.cx k (callF prog k)) (.e (.cmp .gt (.bi .len (.cons (.v 2) .nil)) (.c (.int 0)))) [d0, some (.loc h.length), some (.loc (h.length + 1)), o3, o4, o5] (h ++ [.box (.lst acc), .box (.lst (stk ((p, .mk l ks) :: r)).reverse)]) =
            .ok true (h ++ [.box (.lst acc), .box (.lst (stk ((p, .mk l ks) :: r)).reverse)]) := by
          have pos : (0 : Int) < ((stk ((p, .mk l ks) :: r)).reverse.length : Int) := by rw [List.length_reverse, stk, List.length_cons]; omega
          simp only [bi_lenb (m2_get1 (h := h)), pos, evSs, evS, evE, evL, evT, evTA, evTO, evF, evSrc, evO, evAnd, evOr, asgT, asgTs, cx_glob, cx_call, shal_int, shal_str, shal_tup, shal_lst, shal_non, shal_bl, bin_addi, bin_subi, bin_addt, bin_addl, bin_adds, bin_mod, bin_div, cmp_lt, cmp_le, cmp_gt, cmp_ge, cmp_eqi, cmp_nei, cmp_eqs, cmp_nes, cmp_ins, cmp_nins, cmp_isn, cmp_isns, item_tup, item_lst, bi_lens, bi_lent, bi_lenl, bi_int, bi_intb, bi_abs, bi_max2, bi_tuplel, bi_tuplet, itD, slice, seqD, pure_non, pure_bl, pure_int, pure_str, pure_tup, pure_lst, pures_nil, pures_cons, startF, List.replicate, List.length_cons, List.length_nil, List.set_cons_zero, List.set_cons_succ, List.getElem?_cons_zero, List.getElem?_cons_succ, List.getElem?_nil, Nat.zero_add, Nat.reduceAdd, Nat.reduceSub, Nat.reduceLT, Nat.reduceLeDiff, if_true, Bool.not_true, Bool.not_false, List.map_cons, List.map_nil, List.cons_append, List.nil_append, reduceIte, and_self, and_true, true_and, decide_true, decide_false, Bool.true_and, Bool.and_true, Bool.false_and, Bool.and_false, fin_non, fin_bl, fin_int, fin_str, finX_same', gt_iff_lt, Nat.lt_add_one, Bool.false_eq_true]
        have e6 : acc.length < LIM := lim_lt' (by omega)
        have l2 : 2 ≤ LIM := by decide
        have ga : evL (prog.cx k (callF prog k)) (.cons (.tup (.cons (.v 4) (.cons (.v 5) .nil))) .nil) [d0, some (.loc h.length), some (.loc (h.length + 1)), o3, some (.tup p), some (enc (.mk l ks))] (h ++ [.box (.lst acc), .box (.lst (stk r).reverse)]) =
            .ok [.tup [.tup p, enc (.mk l ks)]] (h ++ [.box (.lst acc), .box (.lst (stk r).reverse)]) := by
          simp only [l2, evSs, evS, evE, evL, evT, evTA, evTO, evF, evSrc, evO, evAnd, evOr, asgT, asgTs, cx_glob, cx_call, shal_int, shal_str, shal_tup, shal_lst, shal_non, shal_bl, bin_addi, bin_subi, bin_addt, bin_addl, bin_adds, bin_mod, bin_div, cmp_lt, cmp_le, cmp_gt, cmp_ge, cmp_eqi, cmp_nei, cmp_eqs, cmp_nes, cmp_ins, cmp_nins, cmp_isn, cmp_isns, item_tup, item_lst, bi_lens, bi_lent, bi_lenl, bi_int, bi_intb, bi_abs, bi_max2, bi_tuplel, bi_tuplet, itD, slice, seqD, pure_non, pure_bl, pure_int, pure_str, pure_tup, pure_lst, pures_nil, pures_cons, startF, List.replicate, List.length_cons, List.length_nil, List.set_cons_zero, List.set_cons_succ, List.getElem?_cons_zero, List.getElem?_cons_succ, List.getElem?_nil, Nat.zero_add, Nat.reduceAdd, Nat.reduceSub, Nat.reduceLT, Nat.reduceLeDiff, if_true, Bool.not_true, Bool.not_false, List.map_cons, List.map_nil, List.cons_append, List.nil_append, reduceIte, and_self, and_true, true_and, decide_true, decide_false, Bool.true_and, Bool.and_true, Bool.false_and, Bool.and_false, fin_non, fin_bl, fin_int, fin_str, finX_same', gt_iff_lt, Nat.lt_add_one, Bool.false_eq_true]
        have er2 : rngD [.int ((ks.length : Int) + 1 - 1), .int 0, .int (-1)] = some (rngL (ks.length : Int) (-1) ks.length) := by
          have s1 : small62 ((ks.length : Int)) = true := by unfold small62; simp; omega
          have e7 : (ks.length : Int) + 1 - 1 = ks.length := by omega
          rw [e7]
          simp only [rngD, s1]
          rw [if_pos (by decide)]
          simp
        have body : evSs (prog.cx k (callF prog k)) b_nodes_1 [d0, some (.loc h.length), some (.loc (h.length + 1)), o3, o4, o5] (h ++ [.box (.lst acc), .box (.lst (stk ((p, .mk l ks) :: r)).reverse)]) =
            .nx [d0, some (.loc h.length), some (.loc (h.length + 1)), o3', some (.tup p), some (enc (.mk l ks))] (h ++ [.box (.lst (acc ++ [.tup [.tup p, enc (.mk l ks)]])), .box (.lst (stk (kps p 0 ks ++ r)).reverse)]) := by
          have q1 := ev_mt (C := prog.cx k (callF prog k)) (o := .v 2) (es := .nil) (σ := [d0, some (.loc h.length), some (.loc (h.length + 1)), o3, o4, o5]) (h := h ++ [.box (.lst acc), .box (.lst (stk ((p, .mk l ks) :: r)).reverse)]) (ev_v rfl) m2_get1 (by rw [evL]) (mt_pop0 m2_get1 rs)
          rw [b_nodes_1, evSs, evS, q1]
          simp only [m2_set1, asgT, asgTs, List.length_cons, List.length_nil, List.set_cons_zero, List.set_cons_succ, Nat.reduceAdd, Nat.reduceLT, if_true]
          rw [evSs, evS, ev_mt (ev_v rfl) m2_get0 ga (mt_append m2_get0 e6)]
          simp only [m2_set0]
          rw [evSs, evS, evSrc]
          have ea : evL (prog.cx k (callF prog k)) (.cons (.bin .sub (.bi .len (.cons (.v 5) .nil)) (.c (.int 1))) (.cons (.c (.int 0)) (.cons (.neg (.c (.int 1))) .nil))) [d0, some (.loc h.length), some (.loc (h.length + 1)), o3, some (.tup p), some (enc (.mk l ks))] (h ++ [.box (.lst (acc ++ [.tup [.tup p, enc (.mk l ks)]])), .box (.lst (stk r).reverse)]) =
              .ok [.int ((ks.length : Int) + 1 - 1), .int 0, .int (-1)] (h ++ [.box (.lst (acc ++ [.tup [.tup p, enc (.mk l ks)]])), .box (.lst (stk r).reverse)]) := by
            have el : ((encs ks).length : Int) = ks.length := by rw [encs_len]
            have e8 : (((encs ks).length + 1 : Nat) : Int) = (ks.length : Int) + 1 := by rw [encs_len]; omega
            rw [show enc (.mk l ks) = .tup (.str l :: encs ks) from by rw [enc]]
            simp only [e8, evSs, evS, evE, evL, evT, evTA, evTO, evF, evSrc, evO, evAnd, evOr, asgT, asgTs, cx_glob, cx_call, shal_int, shal_str, shal_tup, shal_lst, shal_non, shal_bl, bin_addi, bin_subi, bin_addt, bin_addl, bin_adds, bin_mod, bin_div, cmp_lt, cmp_le, cmp_gt, cmp_ge, cmp_eqi, cmp_nei, cmp_eqs, cmp_nes, cmp_ins, cmp_nins, cmp_isn, cmp_isns, item_tup, item_lst, bi_lens, bi_lent, bi_lenl, bi_int, bi_intb, bi_abs, bi_max2, bi_tuplel, bi_tuplet, itD, slice, seqD, pure_non, pure_bl, pure_int, pure_str, pure_tup, pure_lst, pures_nil, pures_cons, startF, List.replicate, List.length_cons, List.length_nil, List.set_cons_zero, List.set_cons_succ, List.getElem?_cons_zero, List.getElem?_cons_succ, List.getElem?_nil, Nat.zero_add, Nat.reduceAdd, Nat.reduceSub, Nat.reduceLT, Nat.reduceLeDiff, if_true, Bool.not_true, Bool.not_false, List.map_cons, List.map_nil, List.cons_append, List.nil_append, reduceIte, and_self, and_true, true_and, decide_true, decide_false, Bool.true_and, Bool.and_true, Bool.false_and, Bool.and_false, fin_non, fin_bl, fin_int, fin_str, finX_same', gt_iff_lt, Nat.lt_add_one, Bool.false_eq_true]
          rw [ea]
          dsimp only
          rw [er2]
          dsimp only
          rw [ep]
          simp only [evSs]
        rw [whileL, tst]
        dsimp only
        rw [body]
        dsimp only
        rw [er, outs, nds, kps_outs, List.append_assoc]
        rfl
theorem pures_app : ∀ (a b : List D), D.pures (a ++ b) = (D.pures a && D.pures b)
  | [], b => rfl
  | x :: a, b => by rw [List.cons_append, D.pures, D.pures, pures_app a b, Bool.and_assoc]
mutual
theorem nds_pure (p : List D) (hp : D.pures p = true) : ∀ d : Doc, D.pures (nds p d) = true
  | .mk l ks => by
    have := ndss_pure p hp 0 ks
    have e := enc_pure (.mk l ks)
    simp only [nds, pures_cons, pure_tup, pures_nil, hp, e, this, Bool.and_self]
theorem ndss_pure (p : List D) (hp : D.pures p = true) : ∀ (i : Nat) (ds : List Doc), D.pures (ndss p i ds) = true
  | _, [] => rfl
  | i, d :: ds => by
    have hq : D.pures (p ++ [D.int (i : Int)]) = true := by rw [pures_app, hp]; rfl
    have h1 := nds_pure (p ++ [D.int (i : Int)]) hq d
    rw [ndss, pures_app, h1, ndss_pure p hp (i + 1) ds]
    rfl
end
theorem nodes_ok (k : Nat) (d : Doc) (h : Mem) (hs : sz d ≤ 800) : callF prog (k + 1) i_nodes [enc d] h = .ok (.lst (nds [] d)) h := by
  rw [callF_succ (fd := d_nodes) rfl ⟨rfl, by decide⟩]
  have l2 : 2 ≤ LIM := by decide
  have hd := dp_sz d
  obtain ⟨f', e, ef⟩ := nodes_loop k h (some (enc d)) (sz d) [([], d)] [] none none none WF (by simp [szp]) (Nat.lt_of_le_of_lt hs (by decide)) ⟨by simp; omega, trivial⟩ (by simp [szp]; omega)
  have e0 : (0 : Nat) ≤ LIM := by decide
  have e1 : 1 ≤ LIM := by decide
  simp only [d_nodes, startF, List.map_cons, List.map_nil, List.length_cons, List.length_nil, List.replicate, Nat.reduceAdd, Nat.reduceSub, List.cons_append, List.nil_append, evSs, evS]
  simp only [evE, evF, evL, e0, l2, e1, List.length_nil, List.length_cons, if_true, asgT, List.set_cons_zero, List.set_cons_succ, Nat.reduceAdd, Nat.reduceLT, List.getElem?_cons_zero, List.getElem?_cons_succ, m1_len, m1_app]
  simp only [stk, List.reverse_cons, List.reverse_nil, List.nil_append] at e
  rw [e]
  dsimp only
  rw [ef]
  dsimp only
  rw [m2_get0]
  dsimp only
  rw [m2_set0, fin_app ?_ rfl]
  · simp [outs]
  · refine D.pure_ok _ _ ?_
    show D.pures ([] ++ outs [([], d)]) = true
    simp only [outs, List.nil_append, List.append_nil]
    exact nds_pure [] rfl d
end K00
namespace K00
open Ev
mutual
def okd : Doc → Bool
  | .mk l ks => lab l && decide (ks.length ≤ 3) && okds ks
def okds : List Doc → Bool
  | [] => true
  | d :: ds => okd d && okds ds
end
theorem lab_len {l : List Nat} (h : lab l = true) : l.length ≤ 12 := by
  cases l with
  | nil => cases h
  | cons c r =>
    simp only [lab, Bool.and_eq_true, decide_eq_true_eq] at h
    simp
    omega
theorem check_turn (k : Nat) (h : Mem) (l : List Nat) (ks : List Doc) (a b c p : Option D) (hl : l.length ≤ 1000) : evSs (prog.cx (k + 1) (callF prog (k + 1))) b_check_document_0 [a, b, c, p, some (enc (.mk l ks))] h =
    if lab l = true ∧ ks.length ≤ 3 then .nx [a, b, c, p, some (enc (.mk l ks))] h else .exc 1 .non [a, b, c, p, some (enc (.mk l ks))] h := by
  have a0 : atI (D.str l :: encs ks) 0 = some (.str l) := atI_nat (i := 0)
  have il := is_label_ok k l h hl
  rw [show enc (.mk l ks) = .tup (.str l :: encs ks) from by rw [enc]]
  cases q : lab l with
  | false =>
    rw [q] at il
    rw [if_neg (by simp)]
    simp only [b_check_document_0, a0, il, evSs, evS, evE, evL, evT, evTA, evTO, evF, evSrc, evO, evAnd, evOr, asgT, asgTs, cx_glob, cx_call, shal_int, shal_str, shal_tup, shal_lst, shal_non, shal_bl, bin_addi, bin_subi, bin_addt, bin_addl, bin_adds, bin_mod, bin_div, cmp_lt, cmp_le, cmp_gt, cmp_ge, cmp_eqi, cmp_nei, cmp_eqs, cmp_nes, cmp_ins, cmp_nins, cmp_isn, cmp_isns, item_tup, item_lst, bi_lens, bi_lent, bi_lenl, bi_int, bi_intb, bi_abs, bi_max2, bi_tuplel, bi_tuplet, itD, slice, seqD, pure_non, pure_bl, pure_int, pure_str, pure_tup, pure_lst, pures_nil, pures_cons, startF, List.replicate, List.length_cons, List.length_nil, List.set_cons_zero, List.set_cons_succ, List.getElem?_cons_zero, List.getElem?_cons_succ, List.getElem?_nil, Nat.zero_add, Nat.reduceAdd, Nat.reduceSub, Nat.reduceLT, Nat.reduceLeDiff, if_true, Bool.not_true, Bool.not_false, List.map_cons, List.map_nil, List.cons_append, List.nil_append, reduceIte, and_self, and_true, true_and, decide_true, decide_false, Bool.true_and, Bool.and_true, Bool.false_and, Bool.and_false, fin_non, fin_bl, fin_int, fin_str, finX_same', gt_iff_lt, Nat.lt_add_one, Bool.false_eq_true]
  | true =>
    rw [q] at il
    have e : (((encs ks).length + 1 : Nat) : Int) - 1 = (ks.length : Int) := by rw [encs_len]; omega
    by_cases hk : ks.length ≤ 3
    · rw [if_pos ⟨rfl, hk⟩]
      have : ¬ (3 : Int) < (ks.length : Int) := by omega
      simp only [b_check_document_0, a0, il, e, gl1, this, evSs, evS, evE, evL, evT, evTA, evTO, evF, evSrc, evO, evAnd, evOr, asgT, asgTs, cx_glob, cx_call, shal_int, shal_str, shal_tup, shal_lst, shal_non, shal_bl, bin_addi, bin_subi, bin_addt, bin_addl, bin_adds, bin_mod, bin_div, cmp_lt, cmp_le, cmp_gt, cmp_ge, cmp_eqi, cmp_nei, cmp_eqs, cmp_nes, cmp_ins, cmp_nins, cmp_isn, cmp_isns, item_tup, item_lst, bi_lens, bi_lent, bi_lenl, bi_int, bi_intb, bi_abs, bi_max2, bi_tuplel, bi_tuplet, itD, slice, seqD, pure_non, pure_bl, pure_int, pure_str, pure_tup, pure_lst, pures_nil, pures_cons, startF, List.replicate, List.length_cons, List.length_nil, List.set_cons_zero, List.set_cons_succ, List.getElem?_cons_zero, List.getElem?_cons_succ, List.getElem?_nil, Nat.zero_add, Nat.reduceAdd, Nat.reduceSub, Nat.reduceLT, Nat.reduceLeDiff, if_true, Bool.not_true, Bool.not_false, List.map_cons, List.map_nil, List.cons_append, List.nil_append, reduceIte, and_self, and_true, true_and, decide_true, decide_false, Bool.true_and, Bool.and_true, Bool.false_and, Bool.and_false, fin_non, fin_bl, fin_int, fin_str, finX_same', gt_iff_lt, Nat.lt_add_one, Bool.false_eq_true]
    · rw [if_neg (fun z => hk z.2)]
      have : (3 : Int) < (ks.length : Int) := by omega
      simp only [b_check_document_0, a0, il, e, gl1, this, evSs, evS, evE, evL, evT, evTA, evTO, evF, evSrc, evO, evAnd, evOr, asgT, asgTs, cx_glob, cx_call, shal_int, shal_str, shal_tup, shal_lst, shal_non, shal_bl, bin_addi, bin_subi, bin_addt, bin_addl, bin_adds, bin_mod, bin_div, cmp_lt, cmp_le, cmp_gt, cmp_ge, cmp_eqi, cmp_nei, cmp_eqs, cmp_nes, cmp_ins, cmp_nins, cmp_isn, cmp_isns, item_tup, item_lst, bi_lens, bi_lent, bi_lenl, bi_int, bi_intb, bi_abs, bi_max2, bi_tuplel, bi_tuplet, itD, slice, seqD, pure_non, pure_bl, pure_int, pure_str, pure_tup, pure_lst, pures_nil, pures_cons, startF, List.replicate, List.length_cons, List.length_nil, List.set_cons_zero, List.set_cons_succ, List.getElem?_cons_zero, List.getElem?_cons_succ, List.getElem?_nil, Nat.zero_add, Nat.reduceAdd, Nat.reduceSub, Nat.reduceLT, Nat.reduceLeDiff, if_true, Bool.not_true, Bool.not_false, List.map_cons, List.map_nil, List.cons_append, List.nil_append, reduceIte, and_self, and_true, true_and, decide_true, decide_false, Bool.true_and, Bool.and_true, Bool.false_and, Bool.and_false, fin_non, fin_bl, fin_int, fin_str, finX_same', gt_iff_lt, Nat.lt_add_one, Bool.false_eq_true]
mutual
theorem check_loop (k : Nat) (h : Mem) (a b c : Option D) : ∀ (d : Doc) (p : List D) (o3 o4 : Option D) (ys : List D), okd d = true →
    ∃ o3' o4', forL (evSs (prog.cx (k + 1) (callF prog (k + 1))) b_check_document_0) (.tp (.cons (.nm 3) (.cons (.nm 4) .nil))) (nds p d ++ ys) [a, b, c, o3, o4] h = forL (evSs (prog.cx (k + 1) (callF prog (k + 1))) b_check_document_0) (.tp (.cons (.nm 3) (.cons (.nm 4) .nil))) ys [a, b, c, o3', o4'] h
  | .mk l ks, p, o3, o4, ys, ok => by
    rw [okd, Bool.and_eq_true, Bool.and_eq_true, decide_eq_true_eq] at ok
    obtain ⟨⟨ok1, ok2⟩, ok3⟩ := ok
    obtain ⟨o3', o4', e⟩ := check_loops k h a b c ks p 0 (some (.tup p)) (some (enc (.mk l ks))) ys ok3
    refine ⟨o3', o4', ?_⟩
    have tn := check_turn k h l ks a b c (some (.tup p)) (by have := lab_len ok1; omega)
    rw [if_pos ⟨ok1, ok2⟩] at tn
    rw [nds, List.cons_append, forL_nx rfl tn, e]
theorem check_loops (k : Nat) (h : Mem) (a b c : Option D) : ∀ (ds : List Doc) (p : List D) (i : Nat) (o3 o4 : Option D) (ys : List D), okds ds = true →
    ∃ o3' o4', forL (evSs (prog.cx (k + 1) (callF prog (k + 1))) b_check_document_0) (.tp (.cons (.nm 3) (.cons (.nm 4) .nil))) (ndss p i ds ++ ys) [a, b, c, o3, o4] h = forL (evSs (prog.cx (k + 1) (callF prog (k + 1))) b_check_document_0) (.tp (.cons (.nm 3) (.cons (.nm 4) .nil))) ys [a, b, c, o3', o4'] h
  | [], p, i, o3, o4, ys, _ => ⟨o3, o4, by rw [ndss, List.nil_append]⟩
  | d :: ds, p, i, o3, o4, ys, ok => by
    rw [okds, Bool.and_eq_true] at ok
    obtain ⟨q3, q4, e1⟩ := check_loop k h a b c d (p ++ [D.int (i : Int)]) o3 o4 (ndss p (i + 1) ds ++ ys) ok.1
    obtain ⟨r3, r4, e2⟩ := check_loops k h a b c ds p (i + 1) q3 q4 ys ok.2
    refine ⟨r3, r4, ?_⟩
    rw [ndss, List.append_assoc, e1, e2]
end
theorem check_ok (k : Nat) (d : Doc) (h : Mem) (ok : okd d = true) (hs : sz d ≤ 300) (hd : dp d ≤ 40) (hk : 41 ≤ k) : callF prog (k + 1) i_check_document [enc d] h = .ok .non h := by
  obtain ⟨k, rfl⟩ : ∃ j, k = j + 1 := ⟨k - 1, by omega⟩
  rw [callF_succ (fd := d_check_document) rfl ⟨rfl, by decide⟩]
  have hm := measured_ok (k + 1) d h (by omega)
  have hn := nodes_ok k d h (by omega)
  have s1 : ¬ (300 : Int) < (sz d : Int) := by omega
  have s2 : ¬ (40 : Int) < (dp d : Int) := by omega
  obtain ⟨o3, o4, e⟩ := check_loop k h (some (enc d)) (some (.int (sz d))) (some (.int (dp d))) d [] none none [] ok
  rw [List.append_nil] at e
  simp only [d_check_document, hm, hn, s1, s2, gl2, gl3, e, forL, evSs, evS, evE, evL, evT, evTA, evTO, evF, evSrc, evO, evAnd, evOr, asgT, asgTs, cx_glob, cx_call, shal_int, shal_str, shal_tup, shal_lst, shal_non, shal_bl, bin_addi, bin_subi, bin_addt, bin_addl, bin_adds, bin_mod, bin_div, cmp_lt, cmp_le, cmp_gt, cmp_ge, cmp_eqi, cmp_nei, cmp_eqs, cmp_nes, cmp_ins, cmp_nins, cmp_isn, cmp_isns, item_tup, item_lst, bi_lens, bi_lent, bi_lenl, bi_int, bi_intb, bi_abs, bi_max2, bi_tuplel, bi_tuplet, itD, slice, seqD, pure_non, pure_bl, pure_int, pure_str, pure_tup, pure_lst, pures_nil, pures_cons, startF, List.replicate, List.length_cons, List.length_nil, List.set_cons_zero, List.set_cons_succ, List.getElem?_cons_zero, List.getElem?_cons_succ, List.getElem?_nil, Nat.zero_add, Nat.reduceAdd, Nat.reduceSub, Nat.reduceLT, Nat.reduceLeDiff, if_true, Bool.not_true, Bool.not_false, List.map_cons, List.map_nil, List.cons_append, List.nil_append, reduceIte, and_self, and_true, true_and, decide_true, decide_false, Bool.true_and, Bool.and_true, Bool.false_and, Bool.and_false, fin_non, fin_bl, fin_int, fin_str, finX_same', gt_iff_lt, Nat.lt_add_one, Bool.false_eq_true]
theorem check_bad (k : Nat) (l : List Nat) (h : Mem) (hl : l.length ≤ 1000) (bad : lab l = false) : callF prog (k + 3) i_check_document [enc (.mk l [])] h = .exc 1 .non h := by
  rw [callF_succ (fd := d_check_document) rfl ⟨rfl, by decide⟩]
  have hm := measured_ok (k + 2) (.mk l []) h (by simp [dp, dps])
  have hn := nodes_ok (k + 1) (.mk l []) h (by simp [sz, szs])
  have tn := check_turn (k + 1) h l [] (some (enc (.mk l []))) (some (.int 1)) (some (.int 0)) (some (.tup [])) hl
  rw [if_neg (by rw [bad]; simp)] at tn
  have z1 : sz (.mk l []) = 1 := rfl
  have z2 : dp (.mk l []) = 0 := rfl
  rw [z1, z2] at hm
  have f1 : forL (evSs (prog.cx (k + 2) (callF prog (k + 2))) b_check_document_0) (.tp (.cons (.nm 3) (.cons (.nm 4) .nil))) (nds [] (.mk l [])) [some (enc (.mk l [])), some (.int 1), some (.int 0), none, none] h = .exc 1 .non [some (enc (.mk l [])), some (.int 1), some (.int 0), some (.tup []), some (enc (.mk l []))] h := by
    rw [nds, ndss, forL]
    simp only [asgT, asgTs, List.length_cons, List.length_nil, List.set_cons_succ, List.set_cons_zero, Nat.reduceAdd, Nat.reduceLT, if_true]
    rw [tn]
  have s1 : ¬ (300 : Int) < 1 := by omega
  have s2 : ¬ (40 : Int) < 0 := by omega
  simp only [d_check_document, hm, hn, s1, s2, gl2, gl3, f1, Int.natCast_one, Int.natCast_zero, Int.ofNat_one, Int.cast_ofNat_Int, evSs, evS, evE, evL, evT, evTA, evTO, evF, evSrc, evO, evAnd, evOr, asgT, asgTs, cx_glob, cx_call, shal_int, shal_str, shal_tup, shal_lst, shal_non, shal_bl, bin_addi, bin_subi, bin_addt, bin_addl, bin_adds, bin_mod, bin_div, cmp_lt, cmp_le, cmp_gt, cmp_ge, cmp_eqi, cmp_nei, cmp_eqs, cmp_nes, cmp_ins, cmp_nins, cmp_isn, cmp_isns, item_tup, item_lst, bi_lens, bi_lent, bi_lenl, bi_int, bi_intb, bi_abs, bi_max2, bi_tuplel, bi_tuplet, itD, slice, seqD, pure_non, pure_bl, pure_int, pure_str, pure_tup, pure_lst, pures_nil, pures_cons, startF, List.replicate, List.length_cons, List.length_nil, List.set_cons_zero, List.set_cons_succ, List.getElem?_cons_zero, List.getElem?_cons_succ, List.getElem?_nil, Nat.zero_add, Nat.reduceAdd, Nat.reduceSub, Nat.reduceLT, Nat.reduceLeDiff, if_true, Bool.not_true, Bool.not_false, List.map_cons, List.map_nil, List.cons_append, List.nil_append, reduceIte, and_self, and_true, true_and, decide_true, decide_false, Bool.true_and, Bool.and_true, Bool.false_and, Bool.and_false, fin_non, fin_bl, fin_int, fin_str, finX_same', gt_iff_lt, Nat.lt_add_one, Bool.false_eq_true]
theorem check_large (k : Nat) (d : Doc) (h : Mem) (hk : dp d < k) (big : 300 < sz d ∨ 40 < dp d) : callF prog (k + 1) i_check_document [enc d] h = .exc 2 .non h := by
  rw [callF_succ (fd := d_check_document) rfl ⟨rfl, by decide⟩]
  have hm := measured_ok k d h hk
  by_cases s1 : (300 : Int) < (sz d : Int)
  · simp only [d_check_document, hm, s1, gl2, evSs, evS, evE, evL, evT, evTA, evTO, evF, evSrc, evO, evAnd, evOr, asgT, asgTs, cx_glob, cx_call, shal_int, shal_str, shal_tup, shal_lst, shal_non, shal_bl, bin_addi, bin_subi, bin_addt, bin_addl, bin_adds, bin_mod, bin_div, cmp_lt, cmp_le, cmp_gt, cmp_ge, cmp_eqi, cmp_nei, cmp_eqs, cmp_nes, cmp_ins, cmp_nins, cmp_isn, cmp_isns, item_tup, item_lst, bi_lens, bi_lent, bi_lenl, bi_int, bi_intb, bi_abs, bi_max2, bi_tuplel, bi_tuplet, itD, slice, seqD, pure_non, pure_bl, pure_int, pure_str, pure_tup, pure_lst, pures_nil, pures_cons, startF, List.replicate, List.length_cons, List.length_nil, List.set_cons_zero, List.set_cons_succ, List.getElem?_cons_zero, List.getElem?_cons_succ, List.getElem?_nil, Nat.zero_add, Nat.reduceAdd, Nat.reduceSub, Nat.reduceLT, Nat.reduceLeDiff, if_true, Bool.not_true, Bool.not_false, List.map_cons, List.map_nil, List.cons_append, List.nil_append, reduceIte, and_self, and_true, true_and, decide_true, decide_false, Bool.true_and, Bool.and_true, Bool.false_and, Bool.and_false, fin_non, fin_bl, fin_int, fin_str, finX_same', gt_iff_lt, Nat.lt_add_one, Bool.false_eq_true]
  · have s2 : (40 : Int) < (dp d : Int) := by omega
    simp only [d_check_document, hm, s1, s2, gl2, gl3, evSs, evS, evE, evL, evT, evTA, evTO, evF, evSrc, evO, evAnd, evOr, asgT, asgTs, cx_glob, cx_call, shal_int, shal_str, shal_tup, shal_lst, shal_non, shal_bl, bin_addi, bin_subi, bin_addt, bin_addl, bin_adds, bin_mod, bin_div, cmp_lt, cmp_le, cmp_gt, cmp_ge, cmp_eqi, cmp_nei, cmp_eqs, cmp_nes, cmp_ins, cmp_nins, cmp_isn, cmp_isns, item_tup, item_lst, bi_lens, bi_lent, bi_lenl, bi_int, bi_intb, bi_abs, bi_max2, bi_tuplel, bi_tuplet, itD, slice, seqD, pure_non, pure_bl, pure_int, pure_str, pure_tup, pure_lst, pures_nil, pures_cons, startF, List.replicate, List.length_cons, List.length_nil, List.set_cons_zero, List.set_cons_succ, List.getElem?_cons_zero, List.getElem?_cons_succ, List.getElem?_nil, Nat.zero_add, Nat.reduceAdd, Nat.reduceSub, Nat.reduceLT, Nat.reduceLeDiff, if_true, Bool.not_true, Bool.not_false, List.map_cons, List.map_nil, List.cons_append, List.nil_append, reduceIte, and_self, and_true, true_and, decide_true, decide_false, Bool.true_and, Bool.and_true, Bool.false_and, Bool.and_false, fin_non, fin_bl, fin_int, fin_str, finX_same', gt_iff_lt, Nat.lt_add_one, Bool.false_eq_true]
end K00
end
section
set_option Elab.async false
set_option autoImplicit false
set_option maxRecDepth 100000
set_option linter.all false
namespace K00
open Ev
theorem set_len {h : Mem} {n : Nat} {o : Ob} : (h.set n o).length = h.length := by simp
theorem get_lt {h : Mem} {n : Nat} {o : Ob} (e : h[n]? = some o) : n < h.length := (List.getElem?_eq_some_iff.mp e).1
theorem app_get {h t : Mem} {n : Nat} (l : n < h.length) : (h ++ t)[n]? = h[n]? := List.getElem?_append_left l
theorem app_set {h t : Mem} {n : Nat} {o : Ob} (l : n < h.length) : (h ++ t).set n o = h.set n o ++ t := List.set_append_left _ _ l
theorem set_get {h : Mem} {n : Nat} {o : Ob} (l : n < h.length) : (h.set n o)[n]? = some o := List.getElem?_set_self l
theorem set_same {h : Mem} {n : Nat} {o : Ob} (e : h[n]? = some o) : h.set n o = h := by
  refine List.ext_getElem? fun j => ?_
  by_cases q : n = j
  · subst q
    rw [List.getElem?_set_self (get_lt e), e]
  · rw [List.getElem?_set_ne q]
theorem g1 {h : Mem} {N : Nat} {a : Ob} (e : h.length = N) : (h ++ [a])[N]? = some a := by subst e; exact m1_get0
theorem s1 {h : Mem} {N : Nat} {a x : Ob} (e : h.length = N) : (h ++ [a]).set N x = h ++ [x] := by subst e; exact m1_set0
theorem at_child {l : List Nat} {pre suf : List Doc} {d : Doc} {i : Nat} (hi : pre.length = i) : atI (D.str l :: encs (pre ++ d :: suf)) ((i : Int) + 1) = some (enc d) := by
  have := atI_nat (xs := D.str l :: encs (pre ++ d :: suf)) (i := i + 1)
  rw [List.getElem?_cons_succ, encs_get, List.getElem?_append_right (by omega), hi, Nat.sub_self] at this
  exact this
theorem lenE (x y : List Doc) : decide ((((encs x).length + 1 : Nat) : Int) = (((encs y).length + 1 : Nat) : Int)) = decide (x.length = y.length) := by
  rw [encs_len, encs_len]
  by_cases q : x.length = y.length
  · rw [decide_eq_true q, decide_eq_true (by omega)]
  · rw [decide_eq_false q, decide_eq_false (by omega)]
theorem at_0 (l : List Nat) (x : List Doc) : atI (D.str l :: encs x) 0 = some (.str l) := atI_nat (i := 0)
theorem rng_len {n : Nat} (h : n ≤ 100000) : rngD [.int (n : Int)] = some (rngL ((0 : Nat) : Int) 1 n) := by
  have sm : small62 (n : Int) = true := by unfold small62; simp; omega
  show (if small62 (n : Int) then some (rngL 0 1 ((n : Int)).toNat) else none) = _
  rw [sm, if_pos rfl]
  rfl
theorem rng2 {n : Nat} (h : n ≤ 100000) : rngD [.int 1, .int ((n + 1 : Nat) : Int)] = some (rngL (((0 : Nat) : Int) + 1) 1 n) := by
  have s1 : small62 1 = true := by decide
  have s2 : small62 ((n + 1 : Nat) : Int) = true := by unfold small62; simp; omega
  show (if small62 1 && small62 ((n + 1 : Nat) : Int) then some (rngL 1 1 (((n + 1 : Nat) : Int) - 1).toNat) else none) = _
  rw [s1, s2]
  have e : (((n + 1 : Nat) : Int) - 1).toNat = n := by omega
  rw [e]
  rfl
end K00
end
section
set_option Elab.async false
set_option autoImplicit false
set_option maxRecDepth 100000
set_option linter.all false
namespace K00
open Ev
theorem law_same_ok (k : Nat) (h : Mem) (x y : D) (ds : List D) (hx : full h 3 (.lst [x]) = some (.lst ds)) (hy : full h 3 (.lst [y]) = some (.lst ds)) (h1 : (D.lst ds).dep ≤ 64) (h2 : (D.lst ds).wt ≤ 1000000) (h3 : (D.lst ds).fine = true) : callF prog (k + 1) i_law_same [x, y] h = .ok (.bl true) h := by
  rw [callF_succ (fd := d_law_same) rfl ⟨rfl, by decide⟩]
  have l1 : 1 ≤ LIM := by decide
  have b1 : biF .repr [.lst [x]] h = some (.rep (.lst ds)) := by
    simp only [biF, hx]
    rw [if_pos ⟨h1, h2, h3⟩]
  have b2 : biF .repr [.lst [y]] h = some (.rep (.lst ds)) := by
    simp only [biF, hy]
    rw [if_pos ⟨h1, h2, h3⟩]
  have c : cmpop h .eq (.rep (.lst ds)) (.rep (.lst ds)) = some true := by
    show (if (D.lst ds).beq (.lst ds) then some true else none) = some true
    rw [D.beq_refl, if_pos rfl]
  simp only [d_law_same, l1, b1, b2, c, evSs, evS, evE, evL, evT, evTA, evTO, evF, evSrc, evO, evAnd, evOr, asgT, asgTs, cx_glob, cx_call, shal_int, shal_str, shal_tup, shal_lst, shal_non, shal_bl, bin_addi, bin_subi, bin_addt, bin_addl, bin_adds, bin_mod, bin_div, cmp_lt, cmp_le, cmp_gt, cmp_ge, cmp_eqi, cmp_nei, cmp_eqs, cmp_nes, cmp_ins, cmp_nins, cmp_isn, cmp_isns, item_tup, item_lst, bi_lens, bi_lent, bi_lenl, bi_int, bi_intb, bi_abs, bi_max2, bi_tuplel, bi_tuplet, itD, slice, seqD, pure_non, pure_bl, pure_int, pure_str, pure_tup, pure_lst, pures_nil, pures_cons, startF, List.replicate, List.length_cons, List.length_nil, List.set_cons_zero, List.set_cons_succ, List.getElem?_cons_zero, List.getElem?_cons_succ, List.getElem?_nil, Nat.zero_add, Nat.reduceAdd, Nat.reduceSub, Nat.reduceLT, Nat.reduceLeDiff, if_true, Bool.not_true, Bool.not_false, List.map_cons, List.map_nil, List.cons_append, List.nil_append, reduceIte, and_self, and_true, true_and, decide_true, decide_false, Bool.true_and, Bool.and_true, Bool.false_and, Bool.and_false, fin_non, fin_bl, fin_int, fin_str, finX_same', gt_iff_lt, Nat.lt_add_one, Bool.false_eq_true]
end K00
namespace K00
open Ev
theorem law_next_ok (k : Nat) (h : Mem) (n : Nat) (is : List Int) (c m : Nat) (e : h[n]? = some (.box (.lst [.lst (is.map .int), .int (c : Int)]))) (hi : is ≠ []) (hl : is.length ≤ 100000) (hc : c < 2 ^ 60) (hm : 0 < m) :
    ∃ r : Nat, r < m ∧ callF prog (k + 1) i_law_next [.loc n, .int (m : Int)] h = .ok (.int (r : Int)) (h.set n (.box (.lst [.lst (is.map .int), .int ((c + 1 : Nat) : Int)]))) := by
  rw [callF_succ (fd := d_law_next) rfl ⟨rfl, by decide⟩]
  have hn := get_lt e
  have ip : 0 < is.length := List.length_pos_iff.mpr hi
  have lenI : (is.map D.int).length = is.length := by simp
  have e2 : (h.set n (.box (.lst [.lst (is.map .int), .int ((c + 1 : Nat) : Int)])))[n]? = some (.box (.lst [.lst (is.map .int), .int ((c + 1 : Nat) : Int)])) := set_get hn
  have a0 : ∀ x y : D, atI [x, y] 0 = some x := fun x y => atI_nat (i := 0)
  have a1 : ∀ x y : D, atI [x, y] 1 = some y := fun x y => atI_nat (i := 1)
  have ix1 : ixN 2 1 = some 1 := by decide
  have cc : (c : Int) + 1 = ((c + 1 : Nat) : Int) := by omega
  have t0 : evS (prog.cx k (callF prog k)) (.setix (.v 0) (.c (.int 1)) (.bin .add (.ix (.v 0) (.c (.int 1))) (.c (.int 1)))) [some (.loc n), some (.int (m : Int)), none] h = .nx [some (.loc n), some (.int (m : Int)), none] (h.set n (.box (.lst [.lst (is.map .int), .int ((c + 1 : Nat) : Int)]))) := by
    simp only [shal_box e, a1, e, ix1, cc, evSs, evS, evE, evL, evT, evTA, evTO, evF, evSrc, evO, evAnd, evOr, asgT, asgTs, cx_glob, cx_call, shal_int, shal_str, shal_tup, shal_lst, shal_non, shal_bl, bin_addi, bin_subi, bin_addt, bin_addl, bin_adds, bin_mod, bin_div, cmp_lt, cmp_le, cmp_gt, cmp_ge, cmp_eqi, cmp_nei, cmp_eqs, cmp_nes, cmp_ins, cmp_nins, cmp_isn, cmp_isns, item_tup, item_lst, bi_lens, bi_lent, bi_lenl, bi_int, bi_intb, bi_abs, bi_max2, bi_tuplel, bi_tuplet, itD, slice, seqD, pure_non, pure_bl, pure_int, pure_str, pure_tup, pure_lst, pures_nil, pures_cons, startF, List.replicate, List.length_cons, List.length_nil, List.set_cons_zero, List.set_cons_succ, List.getElem?_cons_zero, List.getElem?_cons_succ, List.getElem?_nil, Nat.zero_add, Nat.reduceAdd, Nat.reduceSub, Nat.reduceLT, Nat.reduceLeDiff, if_true, Bool.not_true, Bool.not_false, List.map_cons, List.map_nil, List.cons_append, List.nil_append, reduceIte, and_self, and_true, true_and, decide_true, decide_false, Bool.true_and, Bool.and_true, Bool.false_and, Bool.and_false, fin_non, fin_bl, fin_int, fin_str, finX_same', gt_iff_lt, Nat.lt_add_one, Bool.false_eq_true]
  generalize hh : h.set n (.box (.lst [.lst (is.map .int), .int ((c + 1 : Nat) : Int)])) = h2 at e2 t0 ⊢
  have lp : (0 : Int) < (is.length : Int) ∧ (is.length : Int) < 1073741824 := by omega
  have t1 : evS (prog.cx k (callF prog k)) (.asg (.nm 2) (.bin .fdiv (.ix (.v 0) (.c (.int 1))) (.bi .len (.cons (.ix (.v 0) (.c (.int 0))) .nil)))) [some (.loc n), some (.int (m : Int)), none] h2 = .nx [some (.loc n), some (.int (m : Int)), some (.int (((c + 1 : Nat) : Int) / (is.length : Int)))] h2 := by
    simp only [shal_box e2, a0, a1, lenI, lp, evSs, evS, evE, evL, evT, evTA, evTO, evF, evSrc, evO, evAnd, evOr, asgT, asgTs, cx_glob, cx_call, shal_int, shal_str, shal_tup, shal_lst, shal_non, shal_bl, bin_addi, bin_subi, bin_addt, bin_addl, bin_adds, bin_mod, bin_div, cmp_lt, cmp_le, cmp_gt, cmp_ge, cmp_eqi, cmp_nei, cmp_eqs, cmp_nes, cmp_ins, cmp_nins, cmp_isn, cmp_isns, item_tup, item_lst, bi_lens, bi_lent, bi_lenl, bi_int, bi_intb, bi_abs, bi_max2, bi_tuplel, bi_tuplet, itD, slice, seqD, pure_non, pure_bl, pure_int, pure_str, pure_tup, pure_lst, pures_nil, pures_cons, startF, List.replicate, List.length_cons, List.length_nil, List.set_cons_zero, List.set_cons_succ, List.getElem?_cons_zero, List.getElem?_cons_succ, List.getElem?_nil, Nat.zero_add, Nat.reduceAdd, Nat.reduceSub, Nat.reduceLT, Nat.reduceLeDiff, if_true, Bool.not_true, Bool.not_false, List.map_cons, List.map_nil, List.cons_append, List.nil_append, reduceIte, and_self, and_true, true_and, decide_true, decide_false, Bool.true_and, Bool.and_true, Bool.false_and, Bool.and_false, fin_non, fin_bl, fin_int, fin_str, finX_same', gt_iff_lt, Nat.lt_add_one, Bool.false_eq_true]
  have ej : ((c + 1 : Nat) : Int) % (is.length : Int) = (((c + 1) % is.length : Nat) : Int) := by simp
  have jl : (c + 1) % is.length < is.length := Nat.mod_lt _ ip
  have ea : atI (is.map D.int) (((c + 1) % is.length : Nat) : Int) = some (.int is[(c + 1) % is.length]) := by
    rw [atI_nat, List.getElem?_map, List.getElem?_eq_getElem jl]
    rfl
  generalize hq : ((c + 1 : Nat) : Int) / (is.length : Int) = q at t1
  generalize hv : is[(c + 1) % is.length] = v at ea
  have p1 : binop .mul (.int q) (.int 389) = some (.int (q * 389)) := mul_r (by decide)
  have p2 : binop .mul (.int ((c + 1 : Nat) : Int)) (.int q) = some (.int (((c + 1 : Nat) : Int) * q)) := mul_l (by omega)
  have p3 : binop .mul (.int (((c + 1 : Nat) : Int) * q)) (.int 17) = some (.int (((c + 1 : Nat) : Int) * q * 17)) := mul_r (by decide)
  have mp : (0 : Int) < (m : Int) := by omega
  have nn := Int.emod_nonneg (v + q * 389 + ((c + 1 : Nat) : Int) * q * 17) (show (m : Int) ≠ 0 by omega)
  have lt := Int.emod_lt_of_pos (v + q * 389 + ((c + 1 : Nat) : Int) * q * 17) mp
  refine ⟨((v + q * 389 + ((c + 1 : Nat) : Int) * q * 17) % (m : Int)).toNat, by omega, ?_⟩
  have et : ((((v + q * 389 + ((c + 1 : Nat) : Int) * q * 17) % (m : Int)).toNat : Nat) : Int) = (v + q * 389 + ((c + 1 : Nat) : Int) * q * 17) % (m : Int) := by omega
  have t2 : evS (prog.cx k (callF prog k)) (.ret (.bin .mod (.bi .int_ (.cons (.bin .add (.bin .add (.ix (.ix (.v 0) (.c (.int 0))) (.bin .mod (.ix (.v 0) (.c (.int 1))) (.bi .len (.cons (.ix (.v 0) (.c (.int 0))) .nil)))) (.bin .mul (.v 2) (.c (.int 389)))) (.bin .mul (.bin .mul (.ix (.v 0) (.c (.int 1))) (.v 2)) (.c (.int 17)))) .nil)) (.v 1))) [some (.loc n), some (.int (m : Int)), some (.int q)] h2 = .rt (.int ((v + q * 389 + ((c + 1 : Nat) : Int) * q * 17) % (m : Int))) h2 := by
    have v0 : evE (prog.cx k (callF prog k)) (.v 0) [some (.loc n), some (.int (m : Int)), some (.int q)] h2 = .ok (.loc n) h2 := ev_v rfl
    have w0 : evE (prog.cx k (callF prog k)) (.ix (.v 0) (.c (.int 0))) [some (.loc n), some (.int (m : Int)), some (.int q)] h2 = .ok (.lst (is.map .int)) h2 := ev_ix v0 (ev_c rfl) (by rw [shal_box e2]; exact a0 _ _)
    have w1 : evE (prog.cx k (callF prog k)) (.ix (.v 0) (.c (.int 1))) [some (.loc n), some (.int (m : Int)), some (.int q)] h2 = .ok (.int ((c + 1 : Nat) : Int)) h2 := ev_ix v0 (ev_c rfl) (by rw [shal_box e2]; exact a1 _ _)
    have wl : evE (prog.cx k (callF prog k)) (.bi .len (.cons (.ix (.v 0) (.c (.int 0))) .nil)) [some (.loc n), some (.int (m : Int)), some (.int q)] h2 = .ok (.int (is.length : Int)) h2 := ev_bi (ev_cons w0 ev_nil) (by rw [bi_lenl, lenI])
    have wm := ev_bin (o := .mod) w1 wl (z := .int (((c + 1) % is.length : Nat) : Int)) (by rw [shal_int, shal_int, bin_mod, if_pos lp.1, ej])
    have wi := ev_ix w0 wm (z := .int v) (by rw [shal_lst, item_lst]; exact ea)
    have v2 : evE (prog.cx k (callF prog k)) (.v 2) [some (.loc n), some (.int (m : Int)), some (.int q)] h2 = .ok (.int q) h2 := ev_v rfl
    have wa := ev_bin (o := .mul) v2 (ev_c (d := .int 389) rfl) p1
    have wb := ev_bin (o := .add) wi wa rfl
    have wc := ev_bin (o := .mul) (ev_bin (o := .mul) w1 v2 p2) (ev_c (d := .int 17) rfl) p3
    have wd := ev_bin (o := .add) wb wc rfl
    exact ev_ret (ev_bin (ev_bi (ev_cons wd ev_nil) rfl) (ev_v rfl) (by show binop .mod (.int _) (.int _) = _; rw [bin_mod, if_pos mp]))
  show (match evSs _ (.cons _ (.cons _ (.cons _ .nil))) [some (.loc n), some (.int (m : Int)), none] h with
    | .nx _ h1 => fin true h h1 .non
    | .rt d h1 => fin true h h1 d
    | .exc c x _ h1 => finX true h h1 c x
    | _ => .stuck) = _
  rw [seq_nx t0, seq_nx t1, seq_rt t2, et, ← hh]
  refine fin_set0 rfl (okB_box ?_)
  have pi : ∀ l : List Int, D.pures (l.map D.int) = true := fun l => by
    induction l with
    | nil => rfl
    | cons a l ih => rw [List.map_cons, pures_cons, ih]; rfl
  rw [pures_cons, pures_cons, pure_lst, pi]
  rfl
end K00
end
section
set_option Elab.async false
set_option autoImplicit false
set_option maxRecDepth 100000
set_option linter.all false
namespace K00
open Ev
theorem map_snoc (is : List Int) (i : Int) : is.map D.int ++ [D.int i] = (is ++ [i]).map D.int := by simp
theorem ints_pure : ∀ l : List Int, D.pures (l.map D.int) = true
  | [] => rfl
  | a :: l => by rw [List.map_cons, pures_cons, ints_pure l]; rfl
def stI (h : Mem) (B : Nat) (sc : D) (xs : List D) (σ : Fr) (h' : Mem) : Prop :=
  ∃ (is : List Int) (r : Int) (o2 o4 o5 : Option D), σ = [some sc, some (.loc h.length), o2, some (.int r), o4, o5] ∧ h' = h ++ [.box (.lst (is.map .int))] ∧ is.length + xs.length ≤ B
def stQ (h : Mem) (B : Nat) (sc : D) (r : RS) : Prop :=
  ∃ (is : List Int) (o2 o3 o4 o5 : Option D), r = .nx [some sc, some (.loc h.length), o2, o3, o4, o5] (h ++ [.box (.lst (is.map .int))]) ∧ is.length ≤ B
theorem stream_0 (k : Nat) (h : Mem) (B : Nat) (sc : D) (hB : B ≤ 10000) (xs : List D) (σ : Fr) (h' : Mem) (i : stI h B sc xs σ h') : stQ h B sc (forL (evSs (prog.cx k (callF prog k)) b_law_stream_0) (.nm 4) xs σ h') := by
  refine forL_inv (Q := stQ h B sc) (stI h B sc) ?_ ?_ xs σ h' i
  · rintro σ h' ⟨is, r, o2, o4, o5, rfl, rfl, hl⟩
    exact ⟨is, o2, _, o4, o5, rfl, by simpa using hl⟩
  · rintro x xs σ h' ⟨is, r, o2, o4, o5, rfl, rfl, hl⟩
    refine ⟨[some sc, some (.loc h.length), o2, some (.int r), some x, o5], rfl, ?_⟩
    rw [List.length_cons] at hl
    have lx : (is.map D.int).length < LIM := lim_lt' (by rw [List.length_map]; omega)
    have p1 : (0 : Int) < 1009 := by decide
    have p2 : (0 : Int) < 1009 ∧ (1009 : Int) < 1073741824 := by decide
    have ga : evL (prog.cx k (callF prog k)) (.cons (.bin .mod (.bi .int_ (.cons (.v 3) .nil)) (.c (.int 1009))) .nil) [some sc, some (.loc h.length), o2, some (.int r), some x, o5] (h ++ [.box (.lst (is.map .int))]) = .ok [.int (r % 1009)] (h ++ [.box (.lst (is.map .int))]) := by
      simp only [p1, evSs, evS, evE, evL, evT, evTA, evTO, evF, evSrc, evO, evAnd, evOr, asgT, asgTs, cx_glob, cx_call, shal_int, shal_str, shal_tup, shal_lst, shal_non, shal_bl, bin_addi, bin_subi, bin_addt, bin_addl, bin_adds, bin_mod, bin_div, cmp_lt, cmp_le, cmp_gt, cmp_ge, cmp_eqi, cmp_nei, cmp_eqs, cmp_nes, cmp_ins, cmp_nins, cmp_isn, cmp_isns, item_tup, item_lst, bi_lens, bi_lent, bi_lenl, bi_int, bi_intb, bi_abs, bi_max2, bi_tuplel, bi_tuplet, itD, slice, seqD, pure_non, pure_bl, pure_int, pure_str, pure_tup, pure_lst, pures_nil, pures_cons, startF, List.replicate, List.length_cons, List.length_nil, List.set_cons_zero, List.set_cons_succ, List.getElem?_cons_zero, List.getElem?_cons_succ, List.getElem?_nil, Nat.zero_add, Nat.reduceAdd, Nat.reduceSub, Nat.reduceLT, Nat.reduceLeDiff, if_true, Bool.not_true, Bool.not_false, List.map_cons, List.map_nil, List.cons_append, List.nil_append, reduceIte, and_self, and_true, true_and, decide_true, decide_false, Bool.true_and, Bool.and_true, Bool.false_and, Bool.and_false, fin_non, fin_bl, fin_int, fin_str, finX_same', gt_iff_lt, Nat.lt_add_one, Bool.false_eq_true]
    have t0 := evS_expr (ev_mt (m := .append) (o := .v 1) (ev_v (C := prog.cx k (callF prog k)) rfl) m1_get0 ga (mt_append m1_get0 lx))
    rw [m1_set0, map_snoc] at t0
    have t1 : evS (prog.cx k (callF prog k)) (.asg (.nm 3) (.bin .fdiv (.v 3) (.c (.int 1009)))) [some sc, some (.loc h.length), o2, some (.int r), some x, o5] (h ++ [.box (.lst ((is ++ [r % 1009]).map .int))]) = .nx [some sc, some (.loc h.length), o2, some (.int (r / 1009)), some x, o5] (h ++ [.box (.lst ((is ++ [r % 1009]).map .int))]) := by
      simp only [p2, evSs, evS, evE, evL, evT, evTA, evTO, evF, evSrc, evO, evAnd, evOr, asgT, asgTs, cx_glob, cx_call, shal_int, shal_str, shal_tup, shal_lst, shal_non, shal_bl, bin_addi, bin_subi, bin_addt, bin_addl, bin_adds, bin_mod, bin_div, cmp_lt, cmp_le, cmp_gt, cmp_ge, cmp_eqi, cmp_nei, cmp_eqs, cmp_nes, cmp_ins, cmp_nins, cmp_isn, cmp_isns, item_tup, item_lst, bi_lens, bi_lent, bi_lenl, bi_int, bi_intb, bi_abs, bi_max2, bi_tuplel, bi_tuplet, itD, slice, seqD, pure_non, pure_bl, pure_int, pure_str, pure_tup, pure_lst, pures_nil, pures_cons, startF, List.replicate, List.length_cons, List.length_nil, List.set_cons_zero, List.set_cons_succ, List.getElem?_cons_zero, List.getElem?_cons_succ, List.getElem?_nil, Nat.zero_add, Nat.reduceAdd, Nat.reduceSub, Nat.reduceLT, Nat.reduceLeDiff, if_true, Bool.not_true, Bool.not_false, List.map_cons, List.map_nil, List.cons_append, List.nil_append, reduceIte, and_self, and_true, true_and, decide_true, decide_false, Bool.true_and, Bool.and_true, Bool.false_and, Bool.and_false, fin_non, fin_bl, fin_int, fin_str, finX_same', gt_iff_lt, Nat.lt_add_one, Bool.false_eq_true]
    have le : (is ++ [r % 1009]).length = is.length + 1 := by simp
    by_cases z : r / 1009 = 0
    · have t2 : evS (prog.cx k (callF prog k)) (.ite (.e (.cmp .eq (.v 3) (.c (.int 0)))) (.cons .brk .nil) .nil) [some sc, some (.loc h.length), o2, some (.int (r / 1009)), some x, o5] (h ++ [.box (.lst ((is ++ [r % 1009]).map .int))]) = .bk [some sc, some (.loc h.length), o2, some (.int (r / 1009)), some x, o5] (h ++ [.box (.lst ((is ++ [r % 1009]).map .int))]) := by
        rw [z]
        simp only [evSs, evS, evE, evL, evT, evTA, evTO, evF, evSrc, evO, evAnd, evOr, asgT, asgTs, cx_glob, cx_call, shal_int, shal_str, shal_tup, shal_lst, shal_non, shal_bl, bin_addi, bin_subi, bin_addt, bin_addl, bin_adds, bin_mod, bin_div, cmp_lt, cmp_le, cmp_gt, cmp_ge, cmp_eqi, cmp_nei, cmp_eqs, cmp_nes, cmp_ins, cmp_nins, cmp_isn, cmp_isns, item_tup, item_lst, bi_lens, bi_lent, bi_lenl, bi_int, bi_intb, bi_abs, bi_max2, bi_tuplel, bi_tuplet, itD, slice, seqD, pure_non, pure_bl, pure_int, pure_str, pure_tup, pure_lst, pures_nil, pures_cons, startF, List.replicate, List.length_cons, List.length_nil, List.set_cons_zero, List.set_cons_succ, List.getElem?_cons_zero, List.getElem?_cons_succ, List.getElem?_nil, Nat.zero_add, Nat.reduceAdd, Nat.reduceSub, Nat.reduceLT, Nat.reduceLeDiff, if_true, Bool.not_true, Bool.not_false, List.map_cons, List.map_nil, List.cons_append, List.nil_append, reduceIte, and_self, and_true, true_and, decide_true, decide_false, Bool.true_and, Bool.and_true, Bool.false_and, Bool.and_false, fin_non, fin_bl, fin_int, fin_str, finX_same', gt_iff_lt, Nat.lt_add_one, Bool.false_eq_true]
      have e : evSs (prog.cx k (callF prog k)) b_law_stream_0 [some sc, some (.loc h.length), o2, some (.int r), some x, o5] (h ++ [.box (.lst (is.map .int))]) = .bk [some sc, some (.loc h.length), o2, some (.int (r / 1009)), some x, o5] (h ++ [.box (.lst ((is ++ [r % 1009]).map .int))]) := by
        rw [b_law_stream_0, seq_nx t0, seq_nx t1, evSs, t2]
      rw [e]
      exact ⟨_, _, _, _, _, rfl, by omega⟩
    · have t2 : evS (prog.cx k (callF prog k)) (.ite (.e (.cmp .eq (.v 3) (.c (.int 0)))) (.cons .brk .nil) .nil) [some sc, some (.loc h.length), o2, some (.int (r / 1009)), some x, o5] (h ++ [.box (.lst ((is ++ [r % 1009]).map .int))]) = .nx [some sc, some (.loc h.length), o2, some (.int (r / 1009)), some x, o5] (h ++ [.box (.lst ((is ++ [r % 1009]).map .int))]) := by
        have dz : decide (r / 1009 = 0) = false := decide_eq_false z
        simp only [dz, evSs, evS, evE, evL, evT, evTA, evTO, evF, evSrc, evO, evAnd, evOr, asgT, asgTs, cx_glob, cx_call, shal_int, shal_str, shal_tup, shal_lst, shal_non, shal_bl, bin_addi, bin_subi, bin_addt, bin_addl, bin_adds, bin_mod, bin_div, cmp_lt, cmp_le, cmp_gt, cmp_ge, cmp_eqi, cmp_nei, cmp_eqs, cmp_nes, cmp_ins, cmp_nins, cmp_isn, cmp_isns, item_tup, item_lst, bi_lens, bi_lent, bi_lenl, bi_int, bi_intb, bi_abs, bi_max2, bi_tuplel, bi_tuplet, itD, slice, seqD, pure_non, pure_bl, pure_int, pure_str, pure_tup, pure_lst, pures_nil, pures_cons, startF, List.replicate, List.length_cons, List.length_nil, List.set_cons_zero, List.set_cons_succ, List.getElem?_cons_zero, List.getElem?_cons_succ, List.getElem?_nil, Nat.zero_add, Nat.reduceAdd, Nat.reduceSub, Nat.reduceLT, Nat.reduceLeDiff, if_true, Bool.not_true, Bool.not_false, List.map_cons, List.map_nil, List.cons_append, List.nil_append, reduceIte, and_self, and_true, true_and, decide_true, decide_false, Bool.true_and, Bool.and_true, Bool.false_and, Bool.and_false, fin_non, fin_bl, fin_int, fin_str, finX_same', gt_iff_lt, Nat.lt_add_one, Bool.false_eq_true]
      have e : evSs (prog.cx k (callF prog k)) b_law_stream_0 [some sc, some (.loc h.length), o2, some (.int r), some x, o5] (h ++ [.box (.lst (is.map .int))]) = .nx [some sc, some (.loc h.length), o2, some (.int (r / 1009)), some x, o5] (h ++ [.box (.lst ((is ++ [r % 1009]).map .int))]) := by
        rw [b_law_stream_0, seq_nx t0, seq_nx t1, seq_nx t2, evSs]
      rw [e]
      exact ⟨_, _, _, _, _, rfl, rfl, by omega⟩
def stI1 (h : Mem) (B : Nat) (sc : D) (xs : List D) (σ : Fr) (h' : Mem) : Prop :=
  ∃ (is : List Int) (s : Int) (o2 o3 o4 : Option D), σ = [some sc, some (.loc h.length), o2, o3, o4, some (.int s)] ∧ h' = h ++ [.box (.lst (is.map .int))] ∧ is.length + xs.length ≤ B ∧ (0 ≤ s ∧ s < 2147483647) ∧ ∀ x ∈ xs, ∃ i : Int, x = .int i
theorem stream_1 (k : Nat) (h : Mem) (B : Nat) (sc : D) (hB : B ≤ 10000) (xs : List D) (σ : Fr) (h' : Mem) (i : stI1 h B sc xs σ h') : stQ h B sc (forL (evSs (prog.cx k (callF prog k)) b_law_stream_1) (.nm 4) xs σ h') := by
  refine forL_inv (Q := stQ h B sc) (stI1 h B sc) ?_ ?_ xs σ h' i
  · rintro σ h' ⟨is, s, o2, o3, o4, rfl, rfl, hl, _⟩
    exact ⟨is, o2, _, o4, _, rfl, by simpa using hl⟩
  · rintro x xs σ h' ⟨is, s, o2, o3, o4, rfl, rfl, hl, hs, hx⟩
    obtain ⟨i, rfl⟩ := hx x List.mem_cons_self
    refine ⟨[some sc, some (.loc h.length), o2, o3, some (.int i), some (.int s)], rfl, ?_⟩
    rw [List.length_cons] at hl
    have lx : (is.map D.int).length < LIM := lim_lt' (by rw [List.length_map]; omega)
    have m1 : binop .mul (.int s) (.int 48271) = some (.int (s * 48271)) := mul_r (by decide)
    have m2 : binop .mul (.int 7) (.int i) = some (.int (7 * i)) := mul_l (by decide)
    have p1 : (0 : Int) < 2147483647 := by decide
    have t0 : evS (prog.cx k (callF prog k)) (.asg (.nm 5) (.bin .mod (.bi .int_ (.cons (.bin .add (.bin .add (.bin .mul (.v 5) (.c (.int 48271))) (.bin .mul (.c (.int 7)) (.v 4))) (.c (.int 11))) .nil)) (.c (.int 2147483647)))) [some sc, some (.loc h.length), o2, o3, some (.int i), some (.int s)] (h ++ [.box (.lst (is.map .int))]) = .nx [some sc, some (.loc h.length), o2, o3, some (.int i), some (.int ((s * 48271 + 7 * i + 11) % 2147483647))] (h ++ [.box (.lst (is.map .int))]) := by
      simp only [m1, m2, p1, evSs, evS, evE, evL, evT, evTA, evTO, evF, evSrc, evO, evAnd, evOr, asgT, asgTs, cx_glob, cx_call, shal_int, shal_str, shal_tup, shal_lst, shal_non, shal_bl, bin_addi, bin_subi, bin_addt, bin_addl, bin_adds, bin_mod, bin_div, cmp_lt, cmp_le, cmp_gt, cmp_ge, cmp_eqi, cmp_nei, cmp_eqs, cmp_nes, cmp_ins, cmp_nins, cmp_isn, cmp_isns, item_tup, item_lst, bi_lens, bi_lent, bi_lenl, bi_int, bi_intb, bi_abs, bi_max2, bi_tuplel, bi_tuplet, itD, slice, seqD, pure_non, pure_bl, pure_int, pure_str, pure_tup, pure_lst, pures_nil, pures_cons, startF, List.replicate, List.length_cons, List.length_nil, List.set_cons_zero, List.set_cons_succ, List.getElem?_cons_zero, List.getElem?_cons_succ, List.getElem?_nil, Nat.zero_add, Nat.reduceAdd, Nat.reduceSub, Nat.reduceLT, Nat.reduceLeDiff, if_true, Bool.not_true, Bool.not_false, List.map_cons, List.map_nil, List.cons_append, List.nil_append, reduceIte, and_self, and_true, true_and, decide_true, decide_false, Bool.true_and, Bool.and_true, Bool.false_and, Bool.and_false, fin_non, fin_bl, fin_int, fin_str, finX_same', gt_iff_lt, Nat.lt_add_one, Bool.false_eq_true]
    have b1 := Int.emod_nonneg (s * 48271 + 7 * i + 11) (show (2147483647 : Int) ≠ 0 by decide)
    have b2 := Int.emod_lt_of_pos (s * 48271 + 7 * i + 11) p1
    generalize (s * 48271 + 7 * i + 11) % 2147483647 = s' at t0 b1 b2
    have m3 : binop .mul (.int s') (.int 69621) = some (.int (s' * 69621)) := mul_r (by decide)
    have p2 : (0 : Int) < 2147483629 := by decide
    have p3 : (0 : Int) < 1009 := by decide
    have ga : evL (prog.cx k (callF prog k)) (.cons (.bin .mod (.bin .mod (.bi .int_ (.cons (.bin .add (.bin .mul (.v 5) (.c (.int 69621))) (.v 4)) .nil)) (.c (.int 2147483629))) (.c (.int 1009))) .nil) [some sc, some (.loc h.length), o2, o3, some (.int i), some (.int s')] (h ++ [.box (.lst (is.map .int))]) = .ok [.int ((s' * 69621 + i) % 2147483629 % 1009)] (h ++ [.box (.lst (is.map .int))]) := by
      simp only [m3, p2, p3, evSs, evS, evE, evL, evT, evTA, evTO, evF, evSrc, evO, evAnd, evOr, asgT, asgTs, cx_glob, cx_call, shal_int, shal_str, shal_tup, shal_lst, shal_non, shal_bl, bin_addi, bin_subi, bin_addt, bin_addl, bin_adds, bin_mod, bin_div, cmp_lt, cmp_le, cmp_gt, cmp_ge, cmp_eqi, cmp_nei, cmp_eqs, cmp_nes, cmp_ins, cmp_nins, cmp_isn, cmp_isns, item_tup, item_lst, bi_lens, bi_lent, bi_lenl, bi_int, bi_intb, bi_abs, bi_max2, bi_tuplel, bi_tuplet, itD, slice, seqD, pure_non, pure_bl, pure_int, pure_str, pure_tup, pure_lst, pures_nil, pures_cons, startF, List.replicate, List.length_cons, List.length_nil, List.set_cons_zero, List.set_cons_succ, List.getElem?_cons_zero, List.getElem?_cons_succ, List.getElem?_nil, Nat.zero_add, Nat.reduceAdd, Nat.reduceSub, Nat.reduceLT, Nat.reduceLeDiff, if_true, Bool.not_true, Bool.not_false, List.map_cons, List.map_nil, List.cons_append, List.nil_append, reduceIte, and_self, and_true, true_and, decide_true, decide_false, Bool.true_and, Bool.and_true, Bool.false_and, Bool.and_false, fin_non, fin_bl, fin_int, fin_str, finX_same', gt_iff_lt, Nat.lt_add_one, Bool.false_eq_true]
    have t1 := evS_expr (ev_mt (m := .append) (o := .v 1) (ev_v (C := prog.cx k (callF prog k)) rfl) m1_get0 ga (mt_append m1_get0 lx))
    rw [m1_set0, map_snoc] at t1
    have e : evSs (prog.cx k (callF prog k)) b_law_stream_1 [some sc, some (.loc h.length), o2, o3, some (.int i), some (.int s)] (h ++ [.box (.lst (is.map .int))]) = .nx [some sc, some (.loc h.length), o2, o3, some (.int i), some (.int s')] (h ++ [.box (.lst ((is ++ [(s' * 69621 + i) % 2147483629 % 1009]).map .int))]) := by
      rw [b_law_stream_1, seq_nx t0, seq_nx t1, evSs]
    rw [e]
    exact ⟨_, _, _, _, _, rfl, rfl, by simp; omega, ⟨b1, b2⟩, fun y hy => hx y (List.mem_cons_of_mem _ hy)⟩
theorem rngL_len (c : Int) : ∀ (n : Nat) (lo : Int), (rngL lo c n).length = n
  | 0, _ => rfl
  | n + 1, lo => by rw [rngL, List.length_cons, rngL_len c n]
theorem rngL_int (c : Int) : ∀ (n : Nat) (lo : Int), ∀ x ∈ rngL lo c n, ∃ i : Int, x = .int i
  | 0, _, x, h => by cases h
  | n + 1, lo, x, h => by
    rw [rngL] at h
    rcases List.mem_cons.mp h with z | z
    · exact ⟨lo, z⟩
    · exact rngL_int c n _ x z
theorem rng1 {n : Nat} (h : n ≤ 1000000) : rngD [.int (n : Int)] = some (rngL 0 1 n) := by
  have sm : small62 (n : Int) = true := by unfold small62; simp; omega
  show (if small62 (n : Int) then some (rngL 0 1 ((n : Int)).toNat) else none) = _
  rw [sm, if_pos rfl]
  rfl
theorem stream_2 (k : Nat) (h : Mem) (is : List Int) (sc : D) (i : Int) (o3 o4 o5 : Option D) (hB : is.length ≤ 9000) : ∃ (is' : List Int) (p2 p3 p4 p5 : Option D), evSs (prog.cx k (callF prog k)) b_law_stream_2 [some sc, some (.loc h.length), some (.int i), o3, o4, o5] (h ++ [.box (.lst (is.map .int))]) = .nx [some sc, some (.loc h.length), p2, p3, p4, p5] (h ++ [.box (.lst (is'.map .int))]) ∧ is'.length ≤ is.length + 60 := by
  have f0 : evS (prog.cx k (callF prog k)) (.asg (.nm 3) (.bi .abs (.cons (.bi .int_ (.cons (.v 2) .nil)) .nil))) [some sc, some (.loc h.length), some (.int i), o3, o4, o5] (h ++ [.box (.lst (is.map .int))]) = .nx [some sc, some (.loc h.length), some (.int i), some (.int (if i < 0 then -i else i)), o4, o5] (h ++ [.box (.lst (is.map .int))]) := by
    simp only [evSs, evS, evE, evL, evT, evTA, evTO, evF, evSrc, evO, evAnd, evOr, asgT, asgTs, cx_glob, cx_call, shal_int, shal_str, shal_tup, shal_lst, shal_non, shal_bl, bin_addi, bin_subi, bin_addt, bin_addl, bin_adds, bin_mod, bin_div, cmp_lt, cmp_le, cmp_gt, cmp_ge, cmp_eqi, cmp_nei, cmp_eqs, cmp_nes, cmp_ins, cmp_nins, cmp_isn, cmp_isns, item_tup, item_lst, bi_lens, bi_lent, bi_lenl, bi_int, bi_intb, bi_abs, bi_max2, bi_tuplel, bi_tuplet, itD, slice, seqD, pure_non, pure_bl, pure_int, pure_str, pure_tup, pure_lst, pures_nil, pures_cons, startF, List.replicate, List.length_cons, List.length_nil, List.set_cons_zero, List.set_cons_succ, List.getElem?_cons_zero, List.getElem?_cons_succ, List.getElem?_nil, Nat.zero_add, Nat.reduceAdd, Nat.reduceSub, Nat.reduceLT, Nat.reduceLeDiff, if_true, Bool.not_true, Bool.not_false, List.map_cons, List.map_nil, List.cons_append, List.nil_append, reduceIte, and_self, and_true, true_and, decide_true, decide_false, Bool.true_and, Bool.and_true, Bool.false_and, Bool.and_false, fin_non, fin_bl, fin_int, fin_str, finX_same', gt_iff_lt, Nat.lt_add_one, Bool.false_eq_true]
  generalize (if i < 0 then -i else i) = r at f0
  have pw : binop .pow (.int 10) (.int 18) = some (.int 1000000000000000000) := rfl
  have tt : evT (prog.cx k (callF prog k)) (.e (.cmp .ge (.v 3) (.bin .pow (.c (.int 10)) (.c (.int 18))))) [some sc, some (.loc h.length), some (.int i), some (.int r), o4, o5] (h ++ [.box (.lst (is.map .int))]) = .ok (decide (1000000000000000000 ≤ r)) (h ++ [.box (.lst (is.map .int))]) := by
    simp only [pw, evSs, evS, evE, evL, evT, evTA, evTO, evF, evSrc, evO, evAnd, evOr, asgT, asgTs, cx_glob, cx_call, shal_int, shal_str, shal_tup, shal_lst, shal_non, shal_bl, bin_addi, bin_subi, bin_addt, bin_addl, bin_adds, bin_mod, bin_div, cmp_lt, cmp_le, cmp_gt, cmp_ge, cmp_eqi, cmp_nei, cmp_eqs, cmp_nes, cmp_ins, cmp_nins, cmp_isn, cmp_isns, item_tup, item_lst, bi_lens, bi_lent, bi_lenl, bi_int, bi_intb, bi_abs, bi_max2, bi_tuplel, bi_tuplet, itD, slice, seqD, pure_non, pure_bl, pure_int, pure_str, pure_tup, pure_lst, pures_nil, pures_cons, startF, List.replicate, List.length_cons, List.length_nil, List.set_cons_zero, List.set_cons_succ, List.getElem?_cons_zero, List.getElem?_cons_succ, List.getElem?_nil, Nat.zero_add, Nat.reduceAdd, Nat.reduceSub, Nat.reduceLT, Nat.reduceLeDiff, if_true, Bool.not_true, Bool.not_false, List.map_cons, List.map_nil, List.cons_append, List.nil_append, reduceIte, and_self, and_true, true_and, decide_true, decide_false, Bool.true_and, Bool.and_true, Bool.false_and, Bool.and_false, fin_non, fin_bl, fin_int, fin_str, finX_same', gt_iff_lt, Nat.lt_add_one, Bool.false_eq_true]
  by_cases z : 1000000000000000000 ≤ r
  · rw [decide_eq_true z] at tt
    obtain ⟨is', p2, p3, p4, p5, e, l⟩ := stream_0 k h (is.length + 60) sc (by omega) (rngL 0 1 60) [some sc, some (.loc h.length), some (.int i), some (.int r), o4, o5] (h ++ [.box (.lst (is.map .int))]) ⟨is, r, _, _, _, rfl, rfl, by rw [rngL_len]; exact Nat.le_refl _⟩
    have ea : evL (prog.cx k (callF prog k)) (.cons (.c (.int 60)) .nil) [some sc, some (.loc h.length), some (.int i), some (.int r), o4, o5] (h ++ [.box (.lst (is.map .int))]) = .ok [.int ((60 : Nat) : Int)] (h ++ [.box (.lst (is.map .int))]) := ev_cons (ev_c rfl) ev_nil
    refine ⟨is', p2, p3, p4, p5, ?_, by omega⟩
    rw [b_law_stream_2]
    refine sq_nx f0 (sq_nx ?_ sq_nil)
    rw [evS_ite tt, if_pos rfl]
    refine sq_nx ?_ sq_nil
    rw [evS_for (evSrc_rng ea (rng1 (by decide)))]
    exact e
  · rw [decide_eq_false z] at tt
    have p1 : (0 : Int) < 2147483647 := by decide
    have f1 : evS (prog.cx k (callF prog k)) (.asg (.nm 5) (.bin .mod (.bi .int_ (.cons (.v 3) .nil)) (.c (.int 2147483647)))) [some sc, some (.loc h.length), some (.int i), some (.int r), o4, o5] (h ++ [.box (.lst (is.map .int))]) = .nx [some sc, some (.loc h.length), some (.int i), some (.int r), o4, some (.int (r % 2147483647))] (h ++ [.box (.lst (is.map .int))]) := by
      simp only [p1, evSs, evS, evE, evL, evT, evTA, evTO, evF, evSrc, evO, evAnd, evOr, asgT, asgTs, cx_glob, cx_call, shal_int, shal_str, shal_tup, shal_lst, shal_non, shal_bl, bin_addi, bin_subi, bin_addt, bin_addl, bin_adds, bin_mod, bin_div, cmp_lt, cmp_le, cmp_gt, cmp_ge, cmp_eqi, cmp_nei, cmp_eqs, cmp_nes, cmp_ins, cmp_nins, cmp_isn, cmp_isns, item_tup, item_lst, bi_lens, bi_lent, bi_lenl, bi_int, bi_intb, bi_abs, bi_max2, bi_tuplel, bi_tuplet, itD, slice, seqD, pure_non, pure_bl, pure_int, pure_str, pure_tup, pure_lst, pures_nil, pures_cons, startF, List.replicate, List.length_cons, List.length_nil, List.set_cons_zero, List.set_cons_succ, List.getElem?_cons_zero, List.getElem?_cons_succ, List.getElem?_nil, Nat.zero_add, Nat.reduceAdd, Nat.reduceSub, Nat.reduceLT, Nat.reduceLeDiff, if_true, Bool.not_true, Bool.not_false, List.map_cons, List.map_nil, List.cons_append, List.nil_append, reduceIte, and_self, and_true, true_and, decide_true, decide_false, Bool.true_and, Bool.and_true, Bool.false_and, Bool.and_false, fin_non, fin_bl, fin_int, fin_str, finX_same', gt_iff_lt, Nat.lt_add_one, Bool.false_eq_true]
    have b1 := Int.emod_nonneg r (show (2147483647 : Int) ≠ 0 by decide)
    have b2 := Int.emod_lt_of_pos r p1
    generalize r % 2147483647 = s at f1 b1 b2
    obtain ⟨is', p2, p3, p4, p5, e, l⟩ := stream_1 k h (is.length + 60) sc (by omega) (rngL 0 1 10) [some sc, some (.loc h.length), some (.int i), some (.int r), o4, some (.int s)] (h ++ [.box (.lst (is.map .int))]) ⟨is, s, _, _, _, rfl, rfl, by rw [rngL_len]; omega, ⟨b1, b2⟩, rngL_int 1 10 0⟩
    have ea : evL (prog.cx k (callF prog k)) (.cons (.c (.int 10)) .nil) [some sc, some (.loc h.length), some (.int i), some (.int r), o4, some (.int s)] (h ++ [.box (.lst (is.map .int))]) = .ok [.int ((10 : Nat) : Int)] (h ++ [.box (.lst (is.map .int))]) := ev_cons (ev_c rfl) ev_nil
    refine ⟨is', p2, p3, p4, p5, ?_, by omega⟩
    rw [b_law_stream_2]
    refine sq_nx f0 (sq_nx ?_ sq_nil)
    rw [evS_ite tt, if_neg (by decide)]
    refine sq_nx f1 (sq_nx ?_ sq_nil)
    rw [evS_for (evSrc_rng ea (rng1 (by decide)))]
    exact e
theorem stream_loop (k : Nat) (h : Mem) (sc : D) : ∀ (xs : List Int) (is : List Int) (o2 o3 o4 o5 : Option D), is.length + 60 * xs.length ≤ 9000 → ∃ (is' : List Int) (p2 p3 p4 p5 : Option D), forL (evSs (prog.cx k (callF prog k)) b_law_stream_2) (.nm 2) (xs.map .int) [some sc, some (.loc h.length), o2, o3, o4, o5] (h ++ [.box (.lst (is.map .int))]) = .nx [some sc, some (.loc h.length), p2, p3, p4, p5] (h ++ [.box (.lst (is'.map .int))]) ∧ is'.length ≤ is.length + 60 * xs.length := by
  intro xs
  induction xs with
  | nil => intro is o2 o3 o4 o5 _; exact ⟨is, _, _, _, _, rfl, by omega⟩
  | cons x xs ih =>
    intro is o2 o3 o4 o5 hl
    rw [List.length_cons] at hl
    obtain ⟨is1, q2, q3, q4, q5, e1, l1⟩ := stream_2 k h is sc x o3 o4 o5 (by omega)
    obtain ⟨is2, r2, r3, r4, r5, e2, l2⟩ := ih is1 q2 q3 q4 q5 (by omega)
    refine ⟨is2, r2, r3, r4, r5, ?_, by rw [List.length_cons]; omega⟩
    rw [List.map_cons, forL_nx rfl e1, e2]
theorem law_stream_ok (k : Nat) (h : Mem) (ns : List Int) (hn : ns.length ≤ 63) : ∃ is : List Int, is ≠ [] ∧ is.length ≤ 100000 ∧ callF prog (k + 1) i_law_stream [.scr (ns.map .int)] h = .ok (.lst (is.map .int)) h := by
  rw [callF_out d_law_stream rfl ⟨rfl, by decide⟩]
  have l0 : 0 ≤ LIM := by decide
  have ct : cut (ns.map D.int) none (some 63) = ns.map D.int := by
    have sx : sIx (ns.map D.int).length (ns.map D.int).length (some 63) = ns.length := by
      show (if (0 : Int) ≤ 63 then min (63 : Int).toNat (ns.map D.int).length else ((63 : Int) + (ns.map D.int).length).toNat) = _
      rw [if_pos (by decide), List.length_map]
      show min 63 ns.length = _
      omega
    show ((ns.map D.int).drop 0).take (sIx (ns.map D.int).length (ns.map D.int).length (some 63) - 0) = _
    rw [sx, List.drop_zero, Nat.sub_zero, List.take_of_length_le (by rw [List.length_map]; exact Nat.le_refl _)]
  have t0 : evS (prog.cx k (callF prog k)) (.asg (.nm 1) (.nw (.lst .nil))) [some (.scr (ns.map .int)), none, none, none, none, none] h = .nx [some (.scr (ns.map .int)), some (.loc h.length), none, none, none, none] (h ++ [.box (.lst [])]) := by
    simp only [l0, evSs, evS, evE, evL, evT, evTA, evTO, evF, evSrc, evO, evAnd, evOr, asgT, asgTs, cx_glob, cx_call, shal_int, shal_str, shal_tup, shal_lst, shal_non, shal_bl, bin_addi, bin_subi, bin_addt, bin_addl, bin_adds, bin_mod, bin_div, cmp_lt, cmp_le, cmp_gt, cmp_ge, cmp_eqi, cmp_nei, cmp_eqs, cmp_nes, cmp_ins, cmp_nins, cmp_isn, cmp_isns, item_tup, item_lst, bi_lens, bi_lent, bi_lenl, bi_int, bi_intb, bi_abs, bi_max2, bi_tuplel, bi_tuplet, itD, slice, seqD, pure_non, pure_bl, pure_int, pure_str, pure_tup, pure_lst, pures_nil, pures_cons, startF, List.replicate, List.length_cons, List.length_nil, List.set_cons_zero, List.set_cons_succ, List.getElem?_cons_zero, List.getElem?_cons_succ, List.getElem?_nil, Nat.zero_add, Nat.reduceAdd, Nat.reduceSub, Nat.reduceLT, Nat.reduceLeDiff, if_true, Bool.not_true, Bool.not_false, List.map_cons, List.map_nil, List.cons_append, List.nil_append, reduceIte, and_self, and_true, true_and, decide_true, decide_false, Bool.true_and, Bool.and_true, Bool.false_and, Bool.and_false, fin_non, fin_bl, fin_int, fin_str, finX_same', gt_iff_lt, Nat.lt_add_one, Bool.false_eq_true]
  have es : evSrc (prog.cx k (callF prog k)) (.it (.sl (.v 0) .no (.so (.c (.int 63))))) [some (.scr (ns.map .int)), some (.loc h.length), none, none, none, none] (h ++ [.box (.lst [])]) = .ok (ns.map .int) (h ++ [.box (.lst [])]) := by
    have sh : shal (h ++ [.box (.lst [])]) (.scr (ns.map .int)) = .scr (ns.map .int) := rfl
    simp only [sh, ct, evSs, evS, evE, evL, evT, evTA, evTO, evF, evSrc, evO, evAnd, evOr, asgT, asgTs, cx_glob, cx_call, shal_int, shal_str, shal_tup, shal_lst, shal_non, shal_bl, bin_addi, bin_subi, bin_addt, bin_addl, bin_adds, bin_mod, bin_div, cmp_lt, cmp_le, cmp_gt, cmp_ge, cmp_eqi, cmp_nei, cmp_eqs, cmp_nes, cmp_ins, cmp_nins, cmp_isn, cmp_isns, item_tup, item_lst, bi_lens, bi_lent, bi_lenl, bi_int, bi_intb, bi_abs, bi_max2, bi_tuplel, bi_tuplet, itD, slice, seqD, pure_non, pure_bl, pure_int, pure_str, pure_tup, pure_lst, pures_nil, pures_cons, startF, List.replicate, List.length_cons, List.length_nil, List.set_cons_zero, List.set_cons_succ, List.getElem?_cons_zero, List.getElem?_cons_succ, List.getElem?_nil, Nat.zero_add, Nat.reduceAdd, Nat.reduceSub, Nat.reduceLT, Nat.reduceLeDiff, if_true, Bool.not_true, Bool.not_false, List.map_cons, List.map_nil, List.cons_append, List.nil_append, reduceIte, and_self, and_true, true_and, decide_true, decide_false, Bool.true_and, Bool.and_true, Bool.false_and, Bool.and_false, fin_non, fin_bl, fin_int, fin_str, finX_same', gt_iff_lt, Nat.lt_add_one, Bool.false_eq_true]
  obtain ⟨is, p2, p3, p4, p5, e, l⟩ := stream_loop k h (.scr (ns.map .int)) ns [] none none none none (by simp; omega)
  have t1 : evS (prog.cx k (callF prog k)) (.for_ (.nm 2) (.it (.sl (.v 0) .no (.so (.c (.int 63))))) b_law_stream_2) [some (.scr (ns.map .int)), some (.loc h.length), none, none, none, none] (h ++ [.box (.lst [])]) = .nx [some (.scr (ns.map .int)), some (.loc h.length), p2, p3, p4, p5] (h ++ [.box (.lst (is.map .int))]) := by
    rw [evS_for es]
    exact e
  rw [List.length_nil, Nat.zero_add] at l
  refine ⟨if is = [] then [0] else is, by split <;> simp_all, by
    split
    · decide
    · omega, ?_⟩
  rw [d_law_stream]
  refine st_nx t0 (st_nx t1 ?_)
  have bl : biF .len [.loc h.length] (h ++ [.box (.lst (is.map .int))]) = some (.int ((is.map D.int).length : Int)) := bi_lenb m1_get0
  by_cases z : is = []
  · subst z
    rw [if_pos rfl]
    have bl : biF .len [.loc h.length] (h ++ [.box (.lst [])]) = some (.int 0) := bi_lenb m1_get0
    have tt : evT (prog.cx k (callF prog k)) (.e (.cmp .eq (.bi .len (.cons (.v 1) .nil)) (.c (.int 0)))) [some (.scr (ns.map .int)), some (.loc h.length), p2, p3, p4, p5] (h ++ [.box (.lst [])]) = .ok true (h ++ [.box (.lst [])]) := by
      simp only [bl, evSs, evS, evE, evL, evT, evTA, evTO, evF, evSrc, evO, evAnd, evOr, asgT, asgTs, cx_glob, cx_call, shal_int, shal_str, shal_tup, shal_lst, shal_non, shal_bl, bin_addi, bin_subi, bin_addt, bin_addl, bin_adds, bin_mod, bin_div, cmp_lt, cmp_le, cmp_gt, cmp_ge, cmp_eqi, cmp_nei, cmp_eqs, cmp_nes, cmp_ins, cmp_nins, cmp_isn, cmp_isns, item_tup, item_lst, bi_lens, bi_lent, bi_lenl, bi_int, bi_intb, bi_abs, bi_max2, bi_tuplel, bi_tuplet, itD, slice, seqD, pure_non, pure_bl, pure_int, pure_str, pure_tup, pure_lst, pures_nil, pures_cons, startF, List.replicate, List.length_cons, List.length_nil, List.set_cons_zero, List.set_cons_succ, List.getElem?_cons_zero, List.getElem?_cons_succ, List.getElem?_nil, Nat.zero_add, Nat.reduceAdd, Nat.reduceSub, Nat.reduceLT, Nat.reduceLeDiff, if_true, Bool.not_true, Bool.not_false, List.map_cons, List.map_nil, List.cons_append, List.nil_append, reduceIte, and_self, and_true, true_and, decide_true, decide_false, Bool.true_and, Bool.and_true, Bool.false_and, Bool.and_false, fin_non, fin_bl, fin_int, fin_str, finX_same', gt_iff_lt, Nat.lt_add_one, Bool.false_eq_true]
    refine st_nx (σ1 := [some (.scr (ns.map .int)), some (.loc h.length), p2, p3, p4, p5]) (h1 := h ++ [.box (.lst [.int 0])]) ?_ ?_
    · refine (evS_ite tt).trans ?_
      rw [if_pos rfl]
      refine sq_nx (evS_expr (ev_mt (ev_v rfl) m1_get0 (ev_cons (ev_c rfl) ev_nil) (mt_append m1_get0 (by decide)))) ?_
      rw [m1_set0, sq_nil]
      rfl
    · refine st_rt (d := .lst [.int 0]) (h1 := h ++ [.gone]) ?_ ?_
      · simp only [m1_get0, m1_set0, evSs, evS, evE, evL, evT, evTA, evTO, evF, evSrc, evO, evAnd, evOr, asgT, asgTs, cx_glob, cx_call, shal_int, shal_str, shal_tup, shal_lst, shal_non, shal_bl, bin_addi, bin_subi, bin_addt, bin_addl, bin_adds, bin_mod, bin_div, cmp_lt, cmp_le, cmp_gt, cmp_ge, cmp_eqi, cmp_nei, cmp_eqs, cmp_nes, cmp_ins, cmp_nins, cmp_isn, cmp_isns, item_tup, item_lst, bi_lens, bi_lent, bi_lenl, bi_int, bi_intb, bi_abs, bi_max2, bi_tuplel, bi_tuplet, itD, slice, seqD, pure_non, pure_bl, pure_int, pure_str, pure_tup, pure_lst, pures_nil, pures_cons, startF, List.replicate, List.length_cons, List.length_nil, List.set_cons_zero, List.set_cons_succ, List.getElem?_cons_zero, List.getElem?_cons_succ, List.getElem?_nil, Nat.zero_add, Nat.reduceAdd, Nat.reduceSub, Nat.reduceLT, Nat.reduceLeDiff, if_true, Bool.not_true, Bool.not_false, List.map_cons, List.map_nil, List.cons_append, List.nil_append, reduceIte, and_self, and_true, true_and, decide_true, decide_false, Bool.true_and, Bool.and_true, Bool.false_and, Bool.and_false, fin_non, fin_bl, fin_int, fin_str, finX_same', gt_iff_lt, Nat.lt_add_one, Bool.false_eq_true]
      · exact fin_app rfl rfl
  · rw [if_neg z]
    have tt : evT (prog.cx k (callF prog k)) (.e (.cmp .eq (.bi .len (.cons (.v 1) .nil)) (.c (.int 0)))) [some (.scr (ns.map .int)), some (.loc h.length), p2, p3, p4, p5] (h ++ [.box (.lst (is.map .int))]) = .ok false (h ++ [.box (.lst (is.map .int))]) := by
      have := List.length_pos_iff.mpr z
      have d : decide (((is.map D.int).length : Int) = 0) = false := decide_eq_false (by rw [List.length_map]; omega)
      simp only [bl, d, evSs, evS, evE, evL, evT, evTA, evTO, evF, evSrc, evO, evAnd, evOr, asgT, asgTs, cx_glob, cx_call, shal_int, shal_str, shal_tup, shal_lst, shal_non, shal_bl, bin_addi, bin_subi, bin_addt, bin_addl, bin_adds, bin_mod, bin_div, cmp_lt, cmp_le, cmp_gt, cmp_ge, cmp_eqi, cmp_nei, cmp_eqs, cmp_nes, cmp_ins, cmp_nins, cmp_isn, cmp_isns, item_tup, item_lst, bi_lens, bi_lent, bi_lenl, bi_int, bi_intb, bi_abs, bi_max2, bi_tuplel, bi_tuplet, itD, slice, seqD, pure_non, pure_bl, pure_int, pure_str, pure_tup, pure_lst, pures_nil, pures_cons, startF, List.replicate, List.length_cons, List.length_nil, List.set_cons_zero, List.set_cons_succ, List.getElem?_cons_zero, List.getElem?_cons_succ, List.getElem?_nil, Nat.zero_add, Nat.reduceAdd, Nat.reduceSub, Nat.reduceLT, Nat.reduceLeDiff, if_true, Bool.not_true, Bool.not_false, List.map_cons, List.map_nil, List.cons_append, List.nil_append, reduceIte, and_self, and_true, true_and, decide_true, decide_false, Bool.true_and, Bool.and_true, Bool.false_and, Bool.and_false, fin_non, fin_bl, fin_int, fin_str, finX_same', gt_iff_lt, Nat.lt_add_one, Bool.false_eq_true]
    refine st_nx (σ1 := [some (.scr (ns.map .int)), some (.loc h.length), p2, p3, p4, p5]) (h1 := h ++ [.box (.lst (is.map .int))]) ?_ ?_
    · refine (evS_ite tt).trans ?_
      rw [if_neg (by decide), sq_nil]
    · refine st_rt (d := .lst (is.map .int)) (h1 := h ++ [.gone]) ?_ ?_
      · simp only [m1_get0, m1_set0, evSs, evS, evE, evL, evT, evTA, evTO, evF, evSrc, evO, evAnd, evOr, asgT, asgTs, cx_glob, cx_call, shal_int, shal_str, shal_tup, shal_lst, shal_non, shal_bl, bin_addi, bin_subi, bin_addt, bin_addl, bin_adds, bin_mod, bin_div, cmp_lt, cmp_le, cmp_gt, cmp_ge, cmp_eqi, cmp_nei, cmp_eqs, cmp_nes, cmp_ins, cmp_nins, cmp_isn, cmp_isns, item_tup, item_lst, bi_lens, bi_lent, bi_lenl, bi_int, bi_intb, bi_abs, bi_max2, bi_tuplel, bi_tuplet, itD, slice, seqD, pure_non, pure_bl, pure_int, pure_str, pure_tup, pure_lst, pures_nil, pures_cons, startF, List.replicate, List.length_cons, List.length_nil, List.set_cons_zero, List.set_cons_succ, List.getElem?_cons_zero, List.getElem?_cons_succ, List.getElem?_nil, Nat.zero_add, Nat.reduceAdd, Nat.reduceSub, Nat.reduceLT, Nat.reduceLeDiff, if_true, Bool.not_true, Bool.not_false, List.map_cons, List.map_nil, List.cons_append, List.nil_append, reduceIte, and_self, and_true, true_and, decide_true, decide_false, Bool.true_and, Bool.and_true, Bool.false_and, Bool.and_false, fin_non, fin_bl, fin_int, fin_str, finX_same', gt_iff_lt, Nat.lt_add_one, Bool.false_eq_true]
      · exact fin_app (D.pure_ok _ _ (ints_pure is)) rfl
end K00
end
section
set_option Elab.async false
set_option autoImplicit false
set_option maxRecDepth 100000
set_option linter.all false
namespace K00
open Ev
mutual
theorem nds_len : ∀ (d : Doc) (p : List D), (nds p d).length = sz d
  | .mk l ks, p => by rw [nds, List.length_cons, ndss_len ks p 0, sz]; omega
theorem ndss_len : ∀ (ds : List Doc) (p : List D) (i : Nat), (ndss p i ds).length = szs ds
  | [], _, _ => rfl
  | d :: ds, p, i => by rw [ndss, List.length_append, nds_len d, ndss_len ds, szs]
end
def LnOk (k : Nat) : Prop := ∀ (d : Doc) (p : List D) (h : Mem), dp d < k → p.length + dp d ≤ 900 → sz d ≤ 900 → D.pures p = true → callF prog k i_law_nodes [enc d, .tup p] h = .ok (.lst (nds p d)) h
theorem lnodes_loop (k : Nat) (ihk : LnOk k) (l : List Nat) (kd : List Doc) (p : List D) (hp : D.pures p = true) (hk : dps kd ≤ k) (hpl : p.length + dps kd ≤ 900) (hz : szs kd ≤ 900) (h : Mem) :
    ∀ (suf pre : List Doc) (acc : List D) (o : Option D) (i : Nat), kd = pre ++ suf → pre.length = i → acc.length + szs suf ≤ 2000 →
    ∃ o', forL (evSs (prog.cx k (callF prog k)) b_law_nodes_0) (.nm 3) (rngL (i : Int) 1 suf.length) [some (enc (.mk l kd)), some (.tup p), some (.loc h.length), o] (h ++ [.box (.lst acc)]) =
      .nx [some (enc (.mk l kd)), some (.tup p), some (.loc h.length), o'] (h ++ [.box (.lst (acc ++ ndss p i suf))]) := by
  intro suf
  induction suf with
  | nil => intro pre acc o i _ _ _; exact ⟨o, by simp [rngL, forL, ndss]⟩
  | cons d suf ih =>
    intro pre acc o i e hi ha
    have dm : d ∈ kd := by rw [e]; simp
    have d1 := dp_mem dm
    have d2 := sz_mem dm
    rw [szs] at ha
    have call := ihk d (p ++ [D.int (i : Int)]) (h ++ [.box (.lst acc)]) (by omega) (by rw [List.length_append]; simp; omega) (by omega) (by rw [pures_app, hp]; rfl)
    have la : acc.length + (nds (p ++ [D.int (i : Int)]) d).length ≤ LIM := lim_lt (by rw [nds_len]; omega)
    have lp : p.length + 1 ≤ LIM := lim_lt (by omega)
    have l1 : 1 ≤ LIM := by decide
    have c1 := at_child (l := l) (suf := suf) (d := d) hi
    have ga : evL (prog.cx k (callF prog k)) (.cons (.call i_law_nodes (.cons (.ix (.v 0) (.bin .add (.v 3) (.c (.int 1)))) (.cons (.bin .add (.v 1) (.tup (.cons (.v 3) .nil))) .nil))) .nil) [some (enc (.mk l kd)), some (.tup p), some (.loc h.length), some (.int (i : Int))] (h ++ [.box (.lst acc)]) = .ok [.lst (nds (p ++ [D.int (i : Int)]) d)] (h ++ [.box (.lst acc)]) := by
      rw [show enc (.mk l kd) = .tup (.str l :: encs kd) from by rw [enc], e]
      simp only [c1, lp, l1, call, evSs, evS, evE, evL, evT, evTA, evTO, evF, evSrc, evO, evAnd, evOr, asgT, asgTs, cx_glob, cx_call, shal_int, shal_str, shal_tup, shal_lst, shal_non, shal_bl, bin_addi, bin_subi, bin_addt, bin_addl, bin_adds, bin_mod, bin_div, cmp_lt, cmp_le, cmp_gt, cmp_ge, cmp_eqi, cmp_nei, cmp_eqs, cmp_nes, cmp_ins, cmp_nins, cmp_isn, cmp_isns, item_tup, item_lst, bi_lens, bi_lent, bi_lenl, bi_int, bi_intb, bi_abs, bi_max2, bi_tuplel, bi_tuplet, itD, slice, seqD, pure_non, pure_bl, pure_int, pure_str, pure_tup, pure_lst, pures_nil, pures_cons, startF, List.replicate, List.length_cons, List.length_nil, List.set_cons_zero, List.set_cons_succ, List.getElem?_cons_zero, List.getElem?_cons_succ, List.getElem?_nil, Nat.zero_add, Nat.reduceAdd, Nat.reduceSub, Nat.reduceLT, Nat.reduceLeDiff, if_true, Bool.not_true, Bool.not_false, List.map_cons, List.map_nil, List.cons_append, List.nil_append, reduceIte, and_self, and_true, true_and, decide_true, decide_false, Bool.true_and, Bool.and_true, Bool.false_and, Bool.and_false, fin_non, fin_bl, fin_int, fin_str, finX_same', gt_iff_lt, Nat.lt_add_one, Bool.false_eq_true]
    have hb : evSs (prog.cx k (callF prog k)) b_law_nodes_0 [some (enc (.mk l kd)), some (.tup p), some (.loc h.length), some (.int (i : Int))] (h ++ [.box (.lst acc)]) = .nx [some (enc (.mk l kd)), some (.tup p), some (.loc h.length), some (.int (i : Int))] (h ++ [.box (.lst (acc ++ nds (p ++ [D.int (i : Int)]) d))]) := by
      rw [b_law_nodes_0]
      refine sq_nx (evS_expr (ev_mt (ev_v rfl) m1_get0 ga (mt_extend m1_get0 la))) ?_
      rw [m1_set0, sq_nil]
    obtain ⟨o', er⟩ := ih (pre ++ [d]) (acc ++ nds (p ++ [D.int (i : Int)]) d) (some (.int (i : Int))) (i + 1) (by rw [e]; simp) (by rw [List.length_append, hi]; rfl) (by rw [List.length_append, nds_len]; omega)
    refine ⟨o', ?_⟩
    have ei : (i : Int) + 1 = ((i + 1 : Nat) : Int) := by omega
    rw [List.length_cons, rngL, forL_nx rfl hb, ei, er, ndss, List.append_assoc]
theorem law_nodes_ok (k : Nat) : LnOk k := by
  induction k with
  | zero => intro d p h l; omega
  | succ k ihk =>
    rintro ⟨l, ks⟩ p h hk hpl hz hp
    rw [callF_out d_law_nodes rfl ⟨rfl, by decide⟩]
    rw [dp] at hk hpl
    rw [sz] at hz
    have lk := len_szs ks
    have l1 : 1 ≤ LIM := by decide
    have l2 : 2 ≤ LIM := by decide
    have lc : (((encs ks).length + 1 : Nat) : Int) - 1 = (ks.length : Int) := by rw [encs_len]; omega
    obtain ⟨o', er⟩ := lnodes_loop k ihk l ks p hp (by omega) hpl (by omega) h ks [] [.tup [.tup p, enc (.mk l ks)]] none 0 rfl rfl (by simp; omega)
    have ea : evL (prog.cx k (callF prog k)) (.cons (.bin .sub (.bi .len (.cons (.v 0) .nil)) (.c (.int 1))) .nil) [some (enc (.mk l ks)), some (.tup p), some (.loc h.length), none] (h ++ [.box (.lst [.tup [.tup p, enc (.mk l ks)]])]) = .ok [.int (ks.length : Int)] (h ++ [.box (.lst [.tup [.tup p, enc (.mk l ks)]])]) := by
      rw [show enc (.mk l ks) = .tup (.str l :: encs ks) from by rw [enc]]
      simp only [lc, evSs, evS, evE, evL, evT, evTA, evTO, evF, evSrc, evO, evAnd, evOr, asgT, asgTs, cx_glob, cx_call, shal_int, shal_str, shal_tup, shal_lst, shal_non, shal_bl, bin_addi, bin_subi, bin_addt, bin_addl, bin_adds, bin_mod, bin_div, cmp_lt, cmp_le, cmp_gt, cmp_ge, cmp_eqi, cmp_nei, cmp_eqs, cmp_nes, cmp_ins, cmp_nins, cmp_isn, cmp_isns, item_tup, item_lst, bi_lens, bi_lent, bi_lenl, bi_int, bi_intb, bi_abs, bi_max2, bi_tuplel, bi_tuplet, itD, slice, seqD, pure_non, pure_bl, pure_int, pure_str, pure_tup, pure_lst, pures_nil, pures_cons, startF, List.replicate, List.length_cons, List.length_nil, List.set_cons_zero, List.set_cons_succ, List.getElem?_cons_zero, List.getElem?_cons_succ, List.getElem?_nil, Nat.zero_add, Nat.reduceAdd, Nat.reduceSub, Nat.reduceLT, Nat.reduceLeDiff, if_true, Bool.not_true, Bool.not_false, List.map_cons, List.map_nil, List.cons_append, List.nil_append, reduceIte, and_self, and_true, true_and, decide_true, decide_false, Bool.true_and, Bool.and_true, Bool.false_and, Bool.and_false, fin_non, fin_bl, fin_int, fin_str, finX_same', gt_iff_lt, Nat.lt_add_one, Bool.false_eq_true]
    have t0 : evS (prog.cx k (callF prog k)) (.asg (.nm 2) (.nw (.lst (.cons (.tup (.cons (.v 1) (.cons (.v 0) .nil))) .nil)))) [some (enc (.mk l ks)), some (.tup p), none, none] h = .nx [some (enc (.mk l ks)), some (.tup p), some (.loc h.length), none] (h ++ [.box (.lst [.tup [.tup p, enc (.mk l ks)]])]) := by
      simp only [l1, l2, evSs, evS, evE, evL, evT, evTA, evTO, evF, evSrc, evO, evAnd, evOr, asgT, asgTs, cx_glob, cx_call, shal_int, shal_str, shal_tup, shal_lst, shal_non, shal_bl, bin_addi, bin_subi, bin_addt, bin_addl, bin_adds, bin_mod, bin_div, cmp_lt, cmp_le, cmp_gt, cmp_ge, cmp_eqi, cmp_nei, cmp_eqs, cmp_nes, cmp_ins, cmp_nins, cmp_isn, cmp_isns, item_tup, item_lst, bi_lens, bi_lent, bi_lenl, bi_int, bi_intb, bi_abs, bi_max2, bi_tuplel, bi_tuplet, itD, slice, seqD, pure_non, pure_bl, pure_int, pure_str, pure_tup, pure_lst, pures_nil, pures_cons, startF, List.replicate, List.length_cons, List.length_nil, List.set_cons_zero, List.set_cons_succ, List.getElem?_cons_zero, List.getElem?_cons_succ, List.getElem?_nil, Nat.zero_add, Nat.reduceAdd, Nat.reduceSub, Nat.reduceLT, Nat.reduceLeDiff, if_true, Bool.not_true, Bool.not_false, List.map_cons, List.map_nil, List.cons_append, List.nil_append, reduceIte, and_self, and_true, true_and, decide_true, decide_false, Bool.true_and, Bool.and_true, Bool.false_and, Bool.and_false, fin_non, fin_bl, fin_int, fin_str, finX_same', gt_iff_lt, Nat.lt_add_one, Bool.false_eq_true]
    have pu := nds_pure p hp (.mk l ks)
    rw [d_law_nodes]
    refine st_nx t0 (st_nx ((evS_for (evSrc_rng ea (rng_len (by omega)))).trans er) (st_rt (d := .lst (nds p (.mk l ks))) (h1 := h ++ [.gone]) ?_ ?_))
    · rw [nds]
      simp only [m1_get0, m1_set0, evSs, evS, evE, evL, evT, evTA, evTO, evF, evSrc, evO, evAnd, evOr, asgT, asgTs, cx_glob, cx_call, shal_int, shal_str, shal_tup, shal_lst, shal_non, shal_bl, bin_addi, bin_subi, bin_addt, bin_addl, bin_adds, bin_mod, bin_div, cmp_lt, cmp_le, cmp_gt, cmp_ge, cmp_eqi, cmp_nei, cmp_eqs, cmp_nes, cmp_ins, cmp_nins, cmp_isn, cmp_isns, item_tup, item_lst, bi_lens, bi_lent, bi_lenl, bi_int, bi_intb, bi_abs, bi_max2, bi_tuplel, bi_tuplet, itD, slice, seqD, pure_non, pure_bl, pure_int, pure_str, pure_tup, pure_lst, pures_nil, pures_cons, startF, List.replicate, List.length_cons, List.length_nil, List.set_cons_zero, List.set_cons_succ, List.getElem?_cons_zero, List.getElem?_cons_succ, List.getElem?_nil, Nat.zero_add, Nat.reduceAdd, Nat.reduceSub, Nat.reduceLT, Nat.reduceLeDiff, if_true, Bool.not_true, Bool.not_false, List.map_cons, List.map_nil, List.cons_append, List.nil_append, reduceIte, and_self, and_true, true_and, decide_true, decide_false, Bool.true_and, Bool.and_true, Bool.false_and, Bool.and_false, fin_non, fin_bl, fin_int, fin_str, finX_same', gt_iff_lt, Nat.lt_add_one, Bool.false_eq_true]
    · exact fin_app (D.pure_ok _ _ pu) rfl
end K00
namespace K00
open Ev
/-- a path's data -/
def pD (p : List Nat) : List D := p.map fun i : Nat => D.int (i : Int)
mutual
/-- another document at a path -/
def put : Doc → List Nat → Doc → Doc
  | _, [], x => x
  | .mk l ks, i :: p, x => .mk l (puts ks i p x)
def puts : List Doc → Nat → List Nat → Doc → List Doc
  | [], _, _, _ => []
  | k :: ks, 0, p, x => put k p x :: ks
  | k :: ks, i + 1, p, x => k :: puts ks i p x
end
/-- what stands at a path -/
def sub : Doc → List Nat → Option Doc
  | d, [] => some d
  | .mk _ ks, i :: p => match ks[i]? with
    | some k => sub k p
    | none => none
theorem puts_eq : ∀ (ks : List Doc) (i : Nat) (p : List Nat) (x k : Doc), ks[i]? = some k → puts ks i p x = ks.take i ++ put k p x :: ks.drop (i + 1)
  | [], i, p, x, k, e => by simp at e
  | a :: ks, 0, p, x, k, e => by
    simp at e
    subst e
    simp [puts]
  | a :: ks, i + 1, p, x, k, e => by
    have := puts_eq ks i p x k (by simpa using e)
    rw [puts, this]
    simp
theorem encs_app : ∀ a b : List Doc, encs (a ++ b) = encs a ++ encs b
  | [], b => rfl
  | d :: a, b => by rw [List.cons_append, encs, encs_app a b, encs]; rfl
theorem encs_take : ∀ (ks : List Doc) (i : Nat), (encs ks).take i = encs (ks.take i)
  | [], i => by simp [encs]
  | k :: ks, 0 => by simp [encs]
  | k :: ks, i + 1 => by rw [encs, List.take_succ_cons, encs_take ks i, List.take_succ_cons, encs]
theorem encs_drop : ∀ (ks : List Doc) (i : Nat), (encs ks).drop i = encs (ks.drop i)
  | [], i => by simp [encs]
  | k :: ks, 0 => by simp [encs]
  | k :: ks, i + 1 => by rw [encs, List.drop_succ_cons, encs_drop ks i, List.drop_succ_cons]
theorem law_put_ok (k : Nat) : ∀ (d : Doc) (p : List Nat) (x : Doc) (h : Mem) (s : Doc), p.length < k → sz d ≤ 900 → sub d p = some s → callF prog k i_law_put [enc d, .tup (pD p), enc x] h = .ok (enc (put d p x)) h := by
  induction k with
  | zero => intro d p x h s l; omega
  | succ k ihk =>
    rintro ⟨l, ks⟩ p x h s hk hz hs
    rw [callF_out d_law_put rfl ⟨rfl, by decide⟩, d_law_put]
    cases p with
    | nil =>
      have t0 : evS (prog.cx k (callF prog k)) (.ite (.e (.cmp .eq (.bi .len (.cons (.v 1) .nil)) (.c (.int 0)))) (.cons (.ret (.v 2)) .nil) .nil) [some (enc (.mk l ks)), some (.tup (pD [])), some (enc x), none] h = .rt (enc x) h := by
        simp only [pD, evSs, evS, evE, evL, evT, evTA, evTO, evF, evSrc, evO, evAnd, evOr, asgT, asgTs, cx_glob, cx_call, shal_int, shal_str, shal_tup, shal_lst, shal_non, shal_bl, bin_addi, bin_subi, bin_addt, bin_addl, bin_adds, bin_mod, bin_div, cmp_lt, cmp_le, cmp_gt, cmp_ge, cmp_eqi, cmp_nei, cmp_eqs, cmp_nes, cmp_ins, cmp_nins, cmp_isn, cmp_isns, item_tup, item_lst, bi_lens, bi_lent, bi_lenl, bi_int, bi_intb, bi_abs, bi_max2, bi_tuplel, bi_tuplet, itD, slice, seqD, pure_non, pure_bl, pure_int, pure_str, pure_tup, pure_lst, pures_nil, pures_cons, startF, List.replicate, List.length_cons, List.length_nil, List.set_cons_zero, List.set_cons_succ, List.getElem?_cons_zero, List.getElem?_cons_succ, List.getElem?_nil, Nat.zero_add, Nat.reduceAdd, Nat.reduceSub, Nat.reduceLT, Nat.reduceLeDiff, if_true, Bool.not_true, Bool.not_false, List.map_cons, List.map_nil, List.cons_append, List.nil_append, reduceIte, and_self, and_true, true_and, decide_true, decide_false, Bool.true_and, Bool.and_true, Bool.false_and, Bool.and_false, fin_non, fin_bl, fin_int, fin_str, finX_same', gt_iff_lt, Nat.lt_add_one, Bool.false_eq_true]
        rfl
      refine st_rt t0 ?_
      rw [show put (.mk l ks) [] x = x from by rw [put]]
      exact fin_pure (enc_pure x)
    | cons i p =>
      rw [sub] at hs
      cases q : ks[i]? with
      | none => rw [q] at hs; cases hs
      | some c =>
        rw [q] at hs
        dsimp only at hs
        have il : i < ks.length := (List.getElem?_eq_some_iff.mp q).1
        rw [sz] at hz
        have lk := len_szs ks
        have cm := sz_mem (List.mem_of_getElem? q)
        have call := ihk c p x h s (by simp at hk; omega) (by omega) hs
        have eD : enc (.mk l ks) = .tup (.str l :: encs ks) := by rw [enc]
        have pE : pD (i :: p) = D.int (i : Int) :: pD p := rfl
        have dz : decide ((((pD p).length + 1 : Nat) : Int) = 0) = false := decide_eq_false (by omega)
        have a0 : atI (D.int (i : Int) :: pD p) 0 = some (.int (i : Int)) := atI_nat (i := 0)
        have a1 : atI (D.str l :: encs ks) ((i : Int) + 1) = some (enc c) := by
          have := atI_nat (xs := D.str l :: encs ks) (i := i + 1)
          rw [List.getElem?_cons_succ, encs_get, q] at this
          exact this
        have s1 : cut (D.int (i : Int) :: pD p) (some 1) none = pD p := cut_from (i := 1) (by simp)
        have s2 : cut (D.str l :: encs ks) none (some ((i : Int) + 1)) = .str l :: encs (ks.take i) := by
          have := cut_to (xs := D.str l :: encs ks) (i := i + 1) (by rw [List.length_cons, encs_len]; omega)
          rw [List.take_succ_cons, encs_take] at this
          exact this
        have s3 : cut (D.str l :: encs ks) (some ((i : Int) + 1 + 1)) none = encs (ks.drop (i + 1)) := by
          have := cut_from (xs := D.str l :: encs ks) (i := i + 2) (by rw [List.length_cons, encs_len]; omega)
          rw [List.drop_succ_cons, encs_drop] at this
          exact this
        have l1 : 1 ≤ LIM := by decide
        have n1 : (encs (ks.take i)).length + 1 + 1 ≤ LIM := lim_lt (by rw [encs_len, List.length_take]; omega)
        have n2 : (encs (ks.take i)).length + 1 + 1 + (encs (ks.drop (i + 1))).length ≤ LIM := lim_lt (by rw [encs_len, encs_len, List.length_take, List.length_drop]; omega)
        have n3 : (encs (ks.take i) ++ [enc (put c p x)]).length + 1 + (encs (ks.drop (i + 1))).length ≤ LIM := by rw [List.length_append]; exact n2
        have t0 : evS (prog.cx k (callF prog k)) (.ite (.e (.cmp .eq (.bi .len (.cons (.v 1) .nil)) (.c (.int 0)))) (.cons (.ret (.v 2)) .nil) .nil) [some (enc (.mk l ks)), some (.tup (pD (i :: p))), some (enc x), none] h = .nx [some (enc (.mk l ks)), some (.tup (pD (i :: p))), some (enc x), none] h := by
          simp only [pE, dz, evSs, evS, evE, evL, evT, evTA, evTO, evF, evSrc, evO, evAnd, evOr, asgT, asgTs, cx_glob, cx_call, shal_int, shal_str, shal_tup, shal_lst, shal_non, shal_bl, bin_addi, bin_subi, bin_addt, bin_addl, bin_adds, bin_mod, bin_div, cmp_lt, cmp_le, cmp_gt, cmp_ge, cmp_eqi, cmp_nei, cmp_eqs, cmp_nes, cmp_ins, cmp_nins, cmp_isn, cmp_isns, item_tup, item_lst, bi_lens, bi_lent, bi_lenl, bi_int, bi_intb, bi_abs, bi_max2, bi_tuplel, bi_tuplet, itD, slice, seqD, pure_non, pure_bl, pure_int, pure_str, pure_tup, pure_lst, pures_nil, pures_cons, startF, List.replicate, List.length_cons, List.length_nil, List.set_cons_zero, List.set_cons_succ, List.getElem?_cons_zero, List.getElem?_cons_succ, List.getElem?_nil, Nat.zero_add, Nat.reduceAdd, Nat.reduceSub, Nat.reduceLT, Nat.reduceLeDiff, if_true, Bool.not_true, Bool.not_false, List.map_cons, List.map_nil, List.cons_append, List.nil_append, reduceIte, and_self, and_true, true_and, decide_true, decide_false, Bool.true_and, Bool.and_true, Bool.false_and, Bool.and_false, fin_non, fin_bl, fin_int, fin_str, finX_same', gt_iff_lt, Nat.lt_add_one, Bool.false_eq_true]
        have t1 : evS (prog.cx k (callF prog k)) (.asg (.nm 3) (.bin .add (.ix (.v 1) (.c (.int 0))) (.c (.int 1)))) [some (enc (.mk l ks)), some (.tup (pD (i :: p))), some (enc x), none] h = .nx [some (enc (.mk l ks)), some (.tup (pD (i :: p))), some (enc x), some (.int ((i : Int) + 1))] h := by
          simp only [pE, a0, evSs, evS, evE, evL, evT, evTA, evTO, evF, evSrc, evO, evAnd, evOr, asgT, asgTs, cx_glob, cx_call, shal_int, shal_str, shal_tup, shal_lst, shal_non, shal_bl, bin_addi, bin_subi, bin_addt, bin_addl, bin_adds, bin_mod, bin_div, cmp_lt, cmp_le, cmp_gt, cmp_ge, cmp_eqi, cmp_nei, cmp_eqs, cmp_nes, cmp_ins, cmp_nins, cmp_isn, cmp_isns, item_tup, item_lst, bi_lens, bi_lent, bi_lenl, bi_int, bi_intb, bi_abs, bi_max2, bi_tuplel, bi_tuplet, itD, slice, seqD, pure_non, pure_bl, pure_int, pure_str, pure_tup, pure_lst, pures_nil, pures_cons, startF, List.replicate, List.length_cons, List.length_nil, List.set_cons_zero, List.set_cons_succ, List.getElem?_cons_zero, List.getElem?_cons_succ, List.getElem?_nil, Nat.zero_add, Nat.reduceAdd, Nat.reduceSub, Nat.reduceLT, Nat.reduceLeDiff, if_true, Bool.not_true, Bool.not_false, List.map_cons, List.map_nil, List.cons_append, List.nil_append, reduceIte, and_self, and_true, true_and, decide_true, decide_false, Bool.true_and, Bool.and_true, Bool.false_and, Bool.and_false, fin_non, fin_bl, fin_int, fin_str, finX_same', gt_iff_lt, Nat.lt_add_one, Bool.false_eq_true]
        refine st_nx t0 (st_nx t1 (st_rt (d := enc (put (.mk l ks) (i :: p) x)) (h1 := h) ?_ ?_))
        · rw [put, puts_eq ks i p x c q, show enc (.mk l (ks.take i ++ put c p x :: ks.drop (i + 1))) = .tup (.str l :: (encs (ks.take i) ++ enc (put c p x) :: encs (ks.drop (i + 1)))) from by rw [enc, encs_app, encs]]
          simp only [eD, pE, s1, s2, s3, a1, call, l1, n1, n2, n3, List.append_assoc, evSs, evS, evE, evL, evT, evTA, evTO, evF, evSrc, evO, evAnd, evOr, asgT, asgTs, cx_glob, cx_call, shal_int, shal_str, shal_tup, shal_lst, shal_non, shal_bl, bin_addi, bin_subi, bin_addt, bin_addl, bin_adds, bin_mod, bin_div, cmp_lt, cmp_le, cmp_gt, cmp_ge, cmp_eqi, cmp_nei, cmp_eqs, cmp_nes, cmp_ins, cmp_nins, cmp_isn, cmp_isns, item_tup, item_lst, bi_lens, bi_lent, bi_lenl, bi_int, bi_intb, bi_abs, bi_max2, bi_tuplel, bi_tuplet, itD, slice, seqD, pure_non, pure_bl, pure_int, pure_str, pure_tup, pure_lst, pures_nil, pures_cons, startF, List.replicate, List.length_cons, List.length_nil, List.set_cons_zero, List.set_cons_succ, List.getElem?_cons_zero, List.getElem?_cons_succ, List.getElem?_nil, Nat.zero_add, Nat.reduceAdd, Nat.reduceSub, Nat.reduceLT, Nat.reduceLeDiff, if_true, Bool.not_true, Bool.not_false, List.map_cons, List.map_nil, List.cons_append, List.nil_append, reduceIte, and_self, and_true, true_and, decide_true, decide_false, Bool.true_and, Bool.and_true, Bool.false_and, Bool.and_false, fin_non, fin_bl, fin_int, fin_str, finX_same', gt_iff_lt, Nat.lt_add_one, Bool.false_eq_true]
        · exact fin_pure (enc_pure _)
end K00
end
section
set_option Elab.async false
set_option autoImplicit false
set_option maxRecDepth 100000
set_option linter.all false
namespace K00
open Ev
/-- the state: the stream and the count -/
abbrev stB (is : List Int) (c : Nat) : Ob := .box (.lst [.lst (is.map .int), .int (c : Int)])
structure Is (is : List Int) : Prop where
  ne : is ≠ []
  len : is.length ≤ 100000
theorem hs {h t : Mem} {n : Nat} {a b : Ob} (l : n < h.length) : (h.set n a ++ t).set n b = h.set n b ++ t := by rw [app_set (by simpa using l), List.set_set]
theorem hg {h t : Mem} {n : Nat} {a : Ob} (l : n < h.length) : (h.set n a ++ t)[n]? = some a := by rw [app_get (by simpa using l), set_get l]
theorem nx_ok {k : Nat} (hk : 1 ≤ k) {h : Mem} {n : Nat} {is : List Int} {c : Nat} (hI : Is is) (e : h[n]? = some (stB is c)) (hc : c < 2 ^ 60) {m : Nat} (hm : 0 < m) : ∃ r : Nat, r < m ∧ callF prog k i_law_next [.loc n, .int (m : Int)] h = .ok (.int (r : Int)) (h.set n (stB is (c + 1))) := by
  obtain ⟨j, rfl⟩ : ∃ j, k = j + 1 := ⟨k - 1, by omega⟩
  exact law_next_ok j h n is c m e hI.ne hI.len hc hm
/-- a sign and its rank -/
abbrev Sg := List Nat × Nat
def sgD (x : Sg) : D := .tup [.str x.1, .int (x.2 : Int)]
structure Sgs (sg : List Sg) : Prop where
  len : sg.length ≤ 100
  ok : ∀ x ∈ sg, lab x.1 = true ∧ x.2 ≤ 3
  leaf : ∃ l, (l, 0) ∈ sg
def LdOk (k : Nat) : Prop := ∀ (w : Nat) (h : Mem) (n : Nat) (is : List Int) (c : Nat) (sg : List Sg), 1 ≤ w → w + 1 ≤ k → w ≤ 200 → Is is → Sgs sg → h[n]? = some (stB is c) → c + 4 * w < 2 ^ 60 →
  ∃ (d : Doc) (c' : Nat), callF prog k i_law_document [.loc n, .tup (sg.map sgD), .int (w : Int)] h = .ok (enc d) (h.set n (stB is c')) ∧ c ≤ c' ∧ c' ≤ c + 4 * w ∧ okd d = true ∧ sz d ≤ w
theorem document_loop (k : Nat) (ihk : LdOk k) (n : Nat) (is : List Int) (sg : List Sg) (w rank : Nat) (l : List Nat) (rk lv rw' : D) (h : Mem) (hn : n < h.length) (hI : Is is) (hS : Sgs sg) (hw : w ≤ k) (hw2 : w ≤ 200) :
    ∀ (m j left c : Nat) (acc : List Doc) (o8 o11 : Option D), j + m = rank → m ≤ left → left < w → acc.length + m ≤ 100 → c + m + 4 * left < 2 ^ 60 →
    ∃ (ks : List Doc) (left' c' : Nat) (o8' o11' : Option D), forL (evSs (prog.cx k (callF prog k)) b_law_document_0) (.nm 8) (rngL (j : Int) 1 m)
        [some (.loc n), some (.tup (sg.map sgD)), some (.int (w : Int)), some rk, some lv, some rw', some (.int (left : Int)), some (.loc h.length), o8, some (.str l), some (.int (rank : Int)), o11, none] (h.set n (stB is c) ++ [.box (.lst (encs acc))]) =
      .nx [some (.loc n), some (.tup (sg.map sgD)), some (.int (w : Int)), some rk, some lv, some rw', some (.int (left' : Int)), some (.loc h.length), o8', some (.str l), some (.int (rank : Int)), o11', none] (h.set n (stB is c') ++ [.box (.lst (encs (acc ++ ks)))]) ∧
      ks.length = m ∧ okds ks = true ∧ szs ks + left' ≤ left ∧ c ≤ c' ∧ c' + 4 * left' ≤ c + m + 4 * left := by
  intro m
  induction m with
  | zero => intro j left c acc o8 o11 _ _ _ _ _; exact ⟨[], left, c, o8, o11, by simp [rngL, forL], rfl, rfl, by simp [szs], by omega, by omega⟩
  | succ m ih =>
    intro j left c acc o8 o11 hj hl hlw ha hc
    -- the size of this one
    have own : ∃ (ow c1 : Nat), 1 ≤ ow ∧ ow + m ≤ left ∧ c ≤ c1 ∧ c1 ≤ c + 1 ∧ ∀ rest, evSs (prog.cx k (callF prog k)) b_law_document_0
        [some (.loc n), some (.tup (sg.map sgD)), some (.int (w : Int)), some rk, some lv, some rw', some (.int (left : Int)), some (.loc h.length), some (.int (j : Int)), some (.str l), some (.int (rank : Int)), o11, none] (h.set n (stB is c) ++ [.box (.lst (encs acc))]) = rest →
        rest = evSs (prog.cx k (callF prog k)) (.cons (.expr (.mt .append (.v 7) (.cons (.call i_law_document (.cons (.v 0) (.cons (.v 1) (.cons (.v 11) .nil)))) .nil))) (.cons (.asg (.nm 6) (.bin .sub (.v 6) (.v 11))) .nil))
        [some (.loc n), some (.tup (sg.map sgD)), some (.int (w : Int)), some rk, some lv, some rw', some (.int (left : Int)), some (.loc h.length), some (.int (j : Int)), some (.str l), some (.int (rank : Int)), some (.int (ow : Int)), none] (h.set n (stB is c1) ++ [.box (.lst (encs acc))]) := by
      have e0 : (left : Int) - ((rank : Int) - (j : Int) - 1) = ((left - m : Nat) : Int) := by omega
      have t0 : evS (prog.cx k (callF prog k)) (.asg (.nm 11) (.bin .sub (.v 6) (.bin .sub (.bin .sub (.v 10) (.v 8)) (.c (.int 1)))))
          [some (.loc n), some (.tup (sg.map sgD)), some (.int (w : Int)), some rk, some lv, some rw', some (.int (left : Int)), some (.loc h.length), some (.int (j : Int)), some (.str l), some (.int (rank : Int)), o11, none] (h.set n (stB is c) ++ [.box (.lst (encs acc))]) =
          .nx [some (.loc n), some (.tup (sg.map sgD)), some (.int (w : Int)), some rk, some lv, some rw', some (.int (left : Int)), some (.loc h.length), some (.int (j : Int)), some (.str l), some (.int (rank : Int)), some (.int ((left - m : Nat) : Int)), none] (h.set n (stB is c) ++ [.box (.lst (encs acc))]) := by
        simp only [e0, evSs, evS, evE, evL, evT, evTA, evTO, evF, evSrc, evO, evAnd, evOr, asgT, asgTs, cx_glob, cx_call, shal_int, shal_str, shal_tup, shal_lst, shal_non, shal_bl, bin_addi, bin_subi, bin_addt, bin_addl, bin_adds, bin_mod, bin_div, cmp_lt, cmp_le, cmp_gt, cmp_ge, cmp_eqi, cmp_nei, cmp_eqs, cmp_nes, cmp_ins, cmp_nins, cmp_isn, cmp_isns, item_tup, item_lst, bi_lens, bi_lent, bi_lenl, bi_int, bi_intb, bi_abs, bi_max2, bi_tuplel, bi_tuplet, itD, slice, seqD, pure_non, pure_bl, pure_int, pure_str, pure_tup, pure_lst, pures_nil, pures_cons, startF, List.replicate, List.length_cons, List.length_nil, List.set_cons_zero, List.set_cons_succ, List.getElem?_cons_zero, List.getElem?_cons_succ, List.getElem?_nil, Nat.zero_add, Nat.reduceAdd, Nat.reduceSub, Nat.reduceLT, Nat.reduceLeDiff, if_true, Bool.not_true, Bool.not_false, List.map_cons, List.map_nil, List.cons_append, List.nil_append, reduceIte, and_self, and_true, true_and, decide_true, decide_false, Bool.true_and, Bool.and_true, Bool.false_and, Bool.and_false, fin_non, fin_bl, fin_int, fin_str, finX_same', gt_iff_lt, Nat.lt_add_one, Bool.false_eq_true]
      by_cases z : m = 0
      · refine ⟨left - m, c, by omega, by omega, by omega, by omega, ?_⟩
        rintro rest rfl
        have dz : decide ((j : Int) < (rank : Int) - 1) = false := decide_eq_false (by omega)
        have tt : evT (prog.cx k (callF prog k)) (.e (.cmp .lt (.v 8) (.bin .sub (.v 10) (.c (.int 1)))))
          [some (.loc n), some (.tup (sg.map sgD)), some (.int (w : Int)), some rk, some lv, some rw', some (.int (left : Int)), some (.loc h.length), some (.int (j : Int)), some (.str l), some (.int (rank : Int)), some (.int ((left - m : Nat) : Int)), none] (h.set n (stB is c) ++ [.box (.lst (encs acc))]) = .ok false (h.set n (stB is c) ++ [.box (.lst (encs acc))]) := by
          simp only [dz, evSs, evS, evE, evL, evT, evTA, evTO, evF, evSrc, evO, evAnd, evOr, asgT, asgTs, cx_glob, cx_call, shal_int, shal_str, shal_tup, shal_lst, shal_non, shal_bl, bin_addi, bin_subi, bin_addt, bin_addl, bin_adds, bin_mod, bin_div, cmp_lt, cmp_le, cmp_gt, cmp_ge, cmp_eqi, cmp_nei, cmp_eqs, cmp_nes, cmp_ins, cmp_nins, cmp_isn, cmp_isns, item_tup, item_lst, bi_lens, bi_lent, bi_lenl, bi_int, bi_intb, bi_abs, bi_max2, bi_tuplel, bi_tuplet, itD, slice, seqD, pure_non, pure_bl, pure_int, pure_str, pure_tup, pure_lst, pures_nil, pures_cons, startF, List.replicate, List.length_cons, List.length_nil, List.set_cons_zero, List.set_cons_succ, List.getElem?_cons_zero, List.getElem?_cons_succ, List.getElem?_nil, Nat.zero_add, Nat.reduceAdd, Nat.reduceSub, Nat.reduceLT, Nat.reduceLeDiff, if_true, Bool.not_true, Bool.not_false, List.map_cons, List.map_nil, List.cons_append, List.nil_append, reduceIte, and_self, and_true, true_and, decide_true, decide_false, Bool.true_and, Bool.and_true, Bool.false_and, Bool.and_false, fin_non, fin_bl, fin_int, fin_str, finX_same', gt_iff_lt, Nat.lt_add_one, Bool.false_eq_true]
        rw [b_law_document_0]
        refine sq_nx t0 (sq_nx ?_ rfl)
        rw [evS_ite tt, if_neg (by decide), sq_nil]
      · obtain ⟨r, hr, en⟩ := nx_ok (k := k) (by omega) hI (hg (t := [.box (.lst (encs acc))]) (a := stB is c) hn) (by omega) (show 0 < left - m by omega)
        rw [hs hn] at en
        refine ⟨1 + r, c + 1, by omega, by omega, by omega, by omega, ?_⟩
        rintro rest rfl
        have dz : decide ((j : Int) < (rank : Int) - 1) = true := decide_eq_true (by omega)
        have tt : evT (prog.cx k (callF prog k)) (.e (.cmp .lt (.v 8) (.bin .sub (.v 10) (.c (.int 1)))))
          [some (.loc n), some (.tup (sg.map sgD)), some (.int (w : Int)), some rk, some lv, some rw', some (.int (left : Int)), some (.loc h.length), some (.int (j : Int)), some (.str l), some (.int (rank : Int)), some (.int ((left - m : Nat) : Int)), none] (h.set n (stB is c) ++ [.box (.lst (encs acc))]) = .ok true (h.set n (stB is c) ++ [.box (.lst (encs acc))]) := by
          simp only [dz, evSs, evS, evE, evL, evT, evTA, evTO, evF, evSrc, evO, evAnd, evOr, asgT, asgTs, cx_glob, cx_call, shal_int, shal_str, shal_tup, shal_lst, shal_non, shal_bl, bin_addi, bin_subi, bin_addt, bin_addl, bin_adds, bin_mod, bin_div, cmp_lt, cmp_le, cmp_gt, cmp_ge, cmp_eqi, cmp_nei, cmp_eqs, cmp_nes, cmp_ins, cmp_nins, cmp_isn, cmp_isns, item_tup, item_lst, bi_lens, bi_lent, bi_lenl, bi_int, bi_intb, bi_abs, bi_max2, bi_tuplel, bi_tuplet, itD, slice, seqD, pure_non, pure_bl, pure_int, pure_str, pure_tup, pure_lst, pures_nil, pures_cons, startF, List.replicate, List.length_cons, List.length_nil, List.set_cons_zero, List.set_cons_succ, List.getElem?_cons_zero, List.getElem?_cons_succ, List.getElem?_nil, Nat.zero_add, Nat.reduceAdd, Nat.reduceSub, Nat.reduceLT, Nat.reduceLeDiff, if_true, Bool.not_true, Bool.not_false, List.map_cons, List.map_nil, List.cons_append, List.nil_append, reduceIte, and_self, and_true, true_and, decide_true, decide_false, Bool.true_and, Bool.and_true, Bool.false_and, Bool.and_false, fin_non, fin_bl, fin_int, fin_str, finX_same', gt_iff_lt, Nat.lt_add_one, Bool.false_eq_true]
        have er : (1 : Int) + (r : Int) = ((1 + r : Nat) : Int) := by omega
        have t1 : evS (prog.cx k (callF prog k)) (.asg (.nm 11) (.bin .add (.c (.int 1)) (.call i_law_next (.cons (.v 0) (.cons (.v 11) .nil)))))
          [some (.loc n), some (.tup (sg.map sgD)), some (.int (w : Int)), some rk, some lv, some rw', some (.int (left : Int)), some (.loc h.length), some (.int (j : Int)), some (.str l), some (.int (rank : Int)), some (.int ((left - m : Nat) : Int)), none] (h.set n (stB is c) ++ [.box (.lst (encs acc))]) =
          .nx [some (.loc n), some (.tup (sg.map sgD)), some (.int (w : Int)), some rk, some lv, some rw', some (.int (left : Int)), some (.loc h.length), some (.int (j : Int)), some (.str l), some (.int (rank : Int)), some (.int ((1 + r : Nat) : Int)), none] (h.set n (stB is (c + 1)) ++ [.box (.lst (encs acc))]) := by
          simp only [en, er, evSs, evS, evE, evL, evT, evTA, evTO, evF, evSrc, evO, evAnd, evOr, asgT, asgTs, cx_glob, cx_call, shal_int, shal_str, shal_tup, shal_lst, shal_non, shal_bl, bin_addi, bin_subi, bin_addt, bin_addl, bin_adds, bin_mod, bin_div, cmp_lt, cmp_le, cmp_gt, cmp_ge, cmp_eqi, cmp_nei, cmp_eqs, cmp_nes, cmp_ins, cmp_nins, cmp_isn, cmp_isns, item_tup, item_lst, bi_lens, bi_lent, bi_lenl, bi_int, bi_intb, bi_abs, bi_max2, bi_tuplel, bi_tuplet, itD, slice, seqD, pure_non, pure_bl, pure_int, pure_str, pure_tup, pure_lst, pures_nil, pures_cons, startF, List.replicate, List.length_cons, List.length_nil, List.set_cons_zero, List.set_cons_succ, List.getElem?_cons_zero, List.getElem?_cons_succ, List.getElem?_nil, Nat.zero_add, Nat.reduceAdd, Nat.reduceSub, Nat.reduceLT, Nat.reduceLeDiff, if_true, Bool.not_true, Bool.not_false, List.map_cons, List.map_nil, List.cons_append, List.nil_append, reduceIte, and_self, and_true, true_and, decide_true, decide_false, Bool.true_and, Bool.and_true, Bool.false_and, Bool.and_false, fin_non, fin_bl, fin_int, fin_str, finX_same', gt_iff_lt, Nat.lt_add_one, Bool.false_eq_true]
        rw [b_law_document_0]
        refine sq_nx t0 (sq_nx ?_ rfl)
        rw [evS_ite tt, if_pos rfl]
        exact sq_nx t1 sq_nil
    obtain ⟨ow, c1, w1, w2, w3, w4, run⟩ := own
    obtain ⟨d, c2, ed, q1, q2, q3, q4⟩ := ihk ow (h.set n (stB is c1) ++ [.box (.lst (encs acc))]) n is c1 sg w1 (by omega) (by omega) hI hS (hg hn) (by omega)
    rw [hs hn] at ed
    have hN : (h.set n (stB is c2)).length = h.length := set_len
    have la : (encs acc).length < LIM := lim_lt' (by rw [encs_len]; omega)
    have ga : evL (prog.cx k (callF prog k)) (.cons (.call i_law_document (.cons (.v 0) (.cons (.v 1) (.cons (.v 11) .nil)))) .nil)
        [some (.loc n), some (.tup (sg.map sgD)), some (.int (w : Int)), some rk, some lv, some rw', some (.int (left : Int)), some (.loc h.length), some (.int (j : Int)), some (.str l), some (.int (rank : Int)), some (.int (ow : Int)), none] (h.set n (stB is c1) ++ [.box (.lst (encs acc))]) = .ok [enc d] (h.set n (stB is c2) ++ [.box (.lst (encs acc))]) := by
      simp only [ed, evSs, evS, evE, evL, evT, evTA, evTO, evF, evSrc, evO, evAnd, evOr, asgT, asgTs, cx_glob, cx_call, shal_int, shal_str, shal_tup, shal_lst, shal_non, shal_bl, bin_addi, bin_subi, bin_addt, bin_addl, bin_adds, bin_mod, bin_div, cmp_lt, cmp_le, cmp_gt, cmp_ge, cmp_eqi, cmp_nei, cmp_eqs, cmp_nes, cmp_ins, cmp_nins, cmp_isn, cmp_isns, item_tup, item_lst, bi_lens, bi_lent, bi_lenl, bi_int, bi_intb, bi_abs, bi_max2, bi_tuplel, bi_tuplet, itD, slice, seqD, pure_non, pure_bl, pure_int, pure_str, pure_tup, pure_lst, pures_nil, pures_cons, startF, List.replicate, List.length_cons, List.length_nil, List.set_cons_zero, List.set_cons_succ, List.getElem?_cons_zero, List.getElem?_cons_succ, List.getElem?_nil, Nat.zero_add, Nat.reduceAdd, Nat.reduceSub, Nat.reduceLT, Nat.reduceLeDiff, if_true, Bool.not_true, Bool.not_false, List.map_cons, List.map_nil, List.cons_append, List.nil_append, reduceIte, and_self, and_true, true_and, decide_true, decide_false, Bool.true_and, Bool.and_true, Bool.false_and, Bool.and_false, fin_non, fin_bl, fin_int, fin_str, finX_same', gt_iff_lt, Nat.lt_add_one, Bool.false_eq_true]
    have el : (left : Int) - (ow : Int) = ((left - ow : Nat) : Int) := by omega
    have t3 : evS (prog.cx k (callF prog k)) (.asg (.nm 6) (.bin .sub (.v 6) (.v 11)))
        [some (.loc n), some (.tup (sg.map sgD)), some (.int (w : Int)), some rk, some lv, some rw', some (.int (left : Int)), some (.loc h.length), some (.int (j : Int)), some (.str l), some (.int (rank : Int)), some (.int (ow : Int)), none] (h.set n (stB is c2) ++ [.box (.lst (encs acc ++ [enc d]))]) =
        .nx [some (.loc n), some (.tup (sg.map sgD)), some (.int (w : Int)), some rk, some lv, some rw', some (.int ((left - ow : Nat) : Int)), some (.loc h.length), some (.int (j : Int)), some (.str l), some (.int (rank : Int)), some (.int (ow : Int)), none] (h.set n (stB is c2) ++ [.box (.lst (encs acc ++ [enc d]))]) := by
      simp only [el, evSs, evS, evE, evL, evT, evTA, evTO, evF, evSrc, evO, evAnd, evOr, asgT, asgTs, cx_glob, cx_call, shal_int, shal_str, shal_tup, shal_lst, shal_non, shal_bl, bin_addi, bin_subi, bin_addt, bin_addl, bin_adds, bin_mod, bin_div, cmp_lt, cmp_le, cmp_gt, cmp_ge, cmp_eqi, cmp_nei, cmp_eqs, cmp_nes, cmp_ins, cmp_nins, cmp_isn, cmp_isns, item_tup, item_lst, bi_lens, bi_lent, bi_lenl, bi_int, bi_intb, bi_abs, bi_max2, bi_tuplel, bi_tuplet, itD, slice, seqD, pure_non, pure_bl, pure_int, pure_str, pure_tup, pure_lst, pures_nil, pures_cons, startF, List.replicate, List.length_cons, List.length_nil, List.set_cons_zero, List.set_cons_succ, List.getElem?_cons_zero, List.getElem?_cons_succ, List.getElem?_nil, Nat.zero_add, Nat.reduceAdd, Nat.reduceSub, Nat.reduceLT, Nat.reduceLeDiff, if_true, Bool.not_true, Bool.not_false, List.map_cons, List.map_nil, List.cons_append, List.nil_append, reduceIte, and_self, and_true, true_and, decide_true, decide_false, Bool.true_and, Bool.and_true, Bool.false_and, Bool.and_false, fin_non, fin_bl, fin_int, fin_str, finX_same', gt_iff_lt, Nat.lt_add_one, Bool.false_eq_true]
    have ea : encs acc ++ [enc d] = encs (acc ++ [d]) := by rw [encs_app, encs, encs]
    have hb := run _ rfl
    have t2 := evS_expr (ev_mt (m := .append) (o := .v 7) (ev_v (C := prog.cx k (callF prog k)) (σ := [some (.loc n), some (.tup (sg.map sgD)), some (.int (w : Int)), some rk, some lv, some rw', some (.int (left : Int)), some (.loc h.length), some (.int (j : Int)), some (.str l), some (.int (rank : Int)), some (.int (ow : Int)), none]) rfl) (g1 (by rw [set_len])) ga (mt_append (g1 hN) la))
    rw [s1 hN] at t2
    rw [sq_nx t2 (sq_nx t3 sq_nil), ea] at hb
    obtain ⟨ks, left', c', o8', o11', er, k1, k2, k3, k4, k5⟩ := ih (j + 1) (left - ow) c2 (acc ++ [d]) (some (.int (j : Int))) (some (.int (ow : Int))) (by omega) (by omega) (by omega) (by rw [List.length_append]; simp; omega) (by omega)
    refine ⟨d :: ks, left', c', o8', o11', ?_, by rw [List.length_cons, k1], by rw [okds, q3, k2]; rfl, by rw [szs]; omega, by omega, by omega⟩
    have ei : (j : Int) + 1 = ((j + 1 : Nat) : Int) := by omega
    rw [rngL, forL_nx rfl hb, ei, er, List.append_assoc]
    rfl
end K00
end
section
set_option Elab.async false
set_option autoImplicit false
set_option maxRecDepth 100000
set_option linter.all false
namespace K00
open Ev
theorem okds_szs_len {sg : List Sg} : (sg.map sgD).length = sg.length := by simp
theorem ret_leaf (k : Nat) (hk : 1 ≤ k) {h : Mem} {n : Nat} {is : List Int} {c : Nat} (hI : Is is) (e : h[n]? = some (stB is c)) (hc : c < 2 ^ 60) {σ : Fr} {sg : List Sg} (hS : Sgs sg)
    (e0 : σ[0]? = some (some (.loc n))) (e4 : σ[4]? = some (some (.lst ((sg.filter fun x => decide (x.2 = 0)).map fun x => .str x.1)))) :
    ∃ l : List Nat, lab l = true ∧ evS (prog.cx k (callF prog k)) (.ret (.tup (.cons (.ix (.v 4) (.call i_law_next (.cons (.v 0) (.cons (.bi .len (.cons (.v 4) .nil)) .nil)))) .nil))) σ h = .rt (enc (.mk l [])) (h.set n (stB is (c + 1))) := by
  obtain ⟨l0, m0⟩ := hS.leaf
  have pos : 0 < (sg.filter fun x => decide (x.2 = 0)).length := List.length_pos_iff.mpr (List.ne_nil_of_mem (List.mem_filter.mpr ⟨m0, by simp⟩))
  obtain ⟨r, hr, en⟩ := nx_ok hk hI e hc pos
  have mem := List.getElem_mem hr
  obtain ⟨mem, _⟩ := List.mem_filter.mp mem
  refine ⟨((sg.filter fun x => decide (x.2 = 0))[r]).1, (hS.ok _ mem).1, ?_⟩
  generalize hy : (sg.filter fun x => decide (x.2 = 0)) = ys at *
  have v4 : evE (prog.cx k (callF prog k)) (.v 4) σ h = .ok (.lst (ys.map fun x => .str x.1)) h := ev_v e4
  have ll : biF .len [.lst (ys.map fun x => D.str x.1)] h = some (.int (ys.length : Int)) := by rw [bi_lenl, List.length_map]
  have c1 : evE (prog.cx k (callF prog k)) (.call i_law_next (.cons (.v 0) (.cons (.bi .len (.cons (.v 4) .nil)) .nil))) σ h = .ok (.int (r : Int)) (h.set n (stB is (c + 1))) :=
    evE_callx (ev_cons (ev_v e0) (ev_cons (ev_bi (ev_cons v4 ev_nil) ll) ev_nil)) en
  exact ev_ret (ev_tup (ev_cons (ev_ix v4 c1 (by rw [shal_lst, item_lst, atI_map hr])) ev_nil) (by show 1 ≤ LIM; decide))
theorem law_document_ok (k : Nat) : LdOk k := by
  induction k with
  | zero => intro w h n is c sg h1 h2; omega
  | succ k ihk =>
    intro w h n is c sg w1 wk w2 hI hS e hc
    rw [callF_out d_law_document rfl ⟨rfl, by decide⟩, d_law_document]
    have hn := get_lt e
    have lS : ([] : List D).length + sg.length ≤ LIM := lim_lt (by have := hS.len; simp; omega)
    have fr0 : startF 13 [.loc n, .tup (sg.map sgD), .int (w : Int)] = [some (.loc n), some (.tup (sg.map sgD)), some (.int (w : Int)), none, none, none, none, none, none, none, none, none, none] := rfl
    have src : ∀ (o3 o4 o5 : Option D), evSrc (prog.cx k (callF prog k)) (.it (.v 1)) [some (.loc n), some (.tup (sg.map sgD)), some (.int (w : Int)), o3, o4, o5, none, none, none, none, none, none, none] h = .ok (sg.map sgD) h := by
      intro o3 o4 o5
      simp only [evSs, evS, evE, evL, evT, evTA, evTO, evF, evSrc, evO, evAnd, evOr, asgT, asgTs, cx_glob, cx_call, shal_int, shal_str, shal_tup, shal_lst, shal_non, shal_bl, bin_addi, bin_subi, bin_addt, bin_addl, bin_adds, bin_mod, bin_div, cmp_lt, cmp_le, cmp_gt, cmp_ge, cmp_eqi, cmp_nei, cmp_eqs, cmp_nes, cmp_ins, cmp_nins, cmp_isn, cmp_isns, item_tup, item_lst, bi_lens, bi_lent, bi_lenl, bi_int, bi_intb, bi_abs, bi_max2, bi_tuplel, bi_tuplet, itD, slice, seqD, pure_non, pure_bl, pure_int, pure_str, pure_tup, pure_lst, pures_nil, pures_cons, startF, List.replicate, List.length_cons, List.length_nil, List.set_cons_zero, List.set_cons_succ, List.getElem?_cons_zero, List.getElem?_cons_succ, List.getElem?_nil, Nat.zero_add, Nat.reduceAdd, Nat.reduceSub, Nat.reduceLT, Nat.reduceLeDiff, if_true, Bool.not_true, Bool.not_false, List.map_cons, List.map_nil, List.cons_append, List.nil_append, reduceIte, and_self, and_true, true_and, decide_true, decide_false, Bool.true_and, Bool.and_true, Bool.false_and, Bool.and_false, fin_non, fin_bl, fin_int, fin_str, finX_same', gt_iff_lt, Nat.lt_add_one, Bool.false_eq_true]
    have r0 := lcL_on (elt := evE (prog.cx k (callF prog k)) e_law_document_0) (test := evT (prog.cx k (callF prog k)) .yes) (t := .tp (.cons (.nm 9) (.cons (.nm 10) .nil))) (σ := [some (.loc n), some (.tup (sg.map sgD)), some (.int (w : Int)), none, none, none, none, none, none, none, none, none, none]) (h := h)
      sgD (fun x => .int (x.2 : Int)) (fun _ => true) (fun x => [some (.loc n), some (.tup (sg.map sgD)), some (.int (w : Int)), none, none, none, none, none, none, some (.str x.1), some (.int (x.2 : Int)), none, none]) sg [] (fun x _ => ⟨rfl, by rw [evT], fun _ => ev_v rfl⟩) lS
    rw [List.filter_eq_self.mpr fun _ _ => rfl, List.nil_append] at r0
    have t0 : evS (prog.cx k (callF prog k)) s_law_document_0 [some (.loc n), some (.tup (sg.map sgD)), some (.int (w : Int)), none, none, none, none, none, none, none, none, none, none] h = .nx [some (.loc n), some (.tup (sg.map sgD)), some (.int (w : Int)), some (.lst (sg.map fun x => .int (x.2 : Int))), none, none, none, none, none, none, none, none, none] h :=
      evS_asg (ev_lc (src none none none) r0) rfl
    generalize hrk : D.lst (sg.map fun x => D.int (x.2 : Int)) = rk at t0
    have r1 := lcL_on (elt := evE (prog.cx k (callF prog k)) e_law_document_1) (test := evT (prog.cx k (callF prog k)) c_law_document_0) (t := .tp (.cons (.nm 9) (.cons (.nm 10) .nil))) (σ := [some (.loc n), some (.tup (sg.map sgD)), some (.int (w : Int)), some rk, none, none, none, none, none, none, none, none, none]) (h := h)
      sgD (fun x => .str x.1) (fun x => decide (x.2 = 0)) (fun x => [some (.loc n), some (.tup (sg.map sgD)), some (.int (w : Int)), some rk, none, none, none, none, none, some (.str x.1), some (.int (x.2 : Int)), none, none]) sg [] (fun x _ => ⟨rfl, by
        have d : decide ((x.2 : Int) = 0) = decide (x.2 = 0) := by
          by_cases z : x.2 = 0
          · rw [decide_eq_true z, decide_eq_true (by omega)]
          · rw [decide_eq_false z, decide_eq_false (by omega)]
        simp only [c_law_document_0, d, evSs, evS, evE, evL, evT, evTA, evTO, evF, evSrc, evO, evAnd, evOr, asgT, asgTs, cx_glob, cx_call, shal_int, shal_str, shal_tup, shal_lst, shal_non, shal_bl, bin_addi, bin_subi, bin_addt, bin_addl, bin_adds, bin_mod, bin_div, cmp_lt, cmp_le, cmp_gt, cmp_ge, cmp_eqi, cmp_nei, cmp_eqs, cmp_nes, cmp_ins, cmp_nins, cmp_isn, cmp_isns, item_tup, item_lst, bi_lens, bi_lent, bi_lenl, bi_int, bi_intb, bi_abs, bi_max2, bi_tuplel, bi_tuplet, itD, slice, seqD, pure_non, pure_bl, pure_int, pure_str, pure_tup, pure_lst, pures_nil, pures_cons, startF, List.replicate, List.length_cons, List.length_nil, List.set_cons_zero, List.set_cons_succ, List.getElem?_cons_zero, List.getElem?_cons_succ, List.getElem?_nil, Nat.zero_add, Nat.reduceAdd, Nat.reduceSub, Nat.reduceLT, Nat.reduceLeDiff, if_true, Bool.not_true, Bool.not_false, List.map_cons, List.map_nil, List.cons_append, List.nil_append, reduceIte, and_self, and_true, true_and, decide_true, decide_false, Bool.true_and, Bool.and_true, Bool.false_and, Bool.and_false, fin_non, fin_bl, fin_int, fin_str, finX_same', gt_iff_lt, Nat.lt_add_one, Bool.false_eq_true], fun _ => ev_v rfl⟩) lS
    rw [List.nil_append] at r1
    have t1 : evS (prog.cx k (callF prog k)) s_law_document_1 [some (.loc n), some (.tup (sg.map sgD)), some (.int (w : Int)), some rk, none, none, none, none, none, none, none, none, none] h = .nx [some (.loc n), some (.tup (sg.map sgD)), some (.int (w : Int)), some rk, some (.lst ((sg.filter fun x => decide (x.2 = 0)).map fun x => .str x.1)), none, none, none, none, none, none, none, none] h :=
      evS_asg (ev_lc (src (some rk) none none) r1) rfl
    rw [fr0]
    by_cases hw : w < 2
    · have tt : evT (prog.cx k (callF prog k)) (.or (.cons (.e (.cmp .lt (.v 2) (.c (.int 2)))) (.cons (.e (.cmp .eq (.bi .max1 (.cons (.v 3) .nil)) (.c (.int 0)))) .nil))) [some (.loc n), some (.tup (sg.map sgD)), some (.int (w : Int)), some rk, some (.lst ((sg.filter fun x => decide (x.2 = 0)).map fun x => .str x.1)), none, none, none, none, none, none, none, none] h = .ok true h := by
        have d : decide ((w : Int) < 2) = true := decide_eq_true (by omega)
        simp only [d, evSs, evS, evE, evL, evT, evTA, evTO, evF, evSrc, evO, evAnd, evOr, asgT, asgTs, cx_glob, cx_call, shal_int, shal_str, shal_tup, shal_lst, shal_non, shal_bl, bin_addi, bin_subi, bin_addt, bin_addl, bin_adds, bin_mod, bin_div, cmp_lt, cmp_le, cmp_gt, cmp_ge, cmp_eqi, cmp_nei, cmp_eqs, cmp_nes, cmp_ins, cmp_nins, cmp_isn, cmp_isns, item_tup, item_lst, bi_lens, bi_lent, bi_lenl, bi_int, bi_intb, bi_abs, bi_max2, bi_tuplel, bi_tuplet, itD, slice, seqD, pure_non, pure_bl, pure_int, pure_str, pure_tup, pure_lst, pures_nil, pures_cons, startF, List.replicate, List.length_cons, List.length_nil, List.set_cons_zero, List.set_cons_succ, List.getElem?_cons_zero, List.getElem?_cons_succ, List.getElem?_nil, Nat.zero_add, Nat.reduceAdd, Nat.reduceSub, Nat.reduceLT, Nat.reduceLeDiff, if_true, Bool.not_true, Bool.not_false, List.map_cons, List.map_nil, List.cons_append, List.nil_append, reduceIte, and_self, and_true, true_and, decide_true, decide_false, Bool.true_and, Bool.and_true, Bool.false_and, Bool.and_false, fin_non, fin_bl, fin_int, fin_str, finX_same', gt_iff_lt, Nat.lt_add_one, Bool.false_eq_true]
      have RL := ret_leaf k (by omega) hI e (by omega) (σ := [some (.loc n), some (.tup (sg.map sgD)), some (.int (w : Int)), some rk, some (.lst ((sg.filter fun x => decide (x.2 = 0)).map fun x => .str x.1)), none, none, none, none, none, none, none, none]) hS rfl rfl
      obtain ⟨l, hl, er⟩ := RL
      refine ⟨.mk l [], c + 1, ?_, by omega, by omega, by rw [okd, hl]; rfl, by simp [sz, szs]; omega⟩
      refine st_nx t0 (st_nx t1 (st_rt (d := enc (.mk l [])) (h1 := h.set n (stB is (c + 1))) ?_ ?_))
      · rw [s_law_document_2, evS_ite tt, if_pos rfl]
        exact sq_rt er
      · exact fin_set0 (D.pure_ok _ _ (enc_pure _)) (okB_box (by rw [pures_cons, pure_lst, ints_pure]; rfl))
    · have mx : ∃ M : Int, biF .max1 [rk] h = some (.int M) := by
        obtain ⟨l1, m1⟩ := hS.leaf
        have im := ints_map (fun x : Sg => (x.2 : Int)) sg
        rw [← hrk]
        cases sg with
        | nil => cases m1
        | cons a sg =>
          refine ⟨maxI ((a :: sg).map fun x => (x.2 : Int)), ?_⟩
          rw [List.map_cons (f := fun x : Sg => D.int (x.2 : Int))] at im ⊢
          rw [bi_max1, im]
          rfl
      obtain ⟨M, mx⟩ := mx
      have tt : evT (prog.cx k (callF prog k)) (.or (.cons (.e (.cmp .lt (.v 2) (.c (.int 2)))) (.cons (.e (.cmp .eq (.bi .max1 (.cons (.v 3) .nil)) (.c (.int 0)))) .nil))) [some (.loc n), some (.tup (sg.map sgD)), some (.int (w : Int)), some rk, some (.lst ((sg.filter fun x => decide (x.2 = 0)).map fun x => .str x.1)), none, none, none, none, none, none, none, none] h = .ok (decide (M = 0)) h := by
        have d : decide ((w : Int) < 2) = false := decide_eq_false (by omega)
        simp only [d, mx, evSs, evS, evE, evL, evT, evTA, evTO, evF, evSrc, evO, evAnd, evOr, asgT, asgTs, cx_glob, cx_call, shal_int, shal_str, shal_tup, shal_lst, shal_non, shal_bl, bin_addi, bin_subi, bin_addt, bin_addl, bin_adds, bin_mod, bin_div, cmp_lt, cmp_le, cmp_gt, cmp_ge, cmp_eqi, cmp_nei, cmp_eqs, cmp_nes, cmp_ins, cmp_nins, cmp_isn, cmp_isns, item_tup, item_lst, bi_lens, bi_lent, bi_lenl, bi_int, bi_intb, bi_abs, bi_max2, bi_tuplel, bi_tuplet, itD, slice, seqD, pure_non, pure_bl, pure_int, pure_str, pure_tup, pure_lst, pures_nil, pures_cons, startF, List.replicate, List.length_cons, List.length_nil, List.set_cons_zero, List.set_cons_succ, List.getElem?_cons_zero, List.getElem?_cons_succ, List.getElem?_nil, Nat.zero_add, Nat.reduceAdd, Nat.reduceSub, Nat.reduceLT, Nat.reduceLeDiff, if_true, Bool.not_true, Bool.not_false, List.map_cons, List.map_nil, List.cons_append, List.nil_append, reduceIte, and_self, and_true, true_and, decide_true, decide_false, Bool.true_and, Bool.and_true, Bool.false_and, Bool.and_false, fin_non, fin_bl, fin_int, fin_str, finX_same', gt_iff_lt, Nat.lt_add_one, Bool.false_eq_true]
      by_cases hM : M = 0
      · rw [decide_eq_true hM] at tt
        have RL := ret_leaf k (by omega) hI e (by omega) (σ := [some (.loc n), some (.tup (sg.map sgD)), some (.int (w : Int)), some rk, some (.lst ((sg.filter fun x => decide (x.2 = 0)).map fun x => .str x.1)), none, none, none, none, none, none, none, none]) hS rfl rfl
        obtain ⟨l, hl, er⟩ := RL
        refine ⟨.mk l [], c + 1, ?_, by omega, by omega, by rw [okd, hl]; rfl, by simp [sz, szs]; omega⟩
        refine st_nx t0 (st_nx t1 (st_rt (d := enc (.mk l [])) (h1 := h.set n (stB is (c + 1))) ?_ ?_))
        · rw [s_law_document_2, evS_ite tt, if_pos rfl]
          exact sq_rt er
        · exact fin_set0 (D.pure_ok _ _ (enc_pure _)) (okB_box (by rw [pures_cons, pure_lst, ints_pure]; rfl))
      rw [decide_eq_false hM] at tt
      have t2 : evS (prog.cx k (callF prog k)) s_law_document_2 [some (.loc n), some (.tup (sg.map sgD)), some (.int (w : Int)), some rk, some (.lst ((sg.filter fun x => decide (x.2 = 0)).map fun x => .str x.1)), none, none, none, none, none, none, none, none] h = .nx [some (.loc n), some (.tup (sg.map sgD)), some (.int (w : Int)), some rk, some (.lst ((sg.filter fun x => decide (x.2 = 0)).map fun x => .str x.1)), none, none, none, none, none, none, none, none] h := by
        rw [s_law_document_2, evS_ite tt, if_neg (by decide), sq_nil]
      have r3 := lcL_on (elt := evE (prog.cx k (callF prog k)) e_law_document_2) (test := evT (prog.cx k (callF prog k)) c_law_document_1) (t := .nm 12) (σ := [some (.loc n), some (.tup (sg.map sgD)), some (.int (w : Int)), some rk, some (.lst ((sg.filter fun x => decide (x.2 = 0)).map fun x => .str x.1)), none, none, none, none, none, none, none, none]) (h := h)
        sgD sgD (fun x => decide (0 < x.2) && decide (x.2 < w)) (fun x => [some (.loc n), some (.tup (sg.map sgD)), some (.int (w : Int)), some rk, some (.lst ((sg.filter fun x => decide (x.2 = 0)).map fun x => .str x.1)), none, none, none, none, none, none, none, some (sgD x)]) sg [] (fun x _ => ⟨rfl, by
          have d1 : decide ((0 : Int) < (x.2 : Int)) = decide (0 < x.2) := by
            by_cases z : 0 < x.2
            · rw [decide_eq_true z, decide_eq_true (by omega)]
            · rw [decide_eq_false z, decide_eq_false (by omega)]
          have d2 : decide ((x.2 : Int) < (w : Int)) = decide (x.2 < w) := by
            by_cases z : x.2 < w
            · rw [decide_eq_true z, decide_eq_true (by omega)]
            · rw [decide_eq_false z, decide_eq_false (by omega)]
          have a1 : atI [D.str x.1, .int (x.2 : Int)] 1 = some (.int (x.2 : Int)) := atI_nat (i := 1)
          have i1 : evT (prog.cx k (callF prog k)) (.e (.cmp .gt (.ix (.v 12) (.c (.int 1))) (.c (.int 0)))) [some (.loc n), some (.tup (sg.map sgD)), some (.int (w : Int)), some rk, some (.lst ((sg.filter fun x => decide (x.2 = 0)).map fun x => .str x.1)), none, none, none, none, none, none, none, some (sgD x)] h = .ok (decide (0 < x.2)) h := by
            simp only [sgD, a1, d1, evSs, evS, evE, evL, evT, evTA, evTO, evF, evSrc, evO, evAnd, evOr, asgT, asgTs, cx_glob, cx_call, shal_int, shal_str, shal_tup, shal_lst, shal_non, shal_bl, bin_addi, bin_subi, bin_addt, bin_addl, bin_adds, bin_mod, bin_div, cmp_lt, cmp_le, cmp_gt, cmp_ge, cmp_eqi, cmp_nei, cmp_eqs, cmp_nes, cmp_ins, cmp_nins, cmp_isn, cmp_isns, item_tup, item_lst, bi_lens, bi_lent, bi_lenl, bi_int, bi_intb, bi_abs, bi_max2, bi_tuplel, bi_tuplet, itD, slice, seqD, pure_non, pure_bl, pure_int, pure_str, pure_tup, pure_lst, pures_nil, pures_cons, startF, List.replicate, List.length_cons, List.length_nil, List.set_cons_zero, List.set_cons_succ, List.getElem?_cons_zero, List.getElem?_cons_succ, List.getElem?_nil, Nat.zero_add, Nat.reduceAdd, Nat.reduceSub, Nat.reduceLT, Nat.reduceLeDiff, if_true, Bool.not_true, Bool.not_false, List.map_cons, List.map_nil, List.cons_append, List.nil_append, reduceIte, and_self, and_true, true_and, decide_true, decide_false, Bool.true_and, Bool.and_true, Bool.false_and, Bool.and_false, fin_non, fin_bl, fin_int, fin_str, finX_same', gt_iff_lt, Nat.lt_add_one, Bool.false_eq_true]
          have i2 : evT (prog.cx k (callF prog k)) (.e (.cmp .lt (.ix (.v 12) (.c (.int 1))) (.v 2))) [some (.loc n), some (.tup (sg.map sgD)), some (.int (w : Int)), some rk, some (.lst ((sg.filter fun x => decide (x.2 = 0)).map fun x => .str x.1)), none, none, none, none, none, none, none, some (sgD x)] h = .ok (decide (x.2 < w)) h := by
            simp only [sgD, a1, d2, evSs, evS, evE, evL, evT, evTA, evTO, evF, evSrc, evO, evAnd, evOr, asgT, asgTs, cx_glob, cx_call, shal_int, shal_str, shal_tup, shal_lst, shal_non, shal_bl, bin_addi, bin_subi, bin_addt, bin_addl, bin_adds, bin_mod, bin_div, cmp_lt, cmp_le, cmp_gt, cmp_ge, cmp_eqi, cmp_nei, cmp_eqs, cmp_nes, cmp_ins, cmp_nins, cmp_isn, cmp_isns, item_tup, item_lst, bi_lens, bi_lent, bi_lenl, bi_int, bi_intb, bi_abs, bi_max2, bi_tuplel, bi_tuplet, itD, slice, seqD, pure_non, pure_bl, pure_int, pure_str, pure_tup, pure_lst, pures_nil, pures_cons, startF, List.replicate, List.length_cons, List.length_nil, List.set_cons_zero, List.set_cons_succ, List.getElem?_cons_zero, List.getElem?_cons_succ, List.getElem?_nil, Nat.zero_add, Nat.reduceAdd, Nat.reduceSub, Nat.reduceLT, Nat.reduceLeDiff, if_true, Bool.not_true, Bool.not_false, List.map_cons, List.map_nil, List.cons_append, List.nil_append, reduceIte, and_self, and_true, true_and, decide_true, decide_false, Bool.true_and, Bool.and_true, Bool.false_and, Bool.and_false, fin_non, fin_bl, fin_int, fin_str, finX_same', gt_iff_lt, Nat.lt_add_one, Bool.false_eq_true]
          rw [c_law_document_1]
          cases q : decide (0 < x.2) with
          | true =>
            rw [q] at i1
            rw [evTA2 i1 i2]
            rfl
          | false =>
            rw [q] at i1
            rw [evTA1 i1]
            rfl, fun _ => ev_v rfl⟩) lS
      rw [List.nil_append] at r3
      have t3 : evS (prog.cx k (callF prog k)) s_law_document_3 [some (.loc n), some (.tup (sg.map sgD)), some (.int (w : Int)), some rk, some (.lst ((sg.filter fun x => decide (x.2 = 0)).map fun x => .str x.1)), none, none, none, none, none, none, none, none] h = .nx [some (.loc n), some (.tup (sg.map sgD)), some (.int (w : Int)), some rk, some (.lst ((sg.filter fun x => decide (x.2 = 0)).map fun x => .str x.1)), some (.lst ((sg.filter fun x => decide (0 < x.2) && decide (x.2 < w)).map sgD)), none, none, none, none, none, none, none] h :=
        evS_asg (ev_lc (src (some rk) _ none) r3) rfl
      by_cases hz : (sg.filter fun x => decide (0 < x.2) && decide (x.2 < w)) = []
      · rw [hz] at t3
        have tt4 : evT (prog.cx k (callF prog k)) (.e (.cmp .eq (.bi .len (.cons (.v 5) .nil)) (.c (.int 0)))) [some (.loc n), some (.tup (sg.map sgD)), some (.int (w : Int)), some rk, some (.lst ((sg.filter fun x => decide (x.2 = 0)).map fun x => .str x.1)), some (.lst (([] : List Sg).map sgD)), none, none, none, none, none, none, none] h = .ok true h := by
          simp only [evSs, evS, evE, evL, evT, evTA, evTO, evF, evSrc, evO, evAnd, evOr, asgT, asgTs, cx_glob, cx_call, shal_int, shal_str, shal_tup, shal_lst, shal_non, shal_bl, bin_addi, bin_subi, bin_addt, bin_addl, bin_adds, bin_mod, bin_div, cmp_lt, cmp_le, cmp_gt, cmp_ge, cmp_eqi, cmp_nei, cmp_eqs, cmp_nes, cmp_ins, cmp_nins, cmp_isn, cmp_isns, item_tup, item_lst, bi_lens, bi_lent, bi_lenl, bi_int, bi_intb, bi_abs, bi_max2, bi_tuplel, bi_tuplet, itD, slice, seqD, pure_non, pure_bl, pure_int, pure_str, pure_tup, pure_lst, pures_nil, pures_cons, startF, List.replicate, List.length_cons, List.length_nil, List.set_cons_zero, List.set_cons_succ, List.getElem?_cons_zero, List.getElem?_cons_succ, List.getElem?_nil, Nat.zero_add, Nat.reduceAdd, Nat.reduceSub, Nat.reduceLT, Nat.reduceLeDiff, if_true, Bool.not_true, Bool.not_false, List.map_cons, List.map_nil, List.cons_append, List.nil_append, reduceIte, and_self, and_true, true_and, decide_true, decide_false, Bool.true_and, Bool.and_true, Bool.false_and, Bool.and_false, fin_non, fin_bl, fin_int, fin_str, finX_same', gt_iff_lt, Nat.lt_add_one, Bool.false_eq_true]
          rfl
        have RL := ret_leaf k (by omega) hI e (by omega) (σ := [some (.loc n), some (.tup (sg.map sgD)), some (.int (w : Int)), some rk, some (.lst ((sg.filter fun x => decide (x.2 = 0)).map fun x => .str x.1)), some (.lst (([] : List Sg).map sgD)), none, none, none, none, none, none, none]) hS rfl rfl
        obtain ⟨l, hl, er⟩ := RL
        refine ⟨.mk l [], c + 1, ?_, by omega, by omega, by rw [okd, hl]; rfl, by simp [sz, szs]; omega⟩
        refine st_nx t0 (st_nx t1 (st_nx t2 (st_nx t3 (st_rt (d := enc (.mk l [])) (h1 := h.set n (stB is (c + 1))) ?_ ?_))))
        · rw [s_law_document_4, evS_ite tt4, if_pos rfl]
          exact sq_rt er
        · exact fin_set0 (D.pure_ok _ _ (enc_pure _)) (okB_box (by rw [pures_cons, pure_lst, ints_pure]; rfl))
      generalize hlv : D.lst ((sg.filter fun x => decide (x.2 = 0)).map fun x => D.str x.1) = lv at t1 t2 t3 ⊢
      have pos : 0 < (sg.filter fun x => decide (0 < x.2) && decide (x.2 < w)).length := List.length_pos_iff.mpr hz
      obtain ⟨r, hr, en⟩ := nx_ok (k := k) (by omega) hI e (by omega) pos
      obtain ⟨y, my, hy, ar⟩ : ∃ y : Sg, y ∈ sg ∧ (decide (0 < y.2) && decide (y.2 < w)) = true ∧ atI ((sg.filter fun x => decide (0 < x.2) && decide (x.2 < w)).map sgD) (r : Int) = some (sgD y) :=
        ⟨_, (List.mem_filter.mp (List.getElem_mem hr)).1, (List.mem_filter.mp (List.getElem_mem hr)).2, atI_map hr⟩
      have rl : ((sg.filter fun x => decide (0 < x.2) && decide (x.2 < w)).map sgD).length = (sg.filter fun x => decide (0 < x.2) && decide (x.2 < w)).length := List.length_map ..
      generalize (sg.filter fun x => decide (0 < x.2) && decide (x.2 < w)).length = R at pos en hr rl
      generalize ((sg.filter fun x => decide (0 < x.2) && decide (x.2 < w)).map sgD) = rows at t3 ar rl
      obtain ⟨yl, yr⟩ := y
      obtain ⟨oy, ry⟩ := hS.ok _ my
      simp at hy
      dsimp only at oy ry
      have t4 : evS (prog.cx k (callF prog k)) s_law_document_4 [some (.loc n), some (.tup (sg.map sgD)), some (.int (w : Int)), some rk, some lv, some (.lst rows), none, none, none, none, none, none, none] h = .nx [some (.loc n), some (.tup (sg.map sgD)), some (.int (w : Int)), some rk, some lv, some (.lst rows), none, none, none, none, none, none, none] h := by
        have tt : evT (prog.cx k (callF prog k)) (.e (.cmp .eq (.bi .len (.cons (.v 5) .nil)) (.c (.int 0)))) [some (.loc n), some (.tup (sg.map sgD)), some (.int (w : Int)), some rk, some lv, some (.lst rows), none, none, none, none, none, none, none] h = .ok false h := by
          have d : decide ((rows.length : Int) = 0) = false := decide_eq_false (by omega)
          simp only [d, evSs, evS, evE, evL, evT, evTA, evTO, evF, evSrc, evO, evAnd, evOr, asgT, asgTs, cx_glob, cx_call, shal_int, shal_str, shal_tup, shal_lst, shal_non, shal_bl, bin_addi, bin_subi, bin_addt, bin_addl, bin_adds, bin_mod, bin_div, cmp_lt, cmp_le, cmp_gt, cmp_ge, cmp_eqi, cmp_nei, cmp_eqs, cmp_nes, cmp_ins, cmp_nins, cmp_isn, cmp_isns, item_tup, item_lst, bi_lens, bi_lent, bi_lenl, bi_int, bi_intb, bi_abs, bi_max2, bi_tuplel, bi_tuplet, itD, slice, seqD, pure_non, pure_bl, pure_int, pure_str, pure_tup, pure_lst, pures_nil, pures_cons, startF, List.replicate, List.length_cons, List.length_nil, List.set_cons_zero, List.set_cons_succ, List.getElem?_cons_zero, List.getElem?_cons_succ, List.getElem?_nil, Nat.zero_add, Nat.reduceAdd, Nat.reduceSub, Nat.reduceLT, Nat.reduceLeDiff, if_true, Bool.not_true, Bool.not_false, List.map_cons, List.map_nil, List.cons_append, List.nil_append, reduceIte, and_self, and_true, true_and, decide_true, decide_false, Bool.true_and, Bool.and_true, Bool.false_and, Bool.and_false, fin_non, fin_bl, fin_int, fin_str, finX_same', gt_iff_lt, Nat.lt_add_one, Bool.false_eq_true]
        rw [s_law_document_4, evS_ite tt, if_neg (by decide), sq_nil]
      have t5 : evS (prog.cx k (callF prog k)) s_law_document_5 [some (.loc n), some (.tup (sg.map sgD)), some (.int (w : Int)), some rk, some lv, some (.lst rows), none, none, none, none, none, none, none] h = .nx [some (.loc n), some (.tup (sg.map sgD)), some (.int (w : Int)), some rk, some lv, some (.lst rows), none, none, none, some (.str yl), some (.int (yr : Int)), none, none] (h.set n (stB is (c + 1))) := by
        simp only [s_law_document_5, rl, en, ar, sgD, evSs, evS, evE, evL, evT, evTA, evTO, evF, evSrc, evO, evAnd, evOr, asgT, asgTs, cx_glob, cx_call, shal_int, shal_str, shal_tup, shal_lst, shal_non, shal_bl, bin_addi, bin_subi, bin_addt, bin_addl, bin_adds, bin_mod, bin_div, cmp_lt, cmp_le, cmp_gt, cmp_ge, cmp_eqi, cmp_nei, cmp_eqs, cmp_nes, cmp_ins, cmp_nins, cmp_isn, cmp_isns, item_tup, item_lst, bi_lens, bi_lent, bi_lenl, bi_int, bi_intb, bi_abs, bi_max2, bi_tuplel, bi_tuplet, itD, slice, seqD, pure_non, pure_bl, pure_int, pure_str, pure_tup, pure_lst, pures_nil, pures_cons, startF, List.replicate, List.length_cons, List.length_nil, List.set_cons_zero, List.set_cons_succ, List.getElem?_cons_zero, List.getElem?_cons_succ, List.getElem?_nil, Nat.zero_add, Nat.reduceAdd, Nat.reduceSub, Nat.reduceLT, Nat.reduceLeDiff, if_true, Bool.not_true, Bool.not_false, List.map_cons, List.map_nil, List.cons_append, List.nil_append, reduceIte, and_self, and_true, true_and, decide_true, decide_false, Bool.true_and, Bool.and_true, Bool.false_and, Bool.and_false, fin_non, fin_bl, fin_int, fin_str, finX_same', gt_iff_lt, Nat.lt_add_one, Bool.false_eq_true]
      have wl : (w : Int) - 1 = ((w - 1 : Nat) : Int) := by omega
      have t6 : evS (prog.cx k (callF prog k)) s_law_document_6 [some (.loc n), some (.tup (sg.map sgD)), some (.int (w : Int)), some rk, some lv, some (.lst rows), none, none, none, some (.str yl), some (.int (yr : Int)), none, none] (h.set n (stB is (c + 1))) = .nx [some (.loc n), some (.tup (sg.map sgD)), some (.int (w : Int)), some rk, some lv, some (.lst rows), some (.int ((w - 1 : Nat) : Int)), none, none, some (.str yl), some (.int (yr : Int)), none, none] (h.set n (stB is (c + 1))) := by
        simp only [s_law_document_6, wl, evSs, evS, evE, evL, evT, evTA, evTO, evF, evSrc, evO, evAnd, evOr, asgT, asgTs, cx_glob, cx_call, shal_int, shal_str, shal_tup, shal_lst, shal_non, shal_bl, bin_addi, bin_subi, bin_addt, bin_addl, bin_adds, bin_mod, bin_div, cmp_lt, cmp_le, cmp_gt, cmp_ge, cmp_eqi, cmp_nei, cmp_eqs, cmp_nes, cmp_ins, cmp_nins, cmp_isn, cmp_isns, item_tup, item_lst, bi_lens, bi_lent, bi_lenl, bi_int, bi_intb, bi_abs, bi_max2, bi_tuplel, bi_tuplet, itD, slice, seqD, pure_non, pure_bl, pure_int, pure_str, pure_tup, pure_lst, pures_nil, pures_cons, startF, List.replicate, List.length_cons, List.length_nil, List.set_cons_zero, List.set_cons_succ, List.getElem?_cons_zero, List.getElem?_cons_succ, List.getElem?_nil, Nat.zero_add, Nat.reduceAdd, Nat.reduceSub, Nat.reduceLT, Nat.reduceLeDiff, if_true, Bool.not_true, Bool.not_false, List.map_cons, List.map_nil, List.cons_append, List.nil_append, reduceIte, and_self, and_true, true_and, decide_true, decide_false, Bool.true_and, Bool.and_true, Bool.false_and, Bool.and_false, fin_non, fin_bl, fin_int, fin_str, finX_same', gt_iff_lt, Nat.lt_add_one, Bool.false_eq_true]
      have t7 : evS (prog.cx k (callF prog k)) s_law_document_7 [some (.loc n), some (.tup (sg.map sgD)), some (.int (w : Int)), some rk, some lv, some (.lst rows), some (.int ((w - 1 : Nat) : Int)), none, none, some (.str yl), some (.int (yr : Int)), none, none] (h.set n (stB is (c + 1))) = .nx [some (.loc n), some (.tup (sg.map sgD)), some (.int (w : Int)), some rk, some lv, some (.lst rows), some (.int ((w - 1 : Nat) : Int)), some (.loc h.length), none, some (.str yl), some (.int (yr : Int)), none, none] (h.set n (stB is (c + 1)) ++ [.box (.lst [])]) := by
        have l0 : 0 ≤ LIM := by decide
        have sl : (h.set n (stB is (c + 1))).length = h.length := set_len
        simp only [s_law_document_7, l0, sl, evSs, evS, evE, evL, evT, evTA, evTO, evF, evSrc, evO, evAnd, evOr, asgT, asgTs, cx_glob, cx_call, shal_int, shal_str, shal_tup, shal_lst, shal_non, shal_bl, bin_addi, bin_subi, bin_addt, bin_addl, bin_adds, bin_mod, bin_div, cmp_lt, cmp_le, cmp_gt, cmp_ge, cmp_eqi, cmp_nei, cmp_eqs, cmp_nes, cmp_ins, cmp_nins, cmp_isn, cmp_isns, item_tup, item_lst, bi_lens, bi_lent, bi_lenl, bi_int, bi_intb, bi_abs, bi_max2, bi_tuplel, bi_tuplet, itD, slice, seqD, pure_non, pure_bl, pure_int, pure_str, pure_tup, pure_lst, pures_nil, pures_cons, startF, List.replicate, List.length_cons, List.length_nil, List.set_cons_zero, List.set_cons_succ, List.getElem?_cons_zero, List.getElem?_cons_succ, List.getElem?_nil, Nat.zero_add, Nat.reduceAdd, Nat.reduceSub, Nat.reduceLT, Nat.reduceLeDiff, if_true, Bool.not_true, Bool.not_false, List.map_cons, List.map_nil, List.cons_append, List.nil_append, reduceIte, and_self, and_true, true_and, decide_true, decide_false, Bool.true_and, Bool.and_true, Bool.false_and, Bool.and_false, fin_non, fin_bl, fin_int, fin_str, finX_same', gt_iff_lt, Nat.lt_add_one, Bool.false_eq_true]
      obtain ⟨ks, left', c', o8', o11', er, k1, k2, k3, k4, k5⟩ := document_loop k ihk n is sg w yr yl rk lv (.lst rows) h hn hI hS (by omega) w2 yr 0 (w - 1) (c + 1) [] none none (by omega) (by omega) (by omega) (by simp; omega) (by omega)
      have ea : evL (prog.cx k (callF prog k)) (.cons (.v 10) .nil) [some (.loc n), some (.tup (sg.map sgD)), some (.int (w : Int)), some rk, some lv, some (.lst rows), some (.int ((w - 1 : Nat) : Int)), some (.loc h.length), none, some (.str yl), some (.int (yr : Int)), none, none] (h.set n (stB is (c + 1)) ++ [.box (.lst [])]) = .ok [.int (yr : Int)] (h.set n (stB is (c + 1)) ++ [.box (.lst [])]) := ev_cons (ev_v rfl) ev_nil
      have t8 := (evS_for (evSrc_rng ea (rng_len (n := yr) (by omega)))).trans er
      rw [List.nil_append] at t8
      refine ⟨.mk yl ks, c', ?_, by omega, by omega, by rw [okd, oy, k2]; simp; omega, by rw [sz]; omega⟩
      have hsh : shal (h.set n (stB is c') ++ [.box (.lst (encs ks))]) (.loc h.length) = .lst (encs ks) := shal_box (g1 (by rw [set_len]))
      have tup : biF .tuple_ [.loc h.length] (h.set n (stB is c') ++ [.box (.lst (encs ks))]) = some (.tup (encs ks)) := bi_tupleb (g1 (by rw [set_len]))
      have l1 : 1 ≤ LIM := by decide
      have ln : 1 + (encs ks).length ≤ LIM := lim_lt (by rw [encs_len]; omega)
      refine st_nx t0 (st_nx t1 (st_nx t2 (st_nx t3 (st_nx t4 (st_nx t5 (st_nx t6 (st_nx t7 (st_nx t8 (st_rt (d := enc (.mk yl ks)) (h1 := h.set n (stB is c') ++ [.box (.lst (encs ks))]) ?_ ?_)))))))))
      · rw [show enc (.mk yl ks) = .tup (.str yl :: encs ks) from by rw [enc]]
        simp only [s_law_document_9, tup, l1, ln, evSs, evS, evE, evL, evT, evTA, evTO, evF, evSrc, evO, evAnd, evOr, asgT, asgTs, cx_glob, cx_call, shal_int, shal_str, shal_tup, shal_lst, shal_non, shal_bl, bin_addi, bin_subi, bin_addt, bin_addl, bin_adds, bin_mod, bin_div, cmp_lt, cmp_le, cmp_gt, cmp_ge, cmp_eqi, cmp_nei, cmp_eqs, cmp_nes, cmp_ins, cmp_nins, cmp_isn, cmp_isns, item_tup, item_lst, bi_lens, bi_lent, bi_lenl, bi_int, bi_intb, bi_abs, bi_max2, bi_tuplel, bi_tuplet, itD, slice, seqD, pure_non, pure_bl, pure_int, pure_str, pure_tup, pure_lst, pures_nil, pures_cons, startF, List.replicate, List.length_cons, List.length_nil, List.set_cons_zero, List.set_cons_succ, List.getElem?_cons_zero, List.getElem?_cons_succ, List.getElem?_nil, Nat.zero_add, Nat.reduceAdd, Nat.reduceSub, Nat.reduceLT, Nat.reduceLeDiff, if_true, Bool.not_true, Bool.not_false, List.map_cons, List.map_nil, List.cons_append, List.nil_append, reduceIte, and_self, and_true, true_and, decide_true, decide_false, Bool.true_and, Bool.and_true, Bool.false_and, Bool.and_false, fin_non, fin_bl, fin_int, fin_str, finX_same', gt_iff_lt, Nat.lt_add_one, Bool.false_eq_true]
      · exact fin_set (D.pure_ok _ _ (enc_pure _)) (okB_box (by rw [pures_cons, pure_lst, ints_pure]; rfl))
end K00
end
section
set_option Elab.async false
set_option autoImplicit false
set_option maxRecDepth 100000
set_option linter.all false
namespace K00
open Ev
def ex : Nat → Nat → Doc
  | 0, _ => .mk [97] []
  | f + 1, n => if n = 1 then .mk [97] [] else if n < 4 then .mk [103] [ex f (n - 1)] else .mk [102] [ex f ((n - 1) / 3), ex f ((n - 1) / 3), ex f (n - 1 - 2 * ((n - 1) / 3))]
theorem ex_same : ∀ (f f' n : Nat), 1 ≤ n → n ≤ f → n ≤ f' → ex f n = ex f' n
  | 0, _, n, h1, h2, _ => by omega
  | f + 1, 0, n, h1, _, h3 => by omega
  | f + 1, f' + 1, n, h1, h2, h3 => by
    rw [ex, ex]
    split
    · rfl
    · split
      · rw [ex_same f f' (n - 1) (by omega) (by omega) (by omega)]
      · rw [ex_same f f' ((n - 1) / 3) (by omega) (by omega) (by omega), ex_same f f' (n - 1 - 2 * ((n - 1) / 3)) (by omega) (by omega) (by omega)]
theorem ex_sz : ∀ (f n : Nat), 1 ≤ n → n ≤ f → sz (ex f n) = n
  | 0, n, h1, h2 => by omega
  | f + 1, n, h1, h2 => by
    rw [ex]
    split
    · simp [sz, szs]; omega
    · split
      · have := ex_sz f (n - 1) (by omega) (by omega)
        simp only [sz, szs, this]
        omega
      · have a := ex_sz f ((n - 1) / 3) (by omega) (by omega)
        have b := ex_sz f (n - 1 - 2 * ((n - 1) / 3)) (by omega) (by omega)
        simp only [sz, szs, a, b]
        omega
theorem ex_ok : ∀ (f n : Nat), okd (ex f n) = true
  | 0, n => by rw [ex]; decide
  | f + 1, n => by
    have l1 : lab [103] = true := by decide
    have l2 : lab [102] = true := by decide
    rw [ex]
    split
    · decide
    · split
      · rw [okd, okds, ex_ok f, okds, l1]; rfl
      · rw [okd, okds, okds, okds, ex_ok f, ex_ok f, okds, l2]; rfl
theorem ex_dp (j : Nat) : ∀ (f n : Nat), 1 ≤ n → n ≤ f → n ≤ 3 * 2 ^ j → dp (ex f n) ≤ j + 2 := by
  induction j with
  | zero =>
    intro f n h1 h2 h
    have a := ex_sz f n h1 h2
    have b := dp_sz (ex f n)
    rw [Nat.pow_zero] at h
    omega
  | succ j ih =>
    intro f n h1 h2 h
    rw [Nat.pow_succ] at h
    have p : 1 ≤ 2 ^ j := Nat.one_le_two_pow
    match f with
    | 0 => omega
    | f + 1 =>
      rw [ex]
      split
      · exact Nat.le_trans (by decide : dp (.mk [97] []) ≤ 0) (Nat.zero_le _)
      · split
        · have := ih f (n - 1) (by omega) (by omega) (by omega)
          simp only [dp, dps]
          omega
        · have a := ih f ((n - 1) / 3) (by omega) (by omega) (by omega)
          have b := ih f (n - 1 - 2 * ((n - 1) / 3)) (by omega) (by omega) (by omega)
          simp only [dp, dps]
          omega
theorem law_exact_ok (k : Nat) : ∀ (n : Nat) (h : Mem), 1 ≤ n → n ≤ k → n ≤ 1000 → callF prog k i_law_exact [.int (n : Int)] h = .ok (enc (ex k n)) h := by
  induction k with
  | zero => intro n h h1 h2; omega
  | succ k ihk =>
    intro n h h1 h2 h3
    rw [callF_out d_law_exact rfl ⟨rfl, by decide⟩, d_law_exact, ex]
    have l1 : 1 ≤ LIM := by decide
    have l2 : 2 ≤ LIM := by decide
    have l4 : 4 ≤ LIM := by decide
    have fr0 : startF 2 [.int (n : Int)] = [some (.int (n : Int)), none] := rfl
    by_cases z1 : n = 1
    · rw [if_pos z1]
      subst z1
      refine st_rt (d := enc (.mk [97] [])) (h1 := h) ?_ (fin_pure (enc_pure _))
      have d : decide (((1 : Nat) : Int) = 1) = true := by decide
      simp only [enc, encs, l1, d, evSs, evS, evE, evL, evT, evTA, evTO, evF, evSrc, evO, evAnd, evOr, asgT, asgTs, cx_glob, cx_call, shal_int, shal_str, shal_tup, shal_lst, shal_non, shal_bl, bin_addi, bin_subi, bin_addt, bin_addl, bin_adds, bin_mod, bin_div, cmp_lt, cmp_le, cmp_gt, cmp_ge, cmp_eqi, cmp_nei, cmp_eqs, cmp_nes, cmp_ins, cmp_nins, cmp_isn, cmp_isns, item_tup, item_lst, bi_lens, bi_lent, bi_lenl, bi_int, bi_intb, bi_abs, bi_max2, bi_tuplel, bi_tuplet, itD, slice, seqD, pure_non, pure_bl, pure_int, pure_str, pure_tup, pure_lst, pures_nil, pures_cons, startF, List.replicate, List.length_cons, List.length_nil, List.set_cons_zero, List.set_cons_succ, List.getElem?_cons_zero, List.getElem?_cons_succ, List.getElem?_nil, Nat.zero_add, Nat.reduceAdd, Nat.reduceSub, Nat.reduceLT, Nat.reduceLeDiff, if_true, Bool.not_true, Bool.not_false, List.map_cons, List.map_nil, List.cons_append, List.nil_append, reduceIte, and_self, and_true, true_and, decide_true, decide_false, Bool.true_and, Bool.and_true, Bool.false_and, Bool.and_false, fin_non, fin_bl, fin_int, fin_str, finX_same', gt_iff_lt, Nat.lt_add_one, Bool.false_eq_true]
    · rw [if_neg z1]
      have t0 : evS (prog.cx k (callF prog k)) (.ite (.e (.cmp .eq (.v 0) (.c (.int 1)))) (.cons (.ret (.tup (.cons (.c (.str [97])) .nil))) .nil) .nil) [some (.int (n : Int)), none] h = .nx [some (.int (n : Int)), none] h := by
        have d : decide ((n : Int) = 1) = false := decide_eq_false (by omega)
        simp only [d, evSs, evS, evE, evL, evT, evTA, evTO, evF, evSrc, evO, evAnd, evOr, asgT, asgTs, cx_glob, cx_call, shal_int, shal_str, shal_tup, shal_lst, shal_non, shal_bl, bin_addi, bin_subi, bin_addt, bin_addl, bin_adds, bin_mod, bin_div, cmp_lt, cmp_le, cmp_gt, cmp_ge, cmp_eqi, cmp_nei, cmp_eqs, cmp_nes, cmp_ins, cmp_nins, cmp_isn, cmp_isns, item_tup, item_lst, bi_lens, bi_lent, bi_lenl, bi_int, bi_intb, bi_abs, bi_max2, bi_tuplel, bi_tuplet, itD, slice, seqD, pure_non, pure_bl, pure_int, pure_str, pure_tup, pure_lst, pures_nil, pures_cons, startF, List.replicate, List.length_cons, List.length_nil, List.set_cons_zero, List.set_cons_succ, List.getElem?_cons_zero, List.getElem?_cons_succ, List.getElem?_nil, Nat.zero_add, Nat.reduceAdd, Nat.reduceSub, Nat.reduceLT, Nat.reduceLeDiff, if_true, Bool.not_true, Bool.not_false, List.map_cons, List.map_nil, List.cons_append, List.nil_append, reduceIte, and_self, and_true, true_and, decide_true, decide_false, Bool.true_and, Bool.and_true, Bool.false_and, Bool.and_false, fin_non, fin_bl, fin_int, fin_str, finX_same', gt_iff_lt, Nat.lt_add_one, Bool.false_eq_true]
      by_cases z2 : n < 4
      · rw [if_pos z2]
        have call := ihk (n - 1) h (by omega) (by omega) (by omega)
        have en : ((n - 1 : Nat) : Int) = (n : Int) - 1 := by omega
        rw [en] at call
        refine st_nx t0 (st_rt (d := enc (.mk [103] [ex k (n - 1)])) (h1 := h) ?_ (fin_pure (enc_pure _)))
        have d : decide ((n : Int) < 4) = true := decide_eq_true (by omega)
        rw [show enc (.mk [103] [ex k (n - 1)]) = .tup [.str [103], enc (ex k (n - 1))] from by rw [enc, encs, encs]]
        simp only [l2, d, call, evSs, evS, evE, evL, evT, evTA, evTO, evF, evSrc, evO, evAnd, evOr, asgT, asgTs, cx_glob, cx_call, shal_int, shal_str, shal_tup, shal_lst, shal_non, shal_bl, bin_addi, bin_subi, bin_addt, bin_addl, bin_adds, bin_mod, bin_div, cmp_lt, cmp_le, cmp_gt, cmp_ge, cmp_eqi, cmp_nei, cmp_eqs, cmp_nes, cmp_ins, cmp_nins, cmp_isn, cmp_isns, item_tup, item_lst, bi_lens, bi_lent, bi_lenl, bi_int, bi_intb, bi_abs, bi_max2, bi_tuplel, bi_tuplet, itD, slice, seqD, pure_non, pure_bl, pure_int, pure_str, pure_tup, pure_lst, pures_nil, pures_cons, startF, List.replicate, List.length_cons, List.length_nil, List.set_cons_zero, List.set_cons_succ, List.getElem?_cons_zero, List.getElem?_cons_succ, List.getElem?_nil, Nat.zero_add, Nat.reduceAdd, Nat.reduceSub, Nat.reduceLT, Nat.reduceLeDiff, if_true, Bool.not_true, Bool.not_false, List.map_cons, List.map_nil, List.cons_append, List.nil_append, reduceIte, and_self, and_true, true_and, decide_true, decide_false, Bool.true_and, Bool.and_true, Bool.false_and, Bool.and_false, fin_non, fin_bl, fin_int, fin_str, finX_same', gt_iff_lt, Nat.lt_add_one, Bool.false_eq_true]
      · rw [if_neg z2]
        have c1 := ihk ((n - 1) / 3) h (by omega) (by omega) (by omega)
        have c2 := ihk (n - 1 - 2 * ((n - 1) / 3)) h (by omega) (by omega) (by omega)
        have m2 : binop .mul (.int 2) (.int (((n - 1) / 3 : Nat) : Int)) = some (.int (2 * (((n - 1) / 3 : Nat) : Int))) := mul_l (by decide)
        have e2 : (n : Int) - 1 - 2 * (((n - 1) / 3 : Nat) : Int) = ((n - 1 - 2 * ((n - 1) / 3) : Nat) : Int) := by omega
        have e1 : ((n : Int) - 1) / 3 = (((n - 1) / 3 : Nat) : Int) := by omega
        have p3 : (0 : Int) < 3 ∧ (3 : Int) < 1073741824 := by decide
        have t1 : evS (prog.cx k (callF prog k)) (.ite (.e (.cmp .lt (.v 0) (.c (.int 4)))) (.cons (.ret (.tup (.cons (.c (.str [103])) (.cons (.call i_law_exact (.cons (.bin .sub (.v 0) (.c (.int 1))) .nil)) .nil)))) .nil) .nil) [some (.int (n : Int)), none] h = .nx [some (.int (n : Int)), none] h := by
          have d : decide ((n : Int) < 4) = false := decide_eq_false (by omega)
          simp only [d, evSs, evS, evE, evL, evT, evTA, evTO, evF, evSrc, evO, evAnd, evOr, asgT, asgTs, cx_glob, cx_call, shal_int, shal_str, shal_tup, shal_lst, shal_non, shal_bl, bin_addi, bin_subi, bin_addt, bin_addl, bin_adds, bin_mod, bin_div, cmp_lt, cmp_le, cmp_gt, cmp_ge, cmp_eqi, cmp_nei, cmp_eqs, cmp_nes, cmp_ins, cmp_nins, cmp_isn, cmp_isns, item_tup, item_lst, bi_lens, bi_lent, bi_lenl, bi_int, bi_intb, bi_abs, bi_max2, bi_tuplel, bi_tuplet, itD, slice, seqD, pure_non, pure_bl, pure_int, pure_str, pure_tup, pure_lst, pures_nil, pures_cons, startF, List.replicate, List.length_cons, List.length_nil, List.set_cons_zero, List.set_cons_succ, List.getElem?_cons_zero, List.getElem?_cons_succ, List.getElem?_nil, Nat.zero_add, Nat.reduceAdd, Nat.reduceSub, Nat.reduceLT, Nat.reduceLeDiff, if_true, Bool.not_true, Bool.not_false, List.map_cons, List.map_nil, List.cons_append, List.nil_append, reduceIte, and_self, and_true, true_and, decide_true, decide_false, Bool.true_and, Bool.and_true, Bool.false_and, Bool.and_false, fin_non, fin_bl, fin_int, fin_str, finX_same', gt_iff_lt, Nat.lt_add_one, Bool.false_eq_true]
        have t2 : evS (prog.cx k (callF prog k)) (.asg (.nm 1) (.bin .fdiv (.bin .sub (.v 0) (.c (.int 1))) (.c (.int 3)))) [some (.int (n : Int)), none] h = .nx [some (.int (n : Int)), some (.int (((n - 1) / 3 : Nat) : Int))] h := by
          simp only [e1, p3, evSs, evS, evE, evL, evT, evTA, evTO, evF, evSrc, evO, evAnd, evOr, asgT, asgTs, cx_glob, cx_call, shal_int, shal_str, shal_tup, shal_lst, shal_non, shal_bl, bin_addi, bin_subi, bin_addt, bin_addl, bin_adds, bin_mod, bin_div, cmp_lt, cmp_le, cmp_gt, cmp_ge, cmp_eqi, cmp_nei, cmp_eqs, cmp_nes, cmp_ins, cmp_nins, cmp_isn, cmp_isns, item_tup, item_lst, bi_lens, bi_lent, bi_lenl, bi_int, bi_intb, bi_abs, bi_max2, bi_tuplel, bi_tuplet, itD, slice, seqD, pure_non, pure_bl, pure_int, pure_str, pure_tup, pure_lst, pures_nil, pures_cons, startF, List.replicate, List.length_cons, List.length_nil, List.set_cons_zero, List.set_cons_succ, List.getElem?_cons_zero, List.getElem?_cons_succ, List.getElem?_nil, Nat.zero_add, Nat.reduceAdd, Nat.reduceSub, Nat.reduceLT, Nat.reduceLeDiff, if_true, Bool.not_true, Bool.not_false, List.map_cons, List.map_nil, List.cons_append, List.nil_append, reduceIte, and_self, and_true, true_and, decide_true, decide_false, Bool.true_and, Bool.and_true, Bool.false_and, Bool.and_false, fin_non, fin_bl, fin_int, fin_str, finX_same', gt_iff_lt, Nat.lt_add_one, Bool.false_eq_true]
        refine st_nx t0 (st_nx t1 (st_nx t2 (st_rt (d := enc (.mk [102] [ex k ((n - 1) / 3), ex k ((n - 1) / 3), ex k (n - 1 - 2 * ((n - 1) / 3))])) (h1 := h) ?_ (fin_pure (enc_pure _)))))
        generalize (n - 1) / 3 = t at c1 c2 m2 e2 ⊢
        generalize ex k t = x1 at c1 ⊢
        generalize n - 1 - 2 * t = u at c2 e2 ⊢
        generalize ex k u = x2 at c2 ⊢
        rw [show enc (.mk [102] [x1, x1, x2]) = .tup [.str [102], enc x1, enc x1, enc x2] from by rw [enc, encs, encs, encs, encs]]
        simp only [l4, m2, e2, c1, c2, evSs, evS, evE, evL, evT, evTA, evTO, evF, evSrc, evO, evAnd, evOr, asgT, asgTs, cx_glob, cx_call, shal_int, shal_str, shal_tup, shal_lst, shal_non, shal_bl, bin_addi, bin_subi, bin_addt, bin_addl, bin_adds, bin_mod, bin_div, cmp_lt, cmp_le, cmp_gt, cmp_ge, cmp_eqi, cmp_nei, cmp_eqs, cmp_nes, cmp_ins, cmp_nins, cmp_isn, cmp_isns, item_tup, item_lst, bi_lens, bi_lent, bi_lenl, bi_int, bi_intb, bi_abs, bi_max2, bi_tuplel, bi_tuplet, itD, slice, seqD, pure_non, pure_bl, pure_int, pure_str, pure_tup, pure_lst, pures_nil, pures_cons, startF, List.replicate, List.length_cons, List.length_nil, List.set_cons_zero, List.set_cons_succ, List.getElem?_cons_zero, List.getElem?_cons_succ, List.getElem?_nil, Nat.zero_add, Nat.reduceAdd, Nat.reduceSub, Nat.reduceLT, Nat.reduceLeDiff, if_true, Bool.not_true, Bool.not_false, List.map_cons, List.map_nil, List.cons_append, List.nil_append, reduceIte, and_self, and_true, true_and, decide_true, decide_false, Bool.true_and, Bool.and_true, Bool.false_and, Bool.and_false, fin_non, fin_bl, fin_int, fin_str, finX_same', gt_iff_lt, Nat.lt_add_one, Bool.false_eq_true]
end K00
namespace K00
open Ev
theorem sgD_inj {x y : Sg} (h : sgD x = sgD y) : x = y := by
  obtain ⟨a, b⟩ := x
  obtain ⟨c, d⟩ := y
  unfold sgD at h
  injection h with h
  injection h with h1 h2
  injection h1 with h1
  injection h2 with h2
  injection h2 with h2
  simp only at h1 h2
  subst h1
  have : b = d := by omega
  rw [this]
theorem sg_list : ∀ {ys : List D} {sg : List Sg}, (∀ y ∈ ys, y ∈ sg.map sgD) → ∃ sg' : List Sg, ys = sg'.map sgD ∧ ∀ x ∈ sg', x ∈ sg
  | [], sg, _ => ⟨[], rfl, fun _ h => by cases h⟩
  | y :: ys, sg, h => by
    obtain ⟨x, hx, e⟩ := List.mem_map.mp (h y List.mem_cons_self)
    obtain ⟨sg', e', m⟩ := sg_list (ys := ys) (sg := sg) fun z hz => h z (List.mem_cons_of_mem _ hz)
    refine ⟨x :: sg', by rw [List.map_cons, e, ← e'], ?_⟩
    intro z hz
    rcases List.mem_cons.mp hz with q | q
    · subst q; exact hx
    · exact m z q
theorem sg_sort {sg : List Sg} (hS : Sgs sg) : ∃ sg' : List Sg, sortD (sg.map sgD) = sg'.map sgD ∧ Sgs sg' := by
  have pm : (sortD (sg.map sgD)).Perm (sg.map sgD) := List.mergeSort_perm ..
  obtain ⟨sg', e, m⟩ := sg_list (ys := sortD (sg.map sgD)) (sg := sg) fun y hy => pm.mem_iff.mp hy
  have back : ∀ x ∈ sg, x ∈ sg' := by
    intro x hx
    have := pm.mem_iff.mpr (List.mem_map.mpr ⟨x, hx, rfl⟩)
    rw [e] at this
    obtain ⟨y, hy, q⟩ := List.mem_map.mp this
    rw [← sgD_inj q]
    exact hy
  obtain ⟨l0, m0⟩ := hS.leaf
  refine ⟨sg', e, ?_, fun x hx => hS.ok x (m x hx), ⟨l0, back _ m0⟩⟩
  have := pm.length_eq
  rw [e, List.length_map, List.length_map] at this
  rw [this]
  exact hS.len
theorem sg_pures : ∀ sg : List Sg, D.pures (sg.map sgD) = true
  | [] => rfl
  | x :: sg => by rw [List.map_cons, pures_cons, sg_pures sg]; rfl
theorem sg_deps : ∀ sg : List Sg, D.deps (sg.map sgD) ≤ 1
  | [] => Nat.zero_le _
  | x :: sg => by
    have := sg_deps sg
    rw [List.map_cons, D.deps]
    have e : (sgD x).dep = 1 := rfl
    omega
theorem sg_can (sg : List Sg) : canSort (sg.map sgD) = true := by
  unfold canSort
  have h1 : (sg.map sgD).all (fun a => (sg.map sgD).all fun b => a.alike b) = true := by
    rw [List.all_eq_true]
    intro a ha
    rw [List.all_eq_true]
    intro b hb
    obtain ⟨x, _, e1⟩ := List.mem_map.mp ha
    obtain ⟨y, _, e2⟩ := List.mem_map.mp hb
    subst e1; subst e2
    rfl
  have h2 : (sg.map sgD).all (fun a => match a with | .tup (_ :: _) => true | _ => false) = true := by
    rw [List.all_eq_true]
    intro a ha
    obtain ⟨x, _, e1⟩ := List.mem_map.mp ha
    subst e1
    rfl
  have h3 : decide (D.deps (sg.map sgD) ≤ 60) = true := decide_eq_true (Nat.le_trans (sg_deps sg) (by decide))
  rw [sg_pures, h1, h3, Bool.true_and, Bool.true_and, Bool.true_and, Bool.or_eq_true]
  exact .inl h2
end K00
end
section
set_option Elab.async false
set_option autoImplicit false
set_option maxRecDepth 100000
set_option linter.all false
namespace K00
open Ev
theorem pD_snoc (p : List Nat) (i : Nat) : pD p ++ [D.int (i : Int)] = pD (p ++ [i]) := by simp [pD]
theorem pD_len (p : List Nat) : (pD p).length = p.length := by simp [pD]
theorem pD_pure : ∀ p : List Nat, D.pures (pD p) = true
  | [] => rfl
  | i :: p => by
    have := pD_pure p
    show D.pures (D.int (i : Int) :: pD p) = true
    rw [pures_cons, this]; rfl
mutual
theorem nds_mem : ∀ (d : Doc) (p : List Nat) (x : D), x ∈ nds (pD p) d → ∃ (q : List Nat) (s : Doc), x = .tup [.tup (pD (p ++ q)), enc s] ∧ sub d q = some s
  | .mk l ks, p, x, h => by
    rw [nds] at h
    rcases List.mem_cons.mp h with z | z
    · exact ⟨[], .mk l ks, by rw [List.append_nil]; exact z, by rw [sub]⟩
    · obtain ⟨j, q, s, c, e, hj, hs⟩ := ndss_mem ks p 0 x z
      refine ⟨j :: q, s, by simpa using e, ?_⟩
      rw [sub, hj]
      exact hs
theorem ndss_mem : ∀ (ds : List Doc) (p : List Nat) (i : Nat) (x : D), x ∈ ndss (pD p) i ds → ∃ (j : Nat) (q : List Nat) (s c : Doc), x = .tup [.tup (pD (p ++ (i + j) :: q)), enc s] ∧ ds[j]? = some c ∧ sub c q = some s
  | [], p, i, x, h => by cases h
  | d :: ds, p, i, x, h => by
    rw [ndss] at h
    rcases List.mem_append.mp h with z | z
    · rw [pD_snoc] at z
      obtain ⟨q, s, e, hs⟩ := nds_mem d (p ++ [i]) x z
      exact ⟨0, q, s, d, by simpa using e, rfl, hs⟩
    · obtain ⟨j, q, s, c, e, hj, hs⟩ := ndss_mem ds p (i + 1) x z
      refine ⟨j + 1, q, s, c, ?_, by simpa using hj, hs⟩
      have : i + 1 + j = i + (j + 1) := by omega
      rw [← this]
      exact e
end
mutual
theorem put_sz : ∀ (d : Doc) (p : List Nat) (x s : Doc), sub d p = some s → sz (put d p x) + sz s = sz d + sz x
  | .mk l ks, [], x, s, h => by
    rw [sub] at h
    cases h
    rw [put]
    omega
  | .mk l ks, i :: p, x, s, h => by
    rw [sub] at h
    cases q : ks[i]? with
    | none => rw [q] at h; cases h
    | some c =>
      rw [q] at h
      have := puts_sz ks i p x s c q h
      rw [put, sz, sz]
      omega
theorem puts_sz : ∀ (ks : List Doc) (i : Nat) (p : List Nat) (x s c : Doc), ks[i]? = some c → sub c p = some s → szs (puts ks i p x) + sz s = szs ks + sz x
  | [], i, p, x, s, c, e, _ => by simp at e
  | a :: ks, 0, p, x, s, c, e, h => by
    simp at e
    subst e
    have := put_sz a p x s h
    rw [puts, szs, szs]
    omega
  | a :: ks, i + 1, p, x, s, c, e, h => by
    have := puts_sz ks i p x s c (by simpa using e) h
    rw [puts, szs, szs]
    omega
end
theorem puts_len : ∀ (ks : List Doc) (i : Nat) (p : List Nat) (x : Doc), (puts ks i p x).length = ks.length
  | [], i, p, x => by simp [puts]
  | a :: ks, 0, p, x => by rw [puts, List.length_cons, List.length_cons]
  | a :: ks, i + 1, p, x => by rw [puts, List.length_cons, puts_len ks, List.length_cons]
mutual
theorem put_ok : ∀ (d : Doc) (p : List Nat) (x : Doc), okd d = true → okd x = true → okd (put d p x) = true
  | .mk l ks, [], x, _, hx => by rw [put]; exact hx
  | .mk l ks, i :: p, x, h, hx => by
    rw [okd, Bool.and_eq_true, Bool.and_eq_true] at h
    have := puts_ok ks i p x h.2 hx
    rw [put, okd, puts_len, h.1.1, h.1.2, this]
    rfl
theorem puts_ok : ∀ (ks : List Doc) (i : Nat) (p : List Nat) (x : Doc), okds ks = true → okd x = true → okds (puts ks i p x) = true
  | [], i, p, x, _, _ => by rw [puts]; rfl
  | a :: ks, 0, p, x, h, hx => by
    rw [okds, Bool.and_eq_true] at h
    rw [puts, okds, put_ok a p x h.1 hx, h.2]
    rfl
  | a :: ks, i + 1, p, x, h, hx => by
    rw [okds, Bool.and_eq_true] at h
    rw [puts, okds, puts_ok ks i p x h.2 hx, h.1]
    rfl
end
mutual
theorem sub_ok : ∀ (d : Doc) (p : List Nat) (s : Doc), okd d = true → sub d p = some s → okd s = true
  | .mk l ks, [], s, h, e => by rw [sub] at e; cases e; exact h
  | .mk l ks, i :: p, s, h, e => by
    rw [okd, Bool.and_eq_true] at h
    rw [sub] at e
    cases q : ks[i]? with
    | none => rw [q] at e; cases e
    | some c =>
      rw [q] at e
      exact subs_ok ks i p s c h.2 q e
theorem subs_ok : ∀ (ks : List Doc) (i : Nat) (p : List Nat) (s c : Doc), okds ks = true → ks[i]? = some c → sub c p = some s → okd s = true
  | [], i, p, s, c, _, e, _ => by simp at e
  | a :: ks, 0, p, s, c, h, e, q => by
    simp at e
    subst e
    rw [okds, Bool.and_eq_true] at h
    exact sub_ok a p s h.1 q
  | a :: ks, i + 1, p, s, c, h, e, q => by
    rw [okds, Bool.and_eq_true] at h
    exact subs_ok ks i p s c h.2 (by simpa using e) q
end
mutual
theorem sub_dp : ∀ (d : Doc) (p : List Nat) (s : Doc), sub d p = some s → p.length ≤ dp d
  | .mk l ks, [], s, e => Nat.zero_le _
  | .mk l ks, i :: p, s, e => by
    rw [sub] at e
    cases q : ks[i]? with
    | none => rw [q] at e; cases e
    | some c =>
      rw [q] at e
      have := subs_dp ks i p s c q e
      rw [dp, List.length_cons]
      omega
theorem subs_dp : ∀ (ks : List Doc) (i : Nat) (p : List Nat) (s c : Doc), ks[i]? = some c → sub c p = some s → p.length + 1 ≤ dps ks
  | [], i, p, s, c, e, _ => by simp at e
  | a :: ks, 0, p, s, c, e, q => by
    simp at e
    subst e
    have := sub_dp a p s q
    rw [dps]
    omega
  | a :: ks, i + 1, p, s, c, e, q => by
    have := subs_dp ks i p s c (by simpa using e) q
    rw [dps]
    omega
end
mutual
theorem sub_put : ∀ (d : Doc) (p : List Nat) (x s : Doc), sub d p = some s → sub (put d p x) p = some x
  | .mk l ks, [], x, s, h => by rw [put, sub]
  | .mk l ks, i :: p, x, s, h => by
    rw [sub] at h
    cases q : ks[i]? with
    | none => rw [q] at h; cases h
    | some c =>
      rw [q] at h
      obtain ⟨c', e, hc⟩ := subs_put ks i p x s c q h
      rw [put, sub, e]
      exact hc
theorem subs_put : ∀ (ks : List Doc) (i : Nat) (p : List Nat) (x s c : Doc), ks[i]? = some c → sub c p = some s → ∃ c', (puts ks i p x)[i]? = some c' ∧ sub c' p = some x
  | [], i, p, x, s, c, e, _ => by simp at e
  | a :: ks, 0, p, x, s, c, e, h => by
    simp at e
    subst e
    exact ⟨put a p x, by rw [puts]; rfl, sub_put a p x s h⟩
  | a :: ks, i + 1, p, x, s, c, e, h => by
    obtain ⟨c', e', hc⟩ := subs_put ks i p x s c (by simpa using e) h
    exact ⟨c', by rw [puts]; simpa using e', hc⟩
end
mutual
theorem put_self : ∀ (d : Doc) (p : List Nat) (x : Doc), sub d p = some x → put d p x = d
  | .mk l ks, [], x, h => by rw [sub] at h; cases h; rw [put]
  | .mk l ks, i :: p, x, h => by
    rw [sub] at h
    cases q : ks[i]? with
    | none => rw [q] at h; cases h
    | some c =>
      rw [q] at h
      rw [put, puts_self ks i p x c q h]
theorem puts_self : ∀ (ks : List Doc) (i : Nat) (p : List Nat) (x c : Doc), ks[i]? = some c → sub c p = some x → puts ks i p x = ks
  | [], i, p, x, c, e, _ => by simp at e
  | a :: ks, 0, p, x, c, e, h => by
    simp at e
    subst e
    rw [puts, put_self a p x h]
  | a :: ks, i + 1, p, x, c, e, h => by
    rw [puts, puts_self ks i p x c (by simpa using e) h]
end
mutual
def nl : Doc → List Nat → List (List Nat × Doc)
  | .mk l ks, p => (p, .mk l ks) :: nls ks p 0
def nls : List Doc → List Nat → Nat → List (List Nat × Doc)
  | [], _, _ => []
  | k :: ks, p, i => nl k (p ++ [i]) ++ nls ks p (i + 1)
end
def ndD (x : List Nat × Doc) : D := .tup [.tup (pD x.1), enc x.2]
mutual
theorem nl_nds : ∀ (d : Doc) (p : List Nat), nds (pD p) d = (nl d p).map ndD
  | .mk l ks, p => by
    rw [nds, nl, nls_ndss ks p 0]
    rfl
theorem nls_ndss : ∀ (ds : List Doc) (p : List Nat) (i : Nat), ndss (pD p) i ds = (nls ds p i).map ndD
  | [], p, i => rfl
  | d :: ds, p, i => by
    rw [ndss, nls, pD_snoc, nl_nds d, nls_ndss ds, List.map_append]
end
mutual
theorem nl_mem : ∀ (d : Doc) (p : List Nat) (x : List Nat × Doc), x ∈ nl d p → ∃ q, x.1 = p ++ q ∧ sub d q = some x.2
  | .mk l ks, p, x, h => by
    rw [nl] at h
    rcases List.mem_cons.mp h with z | z
    · subst z
      exact ⟨[], (List.append_nil _).symm, by rw [sub]⟩
    · obtain ⟨j, q, c, e, hj, hs⟩ := nls_mem ks p 0 x z
      refine ⟨j :: q, by rw [e]; simp, ?_⟩
      rw [sub, hj]
      exact hs
theorem nls_mem : ∀ (ds : List Doc) (p : List Nat) (i : Nat) (x : List Nat × Doc), x ∈ nls ds p i → ∃ (j : Nat) (q : List Nat) (c : Doc), x.1 = p ++ (i + j) :: q ∧ ds[j]? = some c ∧ sub c q = some x.2
  | [], p, i, x, h => by cases h
  | d :: ds, p, i, x, h => by
    rw [nls] at h
    rcases List.mem_append.mp h with z | z
    · obtain ⟨q, e, hs⟩ := nl_mem d (p ++ [i]) x z
      exact ⟨0, q, d, by rw [e]; simp, rfl, hs⟩
    · obtain ⟨j, q, c, e, hj, hs⟩ := nls_mem ds p (i + 1) x z
      refine ⟨j + 1, q, c, ?_, by simpa using hj, hs⟩
      have : i + 1 + j = i + (j + 1) := by omega
      rw [e, this]
end
mutual
theorem nl_nodup : ∀ (d : Doc) (p : List Nat), ((nl d p).map Prod.fst).Nodup
  | .mk l ks, p => by
    rw [nl, List.map_cons, List.nodup_cons]
    refine ⟨?_, nls_nodup ks p 0⟩
    intro h
    obtain ⟨x, hx, e⟩ := List.mem_map.mp h
    obtain ⟨j, q, c, e', _⟩ := nls_mem ks p 0 x hx
    have e2 : p ++ (0 + j) :: q = p := e'.symm.trans e
    have := congrArg List.length e2
    rw [List.length_append, List.length_cons] at this
    omega
theorem nls_nodup : ∀ (ds : List Doc) (p : List Nat) (i : Nat), ((nls ds p i).map Prod.fst).Nodup
  | [], p, i => List.nodup_nil
  | d :: ds, p, i => by
    rw [nls, List.map_append, List.nodup_append]
    refine ⟨nl_nodup d (p ++ [i]), nls_nodup ds p (i + 1), ?_⟩
    intro a ha b hb e
    obtain ⟨x, hx, ex⟩ := List.mem_map.mp ha
    obtain ⟨y, hy, ey⟩ := List.mem_map.mp hb
    obtain ⟨q, e1, _⟩ := nl_mem d (p ++ [i]) x hx
    obtain ⟨j, q', c, e2, _⟩ := nls_mem ds p (i + 1) y hy
    rw [← ex, ← ey, e1, e2, List.append_assoc] at e
    have e := List.append_cancel_left e
    injection e with e _
    omega
end
/-! ### how long the texts are -/
structure Fn (x : D) (w e : Nat) : Prop where
  f : x.fine = true
  w : x.wt ≤ w
  d : x.dep ≤ e
mutual
theorem enc_fine : ∀ d : Doc, (enc d).fine = true
  | .mk l ks => by rw [enc, D.fine, D.fines, encs_fine ks]; rfl
theorem encs_fine : ∀ ds : List Doc, D.fines (encs ds) = true
  | [] => rfl
  | d :: ds => by rw [encs, D.fines, enc_fine d, encs_fine ds]; rfl
end
mutual
theorem enc_wt : ∀ d : Doc, okd d = true → (enc d).wt + 2 ≤ 140 * sz d
  | .mk l ks, h => by
    rw [okd, Bool.and_eq_true, Bool.and_eq_true] at h
    have a := encs_wt ks h.2
    have b := lab_len h.1.1
    rw [enc, D.wt, D.wts, D.wt, sz]
    omega
theorem encs_wt : ∀ ds : List Doc, okds ds = true → D.wts (encs ds) ≤ 140 * szs ds
  | [], _ => Nat.zero_le _
  | d :: ds, h => by
    rw [okds, Bool.and_eq_true] at h
    have a := enc_wt d h.1
    have b := encs_wt ds h.2
    rw [encs, D.wts, szs]
    omega
end
theorem enc_fn {d : Doc} (h : okd d = true) {m : Nat} (hz : sz d ≤ m) : Fn (enc d) (140 * m) m := by
  have := enc_wt d h
  have := dp_sz d
  exact ⟨enc_fine d, by omega, by rw [enc_dep]; omega⟩
/-- numbers of a path -/
def ps (m : Nat) (p : List D) : Prop := p.length ≤ m ∧ ∀ x ∈ p, ∃ i : Nat, x = .int (i : Int) ∧ i < 1000
theorem ps_snoc {m : Nat} {p : List D} {i : Nat} (h : ps m p) (hi : i < 1000) : ps (m + 1) (p ++ [D.int (i : Int)]) := by
  refine ⟨by rw [List.length_append]; simp; exact h.1, fun x hx => ?_⟩
  rcases List.mem_append.mp hx with z | z
  · exact h.2 x z
  · exact ⟨i, by simpa using z, hi⟩
theorem log_small {i : Nat} (h : i < 1000) : ((i : Int).natAbs).log2 < 10 := by
  rw [Int.natAbs_natCast]
  by_cases z : i = 0
  · subst z; decide
  · exact (Nat.log2_lt z).mpr (by omega)
theorem ps_fn {p : List D} : ∀ {m : Nat}, ps m p → D.fines p = true ∧ D.wts p ≤ 15 * m ∧ D.deps p = 0 := by
  induction p with
  | nil => intro m _; exact ⟨rfl, Nat.zero_le _, rfl⟩
  | cons x p ih =>
    intro m h
    have hl := h.1
    rw [List.length_cons] at hl
    obtain ⟨i, e, hi⟩ := h.2 x List.mem_cons_self
    obtain ⟨a, b, c⟩ := ih (m := m - 1) ⟨by omega, fun y hy => h.2 y (List.mem_cons_of_mem _ hy)⟩
    have lg := log_small hi
    subst e
    refine ⟨?_, ?_, ?_⟩
    · rw [D.fines, D.fine, a, decide_eq_true (by omega)]; rfl
    · rw [D.wts, D.wt]; omega
    · rw [D.deps, c]; rfl
theorem path_fn {m : Nat} {p : List D} (h : ps m p) : Fn (.tup p) (15 * m + 4) 1 := by
  obtain ⟨a, b, c⟩ := ps_fn h
  exact ⟨by rw [D.fine, a], by rw [D.wt]; omega, by rw [D.dep, c]; omega⟩
theorem all_fn {w e : Nat} : ∀ {xs : List D} {n : Nat}, xs.length ≤ n → (∀ x ∈ xs, Fn x w e) → D.fines xs = true ∧ D.wts xs ≤ n * (w + 2) ∧ D.deps xs ≤ e
  | [], n, _, _ => ⟨rfl, Nat.zero_le _, Nat.zero_le _⟩
  | x :: xs, n, hl, h => by
    rw [List.length_cons] at hl
    obtain ⟨m, rfl⟩ : ∃ m, n = m + 1 := ⟨n - 1, by omega⟩
    obtain ⟨a, b, c⟩ := all_fn (xs := xs) (n := m) (by omega) fun y hy => h y (List.mem_cons_of_mem _ hy)
    have g := h x List.mem_cons_self
    have gf := g.f
    have gw := g.w
    have gd := g.d
    refine ⟨by rw [D.fines, gf, a]; rfl, ?_, by rw [D.deps]; omega⟩
    rw [D.wts, Nat.succ_mul]
    omega
theorem lst_fn {w e n : Nat} {xs : List D} (hl : xs.length ≤ n) (h : ∀ x ∈ xs, Fn x w e) : Fn (.lst xs) (n * (w + 2) + 4) (e + 1) := by
  obtain ⟨a, b, c⟩ := all_fn hl h
  exact ⟨by rw [D.fine, a], by rw [D.wt]; omega, by rw [D.dep]; omega⟩
abbrev FW : List Nat := [102, 105, 114, 115, 116]
def strD (cs : List (List Nat)) : List D := cs.map D.str
theorem strD_pure : ∀ cs, D.pures (strD cs) = true
  | [] => rfl
  | c :: cs => by
    show (true && D.pures (strD cs)) = true
    rw [strD_pure cs]
    rfl
abbrev SW : List Nat := [115, 101, 99, 111, 110, 100]
theorem strD_len (cs : List (List Nat)) : (strD cs).length = cs.length := by unfold strD; simp
theorem at_level {k m : Nat} (h : m ≤ k) : ∃ j, k = j + m := ⟨k - m, by omega⟩
abbrev MW : List Nat := [109, 105, 115, 115, 105, 110, 103]
abbrev RW : List Nat := [114, 101, 102, 117, 115, 101, 100]
abbrev LW : List Nat := [108, 97, 114, 103, 101]
abbrev TW : List Nat := [116, 111, 108, 100]
variable {k : Nat} {h : Mem}
/-- the same told and due -/
theorem same_ok (hk : 1 ≤ k) {x y z : D} (hx : full h 3 (.lst [x]) = some (.lst [z])) (hy : full h 3 (.lst [y]) = some (.lst [z])) (g : Fn z 900000 60) : callF prog k i_law_same [x, y] h = .ok (.bl true) h := by
  obtain ⟨j, rfl⟩ := at_level hk
  have gf := g.f
  have gw := g.w
  have gd := g.d
  refine law_same_ok j h x y [z] hx hy ?_ ?_ ?_
  · rw [D.dep, D.deps, D.deps]; omega
  · rw [D.wt, D.wts, D.wts]; omega
  · rw [D.fine, D.fines, D.fines, gf]; rfl
theorem same_pure (hk : 1 ≤ k) {x : D} (hp : x.pure = true) (g : Fn x 900000 60) : callF prog k i_law_same [x, x] h = .ok (.bl true) h :=
  same_ok hk (full_pure 3 (by simp [hp])) (full_pure 3 (by simp [hp])) g
theorem st_same {C : Cx} {σ : Fr} {h h1 h2 : Mem} {X Y : CE} {x y : D} {a : CSs} {n : Nat} (hx : evE C X σ h = .ok x h1) (hy : evE C Y σ h1 = .ok y h2) (e : C.call n [x, y] h2 = .ok (.bl true) h2) : evS C (.ite (.not (.e (.call n (.cons X (.cons Y .nil))))) a .nil) σ h = .nx σ h2 := by
  refine (evS_ite (v := false) (h1 := h2) (evT_not (b := true) (evT_e (evE_callx (ev_cons hx (ev_cons hy ev_nil)) e)))).trans ?_
  rw [if_neg (by decide), sq_nil]
/-! ### texts of what is told -/
theorem fn_mono {x : D} {w e w' e' : Nat} (g : Fn x w e) (hw : w ≤ w') (he : e ≤ e') : Fn x w' e' := ⟨g.f, Nat.le_trans g.w hw, Nat.le_trans g.d he⟩
theorem fn_str (t : List Nat) (h : t.length ≤ 1000) : Fn (.str t) 10003 0 := ⟨rfl, by rw [D.wt]; omega, Nat.le_refl _⟩
theorem fn_two {x y : D} {w e : Nat} (gx : Fn x w e) (gy : Fn y w e) : Fn (.tup [x, y]) (2 * w + 8) (e + 1) ∧ Fn (.lst [x, y]) (2 * w + 8) (e + 1) := by
  have a1 := gx.f
  have a2 := gx.w
  have a3 := gx.d
  have b1 := gy.f
  have b2 := gy.w
  have b3 := gy.d
  refine ⟨⟨by rw [D.fine, D.fines, D.fines, D.fines, a1, b1]; rfl, by rw [D.wt, D.wts, D.wts, D.wts]; omega, by rw [D.dep, D.deps, D.deps, D.deps]; omega⟩, ⟨by rw [D.fine, D.fines, D.fines, D.fines, a1, b1]; rfl, by rw [D.wt, D.wts, D.wts, D.wts]; omega, by rw [D.dep, D.deps, D.deps, D.deps]; omega⟩⟩
theorem fn_told {x : D} {w e : Nat} (g : Fn x w e) (hw : 10003 ≤ w) : Fn (.tup [.str TW, x]) (2 * w + 8) (e + 1) :=
  (fn_two (fn_mono (fn_str TW (by decide)) hw (Nat.zero_le _)) g).1
theorem fn_enc {d : Doc} (h : okd d = true) (hz : sz d ≤ 310) (hd : dp d ≤ 50) : Fn (enc d) 160000 51 := by
  have := enc_wt d h
  exact ⟨enc_fine d, by omega, by rw [enc_dep]; omega⟩
theorem repr_ok {h : Mem} {xs : List D} (hp : D.pures xs = true) (g : Fn (.tup xs) 900000 60) : biF .repr [.tup xs] h = some (.rep (.tup xs)) := by
  have e : full h 3 (.tup xs) = some (.tup xs) := full_pure 3 (by simp [hp])
  have gd := g.d
  have gw := g.w
  simp only [biF, e]
  rw [if_pos ⟨by omega, by omega, g.f⟩]
theorem rep_ok {C : Cx} {σ : Fr} {h : Mem} (w : List Nat) (m : Nat) (hm : m ≤ 1000) : evE C (.fr (.rep (.fr (.lst (.cons (.c (.str w)) .nil))) (.c (.int (m : Int))))) σ h = .ok (.lst (strD (List.replicate m w))) h := by
  have e1 : evE C (.fr (.lst (.cons (.c (.str w)) .nil))) σ h = .ok (.lst [.str w]) h := ev_lst (ev_cons (ev_c rfl) ev_nil) (by show 1 ≤ LIM; decide)
  have e2 : evE C (.c (.int (m : Int))) σ h = .ok (.int (m : Int)) h := ev_c rfl
  have c : (0 : Int) ≤ (m : Int) ∧ (m : Int) ≤ (LIM : Nat) ∧ [D.str w].length * ((m : Int)).toNat ≤ LIM := by
    have l1 : m ≤ LIM := lim_lt (by omega)
    refine ⟨by omega, by omega, ?_⟩
    show 1 * ((m : Int)).toNat ≤ LIM
    rw [Nat.one_mul, Int.toNat_natCast]
    exact l1
  rw [evE, evF, e1]
  dsimp only
  rw [e2]
  dsimp only
  rw [shal_lst]
  dsimp only
  rw [if_pos c, Int.toNat_natCast, List.flatten_replicate_singleton, strD, List.map_replicate]
section
variable {C : Cx} {σ : Fr} {h : Mem} {a b c d e : CE} {va vb vc vd ve : D}
theorem l5 (ha : evE C a σ h = .ok va h) (hb : evE C b σ h = .ok vb h) (hc : evE C c σ h = .ok vc h) (hd : evE C d σ h = .ok vd h) (he : evE C e σ h = .ok ve h) : evL C (.cons a (.cons b (.cons c (.cons d (.cons e .nil))))) σ h = .ok [va, vb, vc, vd, ve] h :=
  ev_cons ha (ev_cons hb (ev_cons hc (ev_cons hd (ev_cons he ev_nil))))
theorem t0l : evE C (.tup .nil) σ h = .ok (.tup []) h := ev_tup ev_nil (by show 0 ≤ LIM; decide)
theorem p2 (ha : evE C a σ h = .ok va h) (hb : evE C b σ h = .ok vb h) : evE C (.tup (.cons a (.cons b .nil))) σ h = .ok (.tup [va, vb]) h := ev_tup (ev_cons ha (ev_cons hb ev_nil)) (by show 2 ≤ LIM; decide)
theorem q2 (ha : evE C a σ h = .ok va h) (hb : evE C b σ h = .ok vb h) : evE C (.fr (.lst (.cons a (.cons b .nil)))) σ h = .ok (.lst [va, vb]) h := ev_lst (ev_cons ha (ev_cons hb ev_nil)) (by show 2 ≤ LIM; decide)
end
theorem fnE {d : Doc} (o : okd d = true) (z : sz d ≤ 50) : Fn (enc d) 160000 51 := fn_enc o (by omega) (by have := dp_sz d; omega)
theorem evSrc_it {C : Cx} {e : CE} {σ : Fr} {h h1 : Mem} {d : D} {xs : List D} (q : evE C e σ h = .ok d h1) (i : itD d = some xs) : evSrc C (.it e) σ h = .ok xs h1 := by
  rw [evSrc, q]
  dsimp only
  rw [i]
end K00
end
section
set_option Elab.async false
set_option autoImplicit false
set_option maxRecDepth 100000
set_option linter.all false
/-! C10: drawn labels and signs. -/
namespace K00
open Ev
theorem item_str {s : List Nat} {i : Int} : item (.str s) (.int i) = if s.length ≤ LIM then (atI s i).map fun c => .str [c] else none := rfl
theorem lab_snoc {w : List Nat} {x : Nat} (h : lab w = true) (hl : w.length ≤ 11) (hx : x ∈ LATER) : lab (w ++ [x]) = true := by
  cases w with
  | nil => cases h
  | cons c r =>
    simp only [lab, Bool.and_eq_true, decide_eq_true_eq, List.all_eq_true] at h
    obtain ⟨⟨h1, h2⟩, h3⟩ := h
    rw [List.cons_append]
    simp only [lab, Bool.and_eq_true, decide_eq_true_eq, List.all_eq_true]
    rw [List.length_cons] at hl
    refine ⟨⟨by rw [List.length_append]; simp; omega, h2⟩, fun y hy => ?_⟩
    rw [← List.cons_append] at hy
    rcases List.mem_append.mp hy with z | z
    · exact h3 y z
    · rw [List.mem_singleton] at z; subst z; exact hx
theorem first_later {x : Nat} (h : x ∈ FIRST) : x ∈ LATER := List.mem_append_left _ h
theorem lab_one {x : Nat} (h : x ∈ FIRST) : lab [x] = true := by
  simp only [lab, Bool.and_eq_true, decide_eq_true_eq, List.all_eq_true]
  exact ⟨⟨by decide, h⟩, fun y hy => by rw [List.mem_singleton] at hy; subst hy; exact first_later h⟩
variable {k : Nat} {h : Mem} {n : Nat} {is : List Int}
theorem label_loop (hk : 1 ≤ k) (hI : Is is) (hn : n < h.length) : ∀ (m : Nat) (i : Int) (c : Nat) (w : List Nat) (o3 : Option D), lab w = true → w.length + m ≤ 12 → c + m < 2 ^ 60 →
    ∃ (w' : List Nat) (p3 : Option D), forL (evSs (prog.cx k (callF prog k)) b_law_label_0) (.nm 3) (rngL i 1 m) [some (.loc n), some (.str FIRST), some (.str w), o3] (h.set n (stB is c)) = .nx [some (.loc n), some (.str FIRST), some (.str w'), p3] (h.set n (stB is (c + m))) ∧ lab w' = true := by
  intro m
  induction m with
  | zero => intro i c w o3 hw _ _; exact ⟨w, o3, rfl, hw⟩
  | succ m ih =>
    intro i c w o3 hw hl hc
    obtain ⟨r, hr, en⟩ := nx_ok (k := k) hk hI (show (h.set n (stB is c))[n]? = some (stB is c) from set_get hn) (by omega) (show 0 < 36 by decide)
    rw [List.set_set] at en
    have ll : LATER.length = 36 := by decide
    obtain ⟨x, hx, ax⟩ : ∃ x, x ∈ LATER ∧ atI LATER (r : Int) = some x := ⟨LATER[r]'(by omega), List.getElem_mem _, by rw [atI_nat, List.getElem?_eq_getElem]⟩
    obtain ⟨w', p3, e, hw'⟩ := ih (i + 1) (c + 1) (w ++ [x]) (some (.int i)) (lab_snoc hw (by omega) hx) (by rw [List.length_append]; simp; omega) (by omega)
    refine ⟨w', p3, ?_, hw'⟩
    have e1 : evE (prog.cx k (callF prog k)) (.bin .add (.v 1) (.c (.str [48, 49, 50, 51, 52, 53, 54, 55, 56, 57]))) [some (.loc n), some (.str FIRST), some (.str w), some (.int i)] (h.set n (stB is c)) = .ok (.str LATER) (h.set n (stB is c)) :=
      ev_bin (ev_v rfl) (ev_c rfl) (by rw [shal_str, shal_str, bin_adds]; exact if_pos (by decide))
    have e2 := ev_ix e1 (evE_callx (C := prog.cx k (callF prog k)) (f := i_law_next) (es := .cons (.v 0) (.cons (.c (.int 36)) .nil)) (ev_cons (ev_v rfl) (ev_cons (ev_c rfl) ev_nil)) en) (z := .str [x]) (by rw [shal_str, item_str, if_pos (by decide), ax]; rfl)
    have lw : w.length + [x].length ≤ LIM := lim_lt (by simp; omega)
    have hb : evSs (prog.cx k (callF prog k)) b_law_label_0 [some (.loc n), some (.str FIRST), some (.str w), some (.int i)] (h.set n (stB is c)) = .nx [some (.loc n), some (.str FIRST), some (.str (w ++ [x])), some (.int i)] (h.set n (stB is (c + 1))) := by
      rw [b_law_label_0]
      exact sq_nx (evS_asg (ev_bin (ev_v rfl) e2 (by rw [shal_str, shal_str, bin_adds]; exact if_pos lw)) rfl) sq_nil
    rw [rngL, forL_nx rfl hb, e, show c + 1 + m = c + (m + 1) by omega]
theorem law_label_ok (hk : 2 ≤ k) (hI : Is is) {c : Nat} (e : h[n]? = some (stB is c)) (hc : c + 13 < 2 ^ 60) : ∃ (l : List Nat) (c' : Nat), callF prog k i_law_label [.loc n] h = .ok (.str l) (h.set n (stB is c')) ∧ lab l = true ∧ c ≤ c' ∧ c' ≤ c + 13 := by
  obtain ⟨j, rfl⟩ := at_level (show 1 ≤ k by omega)
  rw [callF_out d_law_label rfl ⟨rfl, by decide⟩, d_law_label]
  have hn := get_lt e
  obtain ⟨r, hr, en⟩ := nx_ok (k := j) (by omega) hI e (by omega) (show 0 < 26 by decide)
  obtain ⟨q, hq, eq⟩ := nx_ok (k := j) (by omega) hI (show (h.set n (stB is (c + 1)))[n]? = some (stB is (c + 1)) from set_get hn) (by omega) (show 0 < 5 by decide)
  rw [List.set_set] at eq
  have lf : FIRST.length = 26 := by decide
  obtain ⟨x, hx, ax⟩ : ∃ x, x ∈ FIRST ∧ atI FIRST (r : Int) = some x := ⟨FIRST[r]'(by omega), List.getElem_mem _, by rw [atI_nat, List.getElem?_eq_getElem]⟩
  obtain ⟨m, hm, am⟩ : ∃ m : Nat, m ≤ 11 ∧ atI [D.int 0, .int 0, .int 1, .int 2, .int 11] (q : Int) = some (.int (m : Int)) := by
    have : q = 0 ∨ q = 1 ∨ q = 2 ∨ q = 3 ∨ q = 4 := by omega
    rcases this with z | z | z | z | z <;> subst z
    · exact ⟨0, by decide, atI_nat (i := 0)⟩
    · exact ⟨0, by decide, atI_nat (i := 1)⟩
    · exact ⟨1, by decide, atI_nat (i := 2)⟩
    · exact ⟨2, by decide, atI_nat (i := 3)⟩
    · exact ⟨11, by decide, atI_nat (i := 4)⟩
  obtain ⟨w, p3, el, hw⟩ := label_loop (k := j) (by omega) hI hn m 0 (c + 1 + 1) [x] none (lab_one hx) (by simp; omega) (by omega)
  refine ⟨w, c + 1 + 1 + m, ?_, hw, by omega, by omega⟩
  have fr0 : startF 4 [.loc n] = [some (.loc n), none, none, none] := rfl
  have t1 : evS (prog.cx j (callF prog j)) (.asg (.nm 2) (.ix (.v 1) (.call i_law_next (.cons (.v 0) (.cons (.c (.int 26)) .nil))))) [some (.loc n), some (.str FIRST), none, none] h = .nx [some (.loc n), some (.str FIRST), some (.str [x]), none] (h.set n (stB is (c + 1))) :=
    evS_asg (ev_ix (ev_v rfl) (evE_callx (ev_cons (ev_v rfl) (ev_cons (ev_c rfl) ev_nil)) en) (by rw [shal_str, item_str, if_pos (by decide), ax]; rfl)) rfl
  have ea : evL (prog.cx j (callF prog j)) (.cons (.ix (.fr (.lst (.cons (.c (.int 0)) (.cons (.c (.int 0)) (.cons (.c (.int 1)) (.cons (.c (.int 2)) (.cons (.c (.int 11)) .nil))))))) (.call i_law_next (.cons (.v 0) (.cons (.c (.int 5)) .nil)))) .nil) [some (.loc n), some (.str FIRST), some (.str [x]), none] (h.set n (stB is (c + 1))) = .ok [.int (m : Int)] (h.set n (stB is (c + 1 + 1))) :=
    ev_cons (ev_ix (ev_lst (ev_cons (ev_c rfl) (ev_cons (ev_c rfl) (ev_cons (ev_c rfl) (ev_cons (ev_c rfl) (ev_cons (ev_c rfl) ev_nil))))) (by show 5 ≤ LIM; decide)) (evE_callx (ev_cons (ev_v rfl) (ev_cons (ev_c rfl) ev_nil)) eq) (by rw [shal_lst, item_lst]; exact am)) ev_nil
  rw [fr0]
  refine st_nx (evS_asg (ev_c rfl) rfl) (st_nx t1 (st_nx ((evS_for (evSrc_rng ea (rng_len (n := m) (by omega)))).trans el) (st_rt (ev_ret (ev_v rfl)) ?_)))
  exact fin_set0 rfl (okB_box (by rw [pures_cons, pure_lst, ints_pure]; rfl))
theorem dedup_in : ∀ (xs acc : List D) (z : D), z ∈ dedup acc xs → z ∈ acc ∨ z ∈ xs
  | [], acc, z, m => .inl m
  | x :: xs, acc, z, m => by
    rw [dedup] at m
    split at m
    · rcases dedup_in xs acc z m with q | q
      · exact .inl q
      · exact .inr (List.mem_cons_of_mem _ q)
    · rcases dedup_in xs (acc ++ [x]) z m with q | q
      · rcases List.mem_append.mp q with r | r
        · exact .inl r
        · rw [List.mem_singleton] at r; subst r; exact .inr List.mem_cons_self
      · exact .inr (List.mem_cons_of_mem _ q)
theorem dedup_keep : ∀ (xs acc : List D) (z : D), z ∈ acc → z ∈ dedup acc xs
  | [], acc, z, m => m
  | x :: xs, acc, z, m => by
    rw [dedup]
    split
    · exact dedup_keep xs acc z m
    · exact dedup_keep xs (acc ++ [x]) z (List.mem_append_left _ m)
theorem dedup_len : ∀ (xs acc : List D), (dedup acc xs).length ≤ acc.length + xs.length
  | [], acc => by rw [dedup]; omega
  | x :: xs, acc => by
    rw [dedup, List.length_cons]
    split
    · have := dedup_len xs acc; omega
    · have := dedup_len xs (acc ++ [x]); rw [List.length_append] at this; simp at this; omega
/-- drawn signs: labels and ranks of the right kind -/
def gsg (sg : List Sg) : Prop := ∀ x ∈ sg, lab x.1 = true ∧ x.2 ≤ 3
theorem sg_keys : ∀ sg : List Sg, D.keyBs (sg.map sgD) = true
  | [] => rfl
  | x :: sg => by rw [List.map_cons, D.keyBs, sg_keys sg]; rfl
theorem sg_canSet {sg : List Sg} (hl : sg.length < 64) : canSet (sg.map sgD) = true := by
  unfold canSet
  have h1 : (sg.map sgD).all (fun a => (sg.map sgD).all fun b => a.alike b) = true := by
    rw [List.all_eq_true]
    intro a ha
    rw [List.all_eq_true]
    intro b hb
    obtain ⟨x, _, e1⟩ := List.mem_map.mp ha
    obtain ⟨y, _, e2⟩ := List.mem_map.mp hb
    subst e1; subst e2
    rfl
  have h2 : (sg.map sgD).all D.isTup = true := by
    rw [List.all_eq_true]
    intro a ha
    obtain ⟨x, _, e1⟩ := List.mem_map.mp ha
    subst e1
    rfl
  have h3 : decide (D.deps (sg.map sgD) ≤ 8) = true := decide_eq_true (Nat.le_trans (sg_deps sg) (by decide))
  have h4 : decide ((sg.map sgD).length < 64) = true := decide_eq_true (by rw [List.length_map]; exact hl)
  rw [sg_pures, sg_keys, h1, h2, h3, h4]
  rfl
theorem signs_loop (hk : 3 ≤ k) (hI : Is is) (hn : n < h.length) (o1 : Option D) : ∀ (m : Nat) (i : Int) (c : Nat) (sg : List Sg) (o3 : Option D), gsg sg → sg.length + m ≤ 50 → c + 15 * m < 2 ^ 60 →
    ∃ (tl : List Sg) (c' : Nat) (p3 : Option D), forL (evSs (prog.cx k (callF prog k)) b_law_signs_0) (.nm 3) (rngL i 1 m) [some (.loc n), o1, some (.loc h.length), o3] (h.set n (stB is c) ++ [.box (.lst (sg.map sgD))]) = .nx [some (.loc n), o1, some (.loc h.length), p3] (h.set n (stB is c') ++ [.box (.lst ((sg ++ tl).map sgD))]) ∧ gsg (sg ++ tl) ∧ tl.length = m ∧ c ≤ c' ∧ c' ≤ c + 15 * m := by
  intro m
  induction m with
  | zero => intro i c sg o3 hg _ _; exact ⟨[], c, o3, by rw [List.append_nil]; rfl, by rw [List.append_nil]; exact hg, rfl, by omega, by omega⟩
  | succ m ih =>
    intro i c sg o3 gsg0 hl hc
    obtain ⟨l, c1, e1, hlb, b1, b2⟩ := law_label_ok (k := k) (by omega) hI (hg (t := [.box (.lst (sg.map sgD))]) (a := stB is c) hn) (by omega)
    rw [hs hn] at e1
    obtain ⟨r, hr, e2⟩ := nx_ok (k := k) (by omega) hI (hg (t := [.box (.lst (sg.map sgD))]) (a := stB is c1) hn) (by omega) (show 0 < 5 by decide)
    rw [hs hn] at e2
    obtain ⟨q, hq, e3⟩ := nx_ok (k := k) (by omega) hI (hg (t := [.box (.lst (sg.map sgD))]) (a := stB is (c1 + 1)) hn) (by omega) (show 0 < 6 by decide)
    rw [hs hn] at e3
    -- the last rank
    obtain ⟨w, hw, aw⟩ : ∃ w : Nat, w ≤ 3 ∧ atI [D.int 2, .int 3] (if decide ((r : Int) = 0) = true then 1 else 0) = some (.int (w : Int)) := by
      by_cases z : (r : Int) = 0
      · rw [decide_eq_true z, if_pos rfl]; exact ⟨3, by decide, atI_nat (i := 1)⟩
      · rw [decide_eq_false z, if_neg (by decide)]; exact ⟨2, by decide, atI_nat (i := 0)⟩
    obtain ⟨v, hv, av⟩ : ∃ v : Nat, v ≤ 3 ∧ atI [D.int 0, .int 1, .int 1, .int 2, .int 2, .int (w : Int)] (q : Int) = some (.int (v : Int)) := by
      have : q = 0 ∨ q = 1 ∨ q = 2 ∨ q = 3 ∨ q = 4 ∨ q = 5 := by omega
      rcases this with z | z | z | z | z | z <;> subst z
      · exact ⟨0, by decide, atI_nat (i := 0)⟩
      · exact ⟨1, by decide, atI_nat (i := 1)⟩
      · exact ⟨1, by decide, atI_nat (i := 2)⟩
      · exact ⟨2, by decide, atI_nat (i := 3)⟩
      · exact ⟨2, by decide, atI_nat (i := 4)⟩
      · exact ⟨w, hw, atI_nat (i := 5)⟩
    have gsg1 : gsg (sg ++ [(l, v)]) := fun x hx => by
      rcases List.mem_append.mp hx with z | z
      · exact gsg0 x z
      · rw [List.mem_singleton] at z; subst z; exact ⟨hlb, hv⟩
    obtain ⟨tl, c', p3, er, g1', lt, d1, d2⟩ := ih (i + 1) (c1 + 1 + 1) (sg ++ [(l, v)]) (some (.int i)) gsg1 (by rw [List.length_append]; simp; omega) (by omega)
    refine ⟨(l, v) :: tl, c', p3, ?_, by simpa using g1', by rw [List.length_cons, lt], by omega, by omega⟩
    have hN : ∀ c : Nat, (h.set n (stB is c)).length = h.length := fun c => set_len
    have la : (sg.map sgD).length < LIM := lim_lt' (by rw [List.length_map]; omega)
    have x1 : evE (prog.cx k (callF prog k)) (.call i_law_label (.cons (.v 0) .nil)) [some (.loc n), o1, some (.loc h.length), some (.int i)] (h.set n (stB is c) ++ [.box (.lst (sg.map sgD))]) = .ok (.str l) (h.set n (stB is c1) ++ [.box (.lst (sg.map sgD))]) :=
      evE_callx (ev_cons (ev_v rfl) ev_nil) e1
    have x2 : evE (prog.cx k (callF prog k)) (.ix (.fr (.lst (.cons (.c (.int 2)) (.cons (.c (.int 3)) .nil)))) (.bi .int_ (.cons (.cmp .eq (.call i_law_next (.cons (.v 0) (.cons (.c (.int 5)) .nil))) (.c (.int 0))) .nil))) [some (.loc n), o1, some (.loc h.length), some (.int i)] (h.set n (stB is c1) ++ [.box (.lst (sg.map sgD))]) = .ok (.int (w : Int)) (h.set n (stB is (c1 + 1)) ++ [.box (.lst (sg.map sgD))]) :=
      ev_ix (ev_lst (ev_cons (ev_c rfl) (ev_cons (ev_c rfl) ev_nil)) (by show 2 ≤ LIM; decide)) (ev_bi (ev_cons (ev_cmp (evE_callx (ev_cons (ev_v rfl) (ev_cons (ev_c rfl) ev_nil)) e2) (ev_c rfl) cmp_eqi) ev_nil) bi_intb) (by rw [shal_lst, item_lst]; exact aw)
    have x3 : evE (prog.cx k (callF prog k)) (.call i_law_next (.cons (.v 0) (.cons (.c (.int 6)) .nil))) [some (.loc n), o1, some (.loc h.length), some (.int i)] (h.set n (stB is (c1 + 1)) ++ [.box (.lst (sg.map sgD))]) = .ok (.int (q : Int)) (h.set n (stB is (c1 + 1 + 1)) ++ [.box (.lst (sg.map sgD))]) :=
      evE_callx (ev_cons (ev_v rfl) (ev_cons (ev_c rfl) ev_nil)) e3
    have x4 := ev_ix (ev_lst (ev_cons (ev_c (d := .int 0) rfl) (ev_cons (ev_c (d := .int 1) rfl) (ev_cons (ev_c (d := .int 1) rfl) (ev_cons (ev_c (d := .int 2) rfl) (ev_cons (ev_c (d := .int 2) rfl) (ev_cons x2 ev_nil)))))) (by show 6 ≤ LIM; decide)) x3 (z := .int (v : Int)) (by rw [shal_lst, item_lst]; exact av)
    have hb : evSs (prog.cx k (callF prog k)) b_law_signs_0 [some (.loc n), o1, some (.loc h.length), some (.int i)] (h.set n (stB is c) ++ [.box (.lst (sg.map sgD))]) = .nx [some (.loc n), o1, some (.loc h.length), some (.int i)] (h.set n (stB is (c1 + 1 + 1)) ++ [.box (.lst ((sg ++ [(l, v)]).map sgD))]) := by
      rw [b_law_signs_0]
      refine sq_nx (evS_expr (ev_mt (ev_v rfl) (g1 (hN c)) (ev_cons (ev_tup (ev_cons x1 (ev_cons x4 ev_nil)) (by show 2 ≤ LIM; decide)) ev_nil) (mt_append (g1 (hN _)) la))) ?_
      rw [s1 (hN _), sq_nil, List.map_append]
      rfl
    rw [rngL, forL_nx rfl hb, er, List.append_assoc]
    rfl
theorem law_signs_ok (hk : 4 ≤ k) (hI : Is is) {c : Nat} (e : h[n]? = some (stB is c)) {m : Nat} (hm : 0 < m) (hm2 : m ≤ 20) (hc : c + 14 + 15 * m < 2 ^ 60) : ∃ (sg : List Sg) (c' : Nat), callF prog k i_law_signs [.loc n, .int (m : Int)] h = .ok (.tup (sg.map sgD)) (h.set n (stB is c')) ∧ Sgs sg ∧ c ≤ c' ∧ c' ≤ c + 14 + 15 * m ∧ ∃ ys : List D, sg.map sgD = sortD (dedup [] ys) ∧ canSet ys = true := by
  obtain ⟨j, rfl⟩ := at_level (show 1 ≤ k by omega)
  rw [callF_out d_law_signs rfl ⟨rfl, by decide⟩, d_law_signs]
  have hn := get_lt e
  obtain ⟨l, c1, e1, hlb, b1, b2⟩ := law_label_ok (k := j) (by omega) hI e (by omega)
  obtain ⟨r, hr, e2⟩ := nx_ok (k := j) (by omega) hI (hg (t := [.box (.lst ([(l, 0)].map sgD))]) (a := stB is c1) hn) (by omega) hm
  rw [hs hn] at e2
  obtain ⟨tl, c', p3, el, g0, lt, d1, d2⟩ := signs_loop (k := j) (by omega) hI hn (some (.int (m : Int))) r 0 (c1 + 1) [(l, 0)] none (fun x hx => by rw [List.mem_singleton] at hx; subst hx; exact ⟨hlb, Nat.zero_le 3⟩) (by simp; omega) (by omega)
  have fr0 : startF 4 [.loc n, .int (m : Int)] = [some (.loc n), some (.int (m : Int)), none, none] := rfl
  have hN : ∀ c : Nat, (h.set n (stB is c)).length = h.length := fun c => set_len
  have len : ([(l, 0)] ++ tl).length ≤ 21 := by rw [List.length_append, lt]; simp; omega
  -- sorted, each once
  have pm : (sortD (dedup [] (([(l, 0)] ++ tl).map sgD))).Perm (dedup [] (([(l, 0)] ++ tl).map sgD)) := List.mergeSort_perm ..
  obtain ⟨sg, es, hin⟩ := sg_list (ys := sortD (dedup [] (([(l, 0)] ++ tl).map sgD))) (sg := [(l, 0)] ++ tl) fun y hy => by
    rcases dedup_in _ _ _ (pm.mem_iff.mp hy) with z | z
    · cases z
    · exact z
  have hS : Sgs sg := by
    refine ⟨?_, fun x hx => g0 x (hin x hx), ⟨l, ?_⟩⟩
    · have e1 := congrArg List.length es
      have e2 := pm.length_eq
      have e3 := dedup_len (([(l, 0)] ++ tl).map sgD) []
      rw [List.length_map] at e1 e3
      simp only [List.length_nil] at e3
      omega
    · have : sgD (l, 0) ∈ sortD (dedup [] (([(l, 0)] ++ tl).map sgD)) := pm.mem_iff.mpr (by
        rw [List.map_append, List.map_cons, List.map_nil, List.cons_append, dedup, if_neg (by simp)]
        exact dedup_keep _ _ _ (by simp))
      rw [es] at this
      obtain ⟨x, hx, ex⟩ := List.mem_map.mp this
      rw [← sgD_inj ex]
      exact hx
  refine ⟨sg, c', ?_, hS, by omega, by omega, _, es.symm, sg_canSet (by omega)⟩
  rw [fr0]
  have t0 : evS (prog.cx j (callF prog j)) (.asg (.nm 2) (.nw (.lst (.cons (.tup (.cons (.call i_law_label (.cons (.v 0) .nil)) (.cons (.c (.int 0)) .nil))) .nil)))) [some (.loc n), some (.int (m : Int)), none, none] h = .nx [some (.loc n), some (.int (m : Int)), some (.loc h.length), none] (h.set n (stB is c1) ++ [.box (.lst ([(l, 0)].map sgD))]) := by
    have q : evF (prog.cx j (callF prog j)) (.lst (.cons (.tup (.cons (.call i_law_label (.cons (.v 0) .nil)) (.cons (.c (.int 0)) .nil))) .nil)) [some (.loc n), some (.int (m : Int)), none, none] h = .ok (.lst ([(l, 0)].map sgD)) (h.set n (stB is c1)) := by
      rw [evF, ev_cons (ev_tup (ev_cons (evE_callx (ev_cons (ev_v rfl) ev_nil) e1) (ev_cons (ev_c rfl) ev_nil)) (by show 2 ≤ LIM; decide)) ev_nil]
      exact if_pos (by show 1 ≤ LIM; decide)
    have := evS_asg (t := .nm 2) (ev_nw q) rfl
    rw [hN] at this
    exact this
  have ea : evL (prog.cx j (callF prog j)) (.cons (.call i_law_next (.cons (.v 0) (.cons (.v 1) .nil))) .nil) [some (.loc n), some (.int (m : Int)), some (.loc h.length), none] (h.set n (stB is c1) ++ [.box (.lst ([(l, 0)].map sgD))]) = .ok [.int (r : Int)] (h.set n (stB is (c1 + 1)) ++ [.box (.lst ([(l, 0)].map sgD))]) :=
    ev_cons (evE_callx (ev_cons (ev_v rfl) (ev_cons (ev_v rfl) ev_nil)) e2) ev_nil
  refine st_nx t0 (st_nx ((evS_for (evSrc_rng ea (rng_len (n := r) (by omega)))).trans el) (st_rt (d := .tup (sg.map sgD)) (h1 := h.set n (stB is c') ++ [.box (.lst (([(l, 0)] ++ tl).map sgD))]) ?_ ?_))
  · have sh : shal (h.set n (stB is c') ++ [.box (.lst (([(l, 0)] ++ tl).map sgD))]) (.loc h.length) = .lst (([(l, 0)] ++ tl).map sgD) := shal_box (g1 (hN c'))
    have sc : evE (prog.cx j (callF prog j)) (.fr (.sortset (.v 2))) [some (.loc n), some (.int (m : Int)), some (.loc h.length), p3] (h.set n (stB is c') ++ [.box (.lst (([(l, 0)] ++ tl).map sgD))]) = .ok (.lst (sg.map sgD)) (h.set n (stB is c') ++ [.box (.lst (([(l, 0)] ++ tl).map sgD))]) := by
      rw [evE, evF, ev_v rfl]
      dsimp only
      rw [sh]
      dsimp only
      rw [if_pos (sg_canSet (by omega)), es]
    exact ev_ret (ev_bi (ev_cons sc ev_nil) bi_tuplel)
  · exact fin_set (D.pure_ok _ _ (by rw [pure_tup, sg_pures])) (okB_box (by rw [pures_cons, pure_lst, ints_pure]; rfl))
end K00
end
section
set_option Elab.async false
set_option autoImplicit false
set_option maxRecDepth 100000
set_option linter.all false
/-! C11: size and depth by the law. -/
namespace K00
open Ev
theorem sz_sum : ∀ ks : List Doc, (ks.map fun d => (sz d : Int)).sum = (szs ks : Int)
  | [] => rfl
  | d :: ks => by rw [List.map_cons, List.sum_cons, sz_sum ks, szs]; omega
theorem maxI_0 (x : Int) (hx : 0 ≤ x) : ∀ r : List Int, maxI (0 :: x :: r) = max x (maxI (0 :: r))
  | [] => by
    show max 0 x = max x 0
    omega
  | y :: r => by
    show max 0 (max x (maxI (y :: r))) = max x (max 0 (maxI (y :: r)))
    omega
theorem dp_max : ∀ ks : List Doc, maxI (0 :: ks.map fun d => (1 : Int) + (dp d : Int)) = (dps ks : Int)
  | [] => rfl
  | d :: ks => by
    rw [List.map_cons, maxI_0 _ (by omega), dp_max ks, dps]
    omega
theorem cut_kids (l : List Nat) (ks : List Doc) : cut (D.str l :: encs ks) (some 1) none = encs ks := cut_from (i := 1) (by simp)
theorem law_size_ok (k : Nat) : ∀ (d : Doc) (h : Mem), dp d < k → sz d ≤ 5000 → callF prog k i_law_size [enc d] h = .ok (.int (sz d)) h := by
  induction k with
  | zero => intro d h l; omega
  | succ k ihk =>
    rintro ⟨l, ks⟩ h hk hz
    rw [callF_out d_law_size rfl ⟨rfl, by decide⟩, d_law_size]
    rw [dp] at hk
    rw [sz] at hz
    have lk := len_szs ks
    have eD : enc (.mk l ks) = .tup (.str l :: encs ks) := by rw [enc]
    have lp := lcL_on (elt := evE (prog.cx k (callF prog k)) e_law_size_0) (test := evT (prog.cx k (callF prog k)) .yes) (t := .nm 1) (σ := [some (enc (.mk l ks)), none]) (h := h) enc (fun d => .int (sz d : Int)) (fun _ => true) (fun d => [some (enc (.mk l ks)), some (enc d)]) ks [] (fun d hd => ⟨rfl, by rw [evT], fun _ => by
      have m1 := dp_mem hd
      have m2 := sz_mem hd
      exact evE_callx (ev_cons (ev_v rfl) ev_nil) (ihk d h (by omega) (by omega))⟩) (by rw [List.length_nil]; exact lim_lt (by omega))
    rw [List.filter_eq_self.mpr fun _ _ => rfl, List.nil_append] at lp
    have es : evSrc (prog.cx k (callF prog k)) (.it (.sl (.v 0) (.so (.c (.int 1))) .no)) [some (enc (.mk l ks)), none] h = .ok (ks.map enc) h := by
      rw [← encs_map]
      simp only [eD, cut_kids, evSs, evS, evE, evL, evT, evTA, evTO, evF, evSrc, evO, evAnd, evOr, asgT, asgTs, cx_glob, cx_call, shal_int, shal_str, shal_tup, shal_lst, shal_non, shal_bl, bin_addi, bin_subi, bin_addt, bin_addl, bin_adds, bin_mod, bin_div, cmp_lt, cmp_le, cmp_gt, cmp_ge, cmp_eqi, cmp_nei, cmp_eqs, cmp_nes, cmp_ins, cmp_nins, cmp_isn, cmp_isns, item_tup, item_lst, bi_lens, bi_lent, bi_lenl, bi_int, bi_intb, bi_abs, bi_max2, bi_tuplel, bi_tuplet, itD, slice, seqD, pure_non, pure_bl, pure_int, pure_str, pure_tup, pure_lst, pures_nil, pures_cons, startF, List.replicate, List.length_cons, List.length_nil, List.set_cons_zero, List.set_cons_succ, List.getElem?_cons_zero, List.getElem?_cons_succ, List.getElem?_nil, Nat.zero_add, Nat.reduceAdd, Nat.reduceSub, Nat.reduceLT, Nat.reduceLeDiff, if_true, Bool.not_true, Bool.not_false, List.map_cons, List.map_nil, List.cons_append, List.nil_append, reduceIte, and_self, and_true, true_and, decide_true, decide_false, Bool.true_and, Bool.and_true, Bool.false_and, Bool.and_false, fin_non, fin_bl, fin_int, fin_str, finX_same', gt_iff_lt, Nat.lt_add_one, Bool.false_eq_true]
    refine st_rt (d := .int (sz (.mk l ks))) (h1 := h) ?_ fin_int
    have e1 := ev_bi (m := .sum) (ev_cons (ev_lc (t := .nm 1) (c := .yes) es lp) ev_nil) (z := .int (szs ks : Int)) (by rw [bi_sum, ints_map (fun d : Doc => (sz d : Int)) ks, Option.map_some, sz_sum])
    refine ev_ret (ev_bin (ev_c rfl) e1 ?_)
    rw [sz, Int.natCast_add]
    rfl
theorem law_depth_ok (k : Nat) : ∀ (d : Doc) (h : Mem), dp d < k → sz d ≤ 5000 → callF prog k i_law_depth [enc d] h = .ok (.int (dp d)) h := by
  induction k with
  | zero => intro d h l; omega
  | succ k ihk =>
    rintro ⟨l, ks⟩ h hk hz
    rw [callF_out d_law_depth rfl ⟨rfl, by decide⟩, d_law_depth]
    rw [dp] at hk
    rw [sz] at hz
    have lk := len_szs ks
    have eD : enc (.mk l ks) = .tup (.str l :: encs ks) := by rw [enc]
    have lp := lcL_on (elt := evE (prog.cx k (callF prog k)) e_law_depth_0) (test := evT (prog.cx k (callF prog k)) .yes) (t := .nm 1) (σ := [some (enc (.mk l ks)), none]) (h := h) enc (fun d => .int ((1 : Int) + (dp d : Int))) (fun _ => true) (fun d => [some (enc (.mk l ks)), some (enc d)]) ks [] (fun d hd => ⟨rfl, by rw [evT], fun _ => by
      have m1 := dp_mem hd
      have m2 := sz_mem hd
      exact ev_bin (ev_c rfl) (evE_callx (ev_cons (ev_v rfl) ev_nil) (ihk d h (by omega) (by omega))) rfl⟩) (by rw [List.length_nil]; exact lim_lt (by omega))
    rw [List.filter_eq_self.mpr fun _ _ => rfl, List.nil_append] at lp
    have es : evSrc (prog.cx k (callF prog k)) (.it (.sl (.v 0) (.so (.c (.int 1))) .no)) [some (enc (.mk l ks)), none] h = .ok (ks.map enc) h := by
      rw [← encs_map]
      simp only [eD, cut_kids, evSs, evS, evE, evL, evT, evTA, evTO, evF, evSrc, evO, evAnd, evOr, asgT, asgTs, cx_glob, cx_call, shal_int, shal_str, shal_tup, shal_lst, shal_non, shal_bl, bin_addi, bin_subi, bin_addt, bin_addl, bin_adds, bin_mod, bin_div, cmp_lt, cmp_le, cmp_gt, cmp_ge, cmp_eqi, cmp_nei, cmp_eqs, cmp_nes, cmp_ins, cmp_nins, cmp_isn, cmp_isns, item_tup, item_lst, bi_lens, bi_lent, bi_lenl, bi_int, bi_intb, bi_abs, bi_max2, bi_tuplel, bi_tuplet, itD, slice, seqD, pure_non, pure_bl, pure_int, pure_str, pure_tup, pure_lst, pures_nil, pures_cons, startF, List.replicate, List.length_cons, List.length_nil, List.set_cons_zero, List.set_cons_succ, List.getElem?_cons_zero, List.getElem?_cons_succ, List.getElem?_nil, Nat.zero_add, Nat.reduceAdd, Nat.reduceSub, Nat.reduceLT, Nat.reduceLeDiff, if_true, Bool.not_true, Bool.not_false, List.map_cons, List.map_nil, List.cons_append, List.nil_append, reduceIte, and_self, and_true, true_and, decide_true, decide_false, Bool.true_and, Bool.and_true, Bool.false_and, Bool.and_false, fin_non, fin_bl, fin_int, fin_str, finX_same', gt_iff_lt, Nat.lt_add_one, Bool.false_eq_true]
    refine st_rt (d := .int (dp (.mk l ks))) (h1 := h) ?_ fin_int
    have ll : [D.int 0].length + (ks.map fun d => D.int ((1 : Int) + (dp d : Int))).length ≤ LIM := lim_lt (by rw [List.length_map]; simp; omega)
    have e1 := ev_bin (o := .add) (ev_lst (es := .cons (.c (.int 0)) .nil) (C := prog.cx k (callF prog k)) (ev_cons (ev_c rfl) ev_nil) (by show 1 ≤ LIM; decide)) (ev_lc (t := .nm 1) (c := .yes) es lp) (z := .lst (.int 0 :: ks.map fun d => D.int ((1 : Int) + (dp d : Int)))) (by rw [shal_lst, shal_lst, bin_addl, if_pos ll]; rfl)
    have im := ints_map (fun i : Int => i) (0 :: ks.map fun d => (1 : Int) + (dp d : Int))
    rw [List.map_cons, List.map_map] at im
    refine ev_ret (ev_bi (ev_cons e1 ev_nil) ?_)
    have im2 : intsD (D.int 0 :: ks.map fun d => D.int ((1 : Int) + (dp d : Int))) = some (0 :: ks.map fun d => (1 : Int) + (dp d : Int)) := by
      rw [show (D.int 0 :: ks.map fun d => D.int ((1 : Int) + (dp d : Int))) = D.int 0 :: ks.map ((fun x : Int => D.int x) ∘ fun d => (1 : Int) + (dp d : Int)) from rfl, im]
      simp
    rw [bi_max1, im2, Option.map_some, dp_max, dp]
end K00
end
section
set_option Elab.async false
set_option autoImplicit false
set_option maxRecDepth 100000
set_option linter.all false
/-! N31: any document checked; size, depth, signs, paths. -/
namespace K00
open Ev
mutual
def shl : Doc → Bool
  | .mk l ks => decide (l.length ≤ 1000) && shls ks
def shls : List Doc → Bool
  | [] => true
  | d :: ds => shl d && shls ds
end
mutual
theorem ok_shl : ∀ d, okd d = true → shl d = true
  | .mk l ks, h => by
    rw [okd, Bool.and_eq_true, Bool.and_eq_true] at h
    have := lab_len h.1.1
    rw [shl, decide_eq_true (by omega), ok_shls ks h.2]
    rfl
theorem ok_shls : ∀ ds, okds ds = true → shls ds = true
  | [], _ => rfl
  | d :: ds, h => by
    rw [okds, Bool.and_eq_true] at h
    rw [shls, ok_shl d h.1, ok_shls ds h.2]
    rfl
end
mutual
theorem no_loop (k : Nat) (h : Mem) (a b c : Option D) : ∀ (d : Doc) (p : List D) (o3 o4 : Option D) (ys : List D), okd d = false → shl d = true →
    ∃ σ', forL (evSs (prog.cx (k + 1) (callF prog (k + 1))) b_check_document_0) (.tp (.cons (.nm 3) (.cons (.nm 4) .nil))) (nds p d ++ ys) [a, b, c, o3, o4] h = .exc 1 .non σ' h
  | .mk l ks, p, o3, o4, ys, no, hs => by
    rw [shl, Bool.and_eq_true, decide_eq_true_eq] at hs
    have tn := check_turn k h l ks a b c (some (.tup p)) hs.1
    rw [nds, List.cons_append]
    by_cases q : lab l = true ∧ ks.length ≤ 3
    · rw [if_pos q] at tn
      have no2 : okds ks = false := by
        rw [okd, q.1, decide_eq_true q.2] at no
        simpa using no
      obtain ⟨σ', e⟩ := no_loops k h a b c ks p 0 (some (.tup p)) (some (enc (.mk l ks))) ys no2 hs.2
      exact ⟨σ', by rw [forL_nx rfl tn, e]⟩
    · rw [if_neg q] at tn
      refine ⟨[a, b, c, some (.tup p), some (enc (.mk l ks))], ?_⟩
      rw [forL]
      show (match evSs (prog.cx (k + 1) (callF prog (k + 1))) b_check_document_0 [a, b, c, some (.tup p), some (enc (.mk l ks))] h with | .nx σ2 h2 => _ | .ct σ2 h2 => _ | .bk σ2 h2 => _ | r => r) = _
      rw [tn]
theorem no_loops (k : Nat) (h : Mem) (a b c : Option D) : ∀ (ds : List Doc) (p : List D) (i : Nat) (o3 o4 : Option D) (ys : List D), okds ds = false → shls ds = true →
    ∃ σ', forL (evSs (prog.cx (k + 1) (callF prog (k + 1))) b_check_document_0) (.tp (.cons (.nm 3) (.cons (.nm 4) .nil))) (ndss p i ds ++ ys) [a, b, c, o3, o4] h = .exc 1 .non σ' h
  | [], p, i, o3, o4, ys, no, _ => by rw [okds] at no; cases no
  | d :: ds, p, i, o3, o4, ys, no, hs => by
    rw [shls, Bool.and_eq_true] at hs
    rw [ndss, List.append_assoc]
    cases q : okd d with
    | true =>
      rw [okds, q, Bool.true_and] at no
      obtain ⟨r3, r4, e1⟩ := check_loop k h a b c d (p ++ [D.int (i : Int)]) o3 o4 (ndss p (i + 1) ds ++ ys) q
      obtain ⟨σ', e⟩ := no_loops k h a b c ds p (i + 1) r3 r4 ys no hs.2
      exact ⟨σ', by rw [e1, e]⟩
    | false => exact no_loop k h a b c d (p ++ [D.int (i : Int)]) o3 o4 (ndss p (i + 1) ds ++ ys) q hs.1
end
theorem check_no (k : Nat) (d : Doc) (h : Mem) (no : okd d = false) (sh : shl d = true) (hs : sz d ≤ 300) (hd : dp d ≤ 40) (hk : 41 ≤ k) : callF prog (k + 1) i_check_document [enc d] h = .exc 1 .non h := by
  obtain ⟨k, rfl⟩ : ∃ j, k = j + 1 := ⟨k - 1, by omega⟩
  rw [callF_out d_check_document rfl ⟨rfl, by decide⟩, d_check_document]
  have fr0 : startF 5 [enc d] = [some (enc d), none, none, none, none] := rfl
  rw [fr0]
  have hm := measured_ok (k + 1) d h (by omega)
  have hn := nodes_ok k d h (by omega)
  have s1 : ¬ (300 : Int) < (sz d : Int) := by omega
  have s2 : ¬ (40 : Int) < (dp d : Int) := by omega
  obtain ⟨σ', e⟩ := no_loop k h (some (enc d)) (some (.int (sz d))) (some (.int (dp d))) d [] none none [] no sh
  rw [List.append_nil] at e
  have t0 : evS (prog.cx (k + 1) (callF prog (k + 1))) (.asg (.tp (.cons (.nm 1) (.cons (.nm 2) .nil))) (.call i_measured (.cons (.v 0) .nil))) [some (enc d), none, none, none, none] h = .nx [some (enc d), some (.int (sz d)), some (.int (dp d)), none, none] h := evS_asg (evE_callx (ev_cons (ev_v rfl) ev_nil) hm) rfl
  refine st_nx t0 (st_nx (h1 := h) (σ1 := [some (enc d), some (.int (sz d)), some (.int (dp d)), none, none]) ?_ (st_exc ((evS_for (evSrc_it (evE_callx (ev_cons (ev_v rfl) ev_nil) hn) rfl)).trans e) finX_same))
  simp only [s1, s2, gl2, gl3, evSs, evS, evE, evL, evT, evTA, evTO, evF, evSrc, evO, evAnd, evOr, asgT, asgTs, cx_glob, cx_call, shal_int, shal_str, shal_tup, shal_lst, shal_non, shal_bl, bin_addi, bin_subi, bin_addt, bin_addl, bin_adds, bin_mod, bin_div, cmp_lt, cmp_le, cmp_gt, cmp_ge, cmp_eqi, cmp_nei, cmp_eqs, cmp_nes, cmp_ins, cmp_nins, cmp_isn, cmp_isns, item_tup, item_lst, bi_lens, bi_lent, bi_lenl, bi_int, bi_intb, bi_abs, bi_max2, bi_tuplel, bi_tuplet, itD, slice, seqD, pure_non, pure_bl, pure_int, pure_str, pure_tup, pure_lst, pures_nil, pures_cons, startF, List.replicate, List.length_cons, List.length_nil, List.set_cons_zero, List.set_cons_succ, List.getElem?_cons_zero, List.getElem?_cons_succ, List.getElem?_nil, Nat.zero_add, Nat.reduceAdd, Nat.reduceSub, Nat.reduceLT, Nat.reduceLeDiff, if_true, Bool.not_true, Bool.not_false, List.map_cons, List.map_nil, List.cons_append, List.nil_append, reduceIte, and_self, and_true, true_and, decide_true, decide_false, Bool.true_and, Bool.and_true, Bool.false_and, Bool.and_false, fin_non, fin_bl, fin_int, fin_str, finX_same', gt_iff_lt, Nat.lt_add_one, Bool.false_eq_true]
structure Good (d : Doc) : Prop where
  ok : okd d = true
  s : sz d ≤ 300
  d : dp d ≤ 40
variable {k : Nat} {h : Mem} {d : Doc}
theorem check_at (hk : 42 ≤ k) (g : Good d) : callF prog k i_check_document [enc d] h = .ok .non h := by
  obtain ⟨j, rfl⟩ := at_level (show 1 ≤ k by omega)
  exact check_ok j d h g.ok g.s g.d (by omega)
/-- a wrong one, small enough -/
structure Odd (d : Doc) : Prop where
  no : okd d = false
  sh : shl d = true
  s : sz d ≤ 300
  d : dp d ≤ 40
theorem check_odd (hk : 43 ≤ k) (g : Odd d) : callF prog k i_check_document [enc d] h = .exc 1 .non h := by
  obtain ⟨j, rfl⟩ := at_level (show 1 ≤ k by omega)
  exact check_no j d h g.no g.sh g.s g.d (by omega)
/-! ### size, depth, paths, signs -/
theorem size_ok (hk : 44 ≤ k) (g : Good d) : callF prog k i_size [enc d] h = .ok (.int (sz d : Int)) h := by
  obtain ⟨j, rfl⟩ := at_level (show 1 ≤ k by omega)
  rw [callF_out d_size rfl ⟨rfl, by decide⟩, d_size]
  have fr0 : startF 1 [enc d] = [some (enc d)] := rfl
  rw [fr0]
  have := g.d
  exact st_nx (evS_expr (evE_callx (ev_cons (ev_v rfl) ev_nil) (check_at (k := j) (h := h) (by omega) g))) (st_rt (ev_ret (ev_ix (y := .int 0) (evE_callx (ev_cons (ev_v rfl) ev_nil) (measured_ok j d h (by omega))) (ev_c rfl) (by rw [shal_tup, item_tup]; exact atI_nat (i := 0)))) fin_int)
theorem depth_ok (hk : 44 ≤ k) (g : Good d) : callF prog k i_depth [enc d] h = .ok (.int (dp d : Int)) h := by
  obtain ⟨j, rfl⟩ := at_level (show 1 ≤ k by omega)
  rw [callF_out d_depth rfl ⟨rfl, by decide⟩, d_depth]
  have fr0 : startF 1 [enc d] = [some (enc d)] := rfl
  rw [fr0]
  have := g.d
  exact st_nx (evS_expr (evE_callx (ev_cons (ev_v rfl) ev_nil) (check_at (k := j) (h := h) (by omega) g))) (st_rt (ev_ret (ev_ix (y := .int 1) (evE_callx (ev_cons (ev_v rfl) ev_nil) (measured_ok j d h (by omega))) (ev_c rfl) (by rw [shal_tup, item_tup]; exact atI_nat (i := 1)))) fin_int)
theorem nodes_at (hk : 1 ≤ k) (hs : sz d ≤ 800) : callF prog k i_nodes [enc d] h = .ok (.lst ((nl d []).map ndD)) h := by
  obtain ⟨j, rfl⟩ := at_level hk
  have := nodes_ok j d h hs
  rw [show ([] : List D) = pD [] from rfl, nl_nds] at this
  exact this
def pathsD (d : Doc) : D := .lst ((nl d []).map fun x => .tup (pD x.1))
theorem paths_pure (l : List (List Nat × Doc)) : D.pures (l.map fun x => D.tup (pD x.1)) = true := by
  induction l with
  | nil => rfl
  | cons x l ih => rw [List.map_cons, pures_cons, pure_tup, pD_pure, ih]; rfl
theorem nl_len (d : Doc) (p : List Nat) : (nl d p).length = sz d := by
  have := nds_len d (pD p)
  rw [nl_nds, List.length_map] at this
  exact this
theorem paths_ok (hk : 44 ≤ k) (g : Good d) : callF prog k i_paths [enc d] h = .ok (pathsD d) h := by
  obtain ⟨j, rfl⟩ := at_level (show 1 ≤ k by omega)
  rw [callF_out d_paths rfl ⟨rfl, by decide⟩, d_paths]
  have fr0 : startF 3 [enc d] = [some (enc d), none, none] := rfl
  rw [fr0]
  have gs := g.s
  have lp := lcL_on (elt := evE (prog.cx j (callF prog j)) e_paths_0) (test := evT (prog.cx j (callF prog j)) .yes) (t := .tp (.cons (.nm 1) (.cons (.nm 2) .nil))) (σ := [some (enc d), none, none]) (h := h) ndD (fun x => .tup (pD x.1)) (fun _ => true) (fun x => [some (enc d), some (.tup (pD x.1)), some (enc x.2)]) (nl d []) [] (fun x _ => ⟨rfl, by rw [evT], fun _ => ev_v rfl⟩) (by rw [List.length_nil, nl_len]; exact lim_lt (by omega))
  rw [List.filter_eq_self.mpr fun _ _ => rfl, List.nil_append] at lp
  exact st_nx (evS_expr (evE_callx (ev_cons (ev_v rfl) ev_nil) (check_at (k := j) (h := h) (by omega) g))) (st_rt (ev_ret (ev_lc (evSrc_it (evE_callx (ev_cons (ev_v rfl) ev_nil) (nodes_at (k := j) (by omega) (by omega))) rfl) lp)) (fin_pure (by rw [pure_lst]; exact paths_pure _)))
def sgOf (x : List Nat × Doc) : Sg := (x.2.lb, x.2.ks.length)
/-- the signs that a document has -/
def toldL (d : Doc) : List D := sortD (dedup [] (((nl d []).map sgOf).map sgD))
theorem told_sg (d : Doc) : ∃ sg : List Sg, toldL d = sg.map sgD ∧ (∀ x ∈ sg, x ∈ (nl d []).map sgOf) ∧ sg.length ≤ sz d := by
  have pm : (toldL d).Perm (dedup [] (((nl d []).map sgOf).map sgD)) := List.mergeSort_perm ..
  obtain ⟨sg, es, hin⟩ := sg_list (ys := toldL d) (sg := (nl d []).map sgOf) fun y hy => by
    rcases dedup_in _ _ _ (pm.mem_iff.mp hy) with z | z
    · cases z
    · exact z
  refine ⟨sg, es, hin, ?_⟩
  have e1 := congrArg List.length es
  have e2 := pm.length_eq
  have e3 := dedup_len (((nl d []).map sgOf).map sgD) []
  rw [List.length_map, List.length_map, nl_len] at e3
  rw [List.length_map] at e1
  simp only [List.length_nil] at e3
  omega
theorem told_pure (d : Doc) : D.pures (toldL d) = true := by
  obtain ⟨sg, e, _⟩ := told_sg d
  rw [e]
  exact sg_pures sg
theorem sg_elt {C : Cx} {σ : Fr} {h : Mem} {i : Nat} {x : Doc} (e : σ[i]? = some (some (enc x))) : evE C (.tup (.cons (.ix (.v i) (.c (.int 0))) (.cons (.bin .sub (.bi .len (.cons (.v i) .nil)) (.c (.int 1))) .nil))) σ h = .ok (sgD (x.lb, x.ks.length)) h := by
  obtain ⟨l, ks⟩ := x
  have b : biF .len [enc (.mk l ks)] h = some (.int ((ks.length + 1 : Nat) : Int)) := by
    rw [enc, bi_lent, List.length_cons, encs_len]
  refine p2 (ev_ix (ev_v e) (ev_c rfl) (by rw [enc]; exact at_0 l ks)) (ev_bin (ev_bi (ev_cons (ev_v e) ev_nil) b) (ev_c rfl) ?_)
  rw [shal_int, shal_int, bin_subi, show ((ks.length + 1 : Nat) : Int) - 1 = (ks.length : Int) by omega]
  rfl
theorem ev_sortdict {C : Cx} {e : CE} {t : Tg} {s : Src} {c : CT} {σ : Fr} {h h1 h2 : Mem} {ds rs : List D} (hs : evSrc C s σ h = .ok ds h1) (hl : lcL (evE C e) (evT C c) t σ ds [] h1 = .ok rs h2) (can : canSet rs = true) : evE C (.fr (.sortdict e t s c)) σ h = .ok (.lst (sortD (dedup [] rs))) h2 := by
  rw [evE, evF, hs]
  dsimp only
  rw [hl]
  dsimp only
  rw [if_pos can]
theorem signs_of_ok (hk : 44 ≤ k) (g : Good d) (few : sz d < 64) : callF prog k i_signs_of [enc d] h = .ok (.tup (toldL d)) h := by
  obtain ⟨j, rfl⟩ := at_level (show 1 ≤ k by omega)
  rw [callF_out d_signs_of rfl ⟨rfl, by decide⟩, d_signs_of]
  have fr0 : startF 3 [enc d] = [some (enc d), none, none] := rfl
  rw [fr0]
  have lp := lcL_on (elt := evE (prog.cx j (callF prog j)) e_signs_of_0) (test := evT (prog.cx j (callF prog j)) .yes) (t := .tp (.cons (.nm 1) (.cons (.nm 2) .nil))) (σ := [some (enc d), none, none]) (h := h) ndD (fun x => sgD (sgOf x)) (fun _ => true) (fun x => [some (enc d), some (.tup (pD x.1)), some (enc x.2)]) (nl d []) [] (fun x _ => ⟨rfl, by rw [evT], fun _ => sg_elt rfl⟩) (by rw [List.length_nil, nl_len]; exact lim_lt (by omega))
  rw [List.filter_eq_self.mpr fun _ _ => rfl, List.nil_append, show (nl d []).map (fun x => sgD (sgOf x)) = ((nl d []).map sgOf).map sgD from by rw [List.map_map]; rfl] at lp
  have can : canSet (((nl d []).map sgOf).map sgD) = true := sg_canSet (by rw [List.length_map, nl_len]; omega)
  exact st_nx (evS_expr (evE_callx (ev_cons (ev_v rfl) ev_nil) (check_at (k := j) (h := h) (by omega) g))) (st_rt (ev_ret (ev_bi (ev_cons (ev_sortdict (evSrc_it (evE_callx (ev_cons (ev_v rfl) ev_nil) (nodes_at (k := j) (by omega) (by omega))) rfl) lp can) ev_nil) bi_tuplel)) (fin_pure (by rw [pure_tup]; exact told_pure d)))
end K00
end
section
set_option Elab.async false
set_option autoImplicit false
set_option maxRecDepth 100000
set_option linter.all false
/-! N32: rows of signs: rising, check_signs. -/
namespace K00
open Ev
theorem evTO1 {C : Cx} {σ : Fr} {h h1 : Mem} {s t : CT} (q : evT C s σ h = .ok true h1) : evT C (.or (.cons s (.cons t .nil))) σ h = .ok true h1 := by
  rw [evT, evTO, q]
  intro z; cases z
abbrev Se := List Nat × Int
def sgE (x : Se) : D := .tup [.str x.1, .int x.2]
def up (x : Sg) : Se := (x.1, (x.2 : Int))
theorem up_map (sg : List Sg) : sg.map sgD = (sg.map up).map sgE := by rw [List.map_map]; rfl
theorem lexNat_self : ∀ l, lexNat l l = false
  | [] => rfl
  | a :: l => by rw [lexNat, if_pos rfl, lexNat_self l]
theorem lexNat_anti : ∀ a b : List Nat, a ≠ b → lexNat a b = !lexNat b a
  | [], [], n => absurd rfl n
  | [], b :: bs, _ => rfl
  | a :: as, [], _ => rfl
  | a :: as, b :: bs, n => by
    rw [lexNat, lexNat]
    by_cases z : a = b
    · subst z
      rw [if_pos rfl, if_pos rfl]
      exact lexNat_anti as bs fun q => n (by rw [q])
    · rw [if_neg z, if_neg (fun q => z q.symm)]
      by_cases y : a < b
      · rw [decide_eq_true y, decide_eq_false (by omega)]; rfl
      · rw [decide_eq_false y, decide_eq_true (by omega)]; rfl
abbrev Tk := Int ⊕ List Nat
theorem tokEq_self : ∀ t : Tk, tokEq t t = true
  | .inl a => decide_eq_true rfl
  | .inr a => decide_eq_true rfl
theorem lex_same (t : Tk) (a b : List Tk) : lexTok (t :: a) (t :: b) = lexTok a b := by
  rw [lexTok, if_pos (tokEq_self t)]
theorem lex_int {x y : Int} (h : x ≠ y) (a b : List Tk) : lexTok (.inl x :: a) (.inl y :: b) = decide (x < y) := by
  rw [lexTok, if_neg (by show ¬ decide (x = y) = true; rw [decide_eq_false h]; decide)]
  rfl
theorem lex_str {x y : List Nat} (h : x ≠ y) (a b : List Tk) : lexTok (.inr x :: a) (.inr y :: b) = lexNat x y := by
  rw [lexTok, if_neg (by show ¬ decide (x = y) = true; rw [decide_eq_false h]; decide)]
  rfl
theorem sgE_lt (a b : Se) : (sgE a).lt (sgE b) = if a.1 = b.1 then decide (a.2 < b.2) else lexNat a.1 b.1 := by
  obtain ⟨x, i⟩ := a
  obtain ⟨y, j⟩ := b
  show lexTok (.inl 1 :: .inr x :: .inl 1 :: .inl i :: [.inl 0]) (.inl 1 :: .inr y :: .inl 1 :: .inl j :: [.inl 0]) = if x = y then decide (i < j) else lexNat x y
  rw [lex_same]
  by_cases z : x = y
  · subst z
    rw [if_pos rfl, lex_same, lex_same]
    by_cases y : i = j
    · subst y
      rw [lex_same, lex_same, decide_eq_false (by omega)]
      rfl
    · rw [lex_int y]
  · rw [if_neg z, lex_str z]
theorem sgE_cmp {h : Mem} (a b : Se) : cmpop h .lt (sgE a) (sgE b) = some ((sgE a).lt (sgE b)) := rfl
def ris (es : List Se) : Bool := (es.zip (es.drop 1)).all fun p => (sgE p.1).lt (sgE p.2)
theorem zipD_map {α : Type} (g : α → D) : ∀ xs ys : List α, zipD (xs.map g) (ys.map g) = (xs.zip ys).map fun p => .tup [g p.1, g p.2]
  | [], ys => rfl
  | x :: xs, [] => rfl
  | x :: xs, y :: ys => by rw [List.map_cons, List.map_cons, zipD, zipD_map g xs ys]; rfl
variable {k : Nat} {h : Mem}
theorem rising_ok (hk : 1 ≤ k) (es : List Se) (ne : es ≠ []) (hl : es.length ≤ 1000) : callF prog k i_rising [.tup (es.map sgE)] h = .ok (.bl (ris es)) h := by
  obtain ⟨j, rfl⟩ := at_level hk
  rw [callF_out d_rising rfl ⟨rfl, by decide⟩, d_rising]
  have fr0 : startF 3 [.tup (es.map sgE)] = [some (.tup (es.map sgE)), none, none] := rfl
  rw [fr0]
  have n1 : 1 ≤ (es.map sgE).length := by rw [List.length_map]; exact List.length_pos_iff.mpr ne
  have ct : cut (es.map sgE) (some 1) none = (es.drop 1).map sgE := by
    have := cut_from (xs := es.map sgE) (i := 1) n1
    rw [← List.map_drop] at this
    exact this
  have x2 : evE (prog.cx j (callF prog j)) (.sl (.v 0) (.so (.c (.int 1))) .no) [some (.tup (es.map sgE)), none, none] h = .ok (.tup ((es.drop 1).map sgE)) h := by
    simp only [ct, evSs, evS, evE, evL, evT, evTA, evTO, evF, evSrc, evO, evAnd, evOr, asgT, asgTs, cx_glob, cx_call, shal_int, shal_str, shal_tup, shal_lst, shal_non, shal_bl, bin_addi, bin_subi, bin_addt, bin_addl, bin_adds, bin_mod, bin_div, cmp_lt, cmp_le, cmp_gt, cmp_ge, cmp_eqi, cmp_nei, cmp_eqs, cmp_nes, cmp_ins, cmp_nins, cmp_isn, cmp_isns, item_tup, item_lst, bi_lens, bi_lent, bi_lenl, bi_int, bi_intb, bi_abs, bi_max2, bi_tuplel, bi_tuplet, itD, slice, seqD, pure_non, pure_bl, pure_int, pure_str, pure_tup, pure_lst, pures_nil, pures_cons, startF, List.replicate, List.length_cons, List.length_nil, List.set_cons_zero, List.set_cons_succ, List.getElem?_cons_zero, List.getElem?_cons_succ, List.getElem?_nil, Nat.zero_add, Nat.reduceAdd, Nat.reduceSub, Nat.reduceLT, Nat.reduceLeDiff, if_true, Bool.not_true, Bool.not_false, List.map_cons, List.map_nil, List.cons_append, List.nil_append, reduceIte, and_self, and_true, true_and, decide_true, decide_false, Bool.true_and, Bool.and_true, Bool.false_and, Bool.and_false, fin_non, fin_bl, fin_int, fin_str, finX_same', gt_iff_lt, Nat.lt_add_one, Bool.false_eq_true]
  have es2 : evSrc (prog.cx j (callF prog j)) (.zip (.cons (.v 0) (.cons (.sl (.v 0) (.so (.c (.int 1))) .no) .nil))) [some (.tup (es.map sgE)), none, none] h = .ok ((es.zip (es.drop 1)).map fun p => .tup [sgE p.1, sgE p.2]) h := by
    rw [evSrc, ev_cons (ev_v rfl) (ev_cons x2 ev_nil)]
    show (match zip2 [D.tup (es.map sgE), .tup ((es.drop 1).map sgE)] with | some xs => RL.ok xs h | none => .stuck) = _
    rw [show zip2 [D.tup (es.map sgE), .tup ((es.drop 1).map sgE)] = some (zipD (es.map sgE) ((es.drop 1).map sgE)) from rfl, zipD_map]
  have lp := lcL_on (elt := evE (prog.cx j (callF prog j)) e_rising_0) (test := evT (prog.cx j (callF prog j)) .yes) (t := .tp (.cons (.nm 1) (.cons (.nm 2) .nil))) (σ := [some (.tup (es.map sgE)), none, none]) (h := h) (fun p : Se × Se => .tup [sgE p.1, sgE p.2]) (fun p => .bl ((sgE p.1).lt (sgE p.2))) (fun _ => true) (fun p => [some (.tup (es.map sgE)), some (sgE p.1), some (sgE p.2)]) (es.zip (es.drop 1)) [] (fun p _ => ⟨rfl, by rw [evT], fun _ => ev_cmp (ev_v rfl) (ev_v rfl) (sgE_cmp p.1 p.2)⟩) (by rw [List.length_nil, List.length_zip]; exact lim_lt (by omega))
  rw [List.filter_eq_self.mpr fun _ _ => rfl, List.nil_append] at lp
  refine st_rt (ev_ret (ev_bi (ev_cons (ev_lc es2 lp) ev_nil) (z := .bl (ris es)) ?_)) fin_bl
  rw [bi_all, bools_map (fun p : Se × Se => (sgE p.1).lt (sgE p.2)), Option.map_some]
  unfold ris
  rw [List.all_map]
  rfl
def okS (x : Se) : Bool := lab x.1 && decide (0 ≤ x.2 ∧ x.2 ≤ 3)
theorem check_signs_ok (hk : 3 ≤ k) (es : List Se) (ne : es ≠ []) (hl : es.length ≤ 1000) (hw : ∀ x ∈ es, x.1.length ≤ 1000) : callF prog k i_check_signs [.tup (es.map sgE)] h = if ris es = true ∧ es.all okS = true then .ok .non h else .exc 1 .non h := by
  obtain ⟨j, rfl⟩ := at_level (show 1 ≤ k by omega)
  obtain ⟨i, rfl⟩ := at_level (show 1 ≤ j by omega)
  rw [callF_out d_check_signs rfl ⟨rfl, by decide⟩, d_check_signs]
  have fr0 : startF 3 [.tup (es.map sgE)] = [some (.tup (es.map sgE)), none, none] := rfl
  rw [fr0]
  have rs := rising_ok (k := i + 1) (h := h) (by omega) es ne hl
  have lp := lcL_on (elt := evE (prog.cx (i + 1) (callF prog (i + 1))) e_check_signs_0) (test := evT (prog.cx (i + 1) (callF prog (i + 1))) .yes) (t := .tp (.cons (.nm 1) (.cons (.nm 2) .nil))) (σ := [some (.tup (es.map sgE)), none, none]) (h := h) sgE (fun x => .bl (okS x)) (fun _ => true) (fun x => [some (.tup (es.map sgE)), some (.str x.1), some (.int x.2)]) es [] (fun x hx => ⟨rfl, by rw [evT], fun _ => by
    have il := is_label_ok i x.1 h (hw x hx)
    have c1 : evE (prog.cx (i + 1) (callF prog (i + 1))) (.call i_is_label (.cons (.v 1) .nil)) [some (.tup (es.map sgE)), some (.str x.1), some (.int x.2)] h = .ok (.bl (lab x.1)) h := evE_callx (ev_cons (ev_v rfl) ev_nil) il
    have c2 : evE (prog.cx (i + 1) (callF prog (i + 1))) (.chn .le .le (.c (.int 0)) (.v 2) (.g 1)) [some (.tup (es.map sgE)), some (.str x.1), some (.int x.2)] h = .ok (.bl (decide (0 ≤ x.2 ∧ x.2 ≤ 3))) h := by
      by_cases z : 0 ≤ x.2
      · have d1 : decide (0 ≤ x.2) = true := decide_eq_true z
        have d2 : decide (x.2 ≤ 3) = decide (0 ≤ x.2 ∧ x.2 ≤ 3) := decide_eq_decide.mpr (by omega)
        simp only [d1, d2, gl1, evSs, evS, evE, evL, evT, evTA, evTO, evF, evSrc, evO, evAnd, evOr, asgT, asgTs, cx_glob, cx_call, shal_int, shal_str, shal_tup, shal_lst, shal_non, shal_bl, bin_addi, bin_subi, bin_addt, bin_addl, bin_adds, bin_mod, bin_div, cmp_lt, cmp_le, cmp_gt, cmp_ge, cmp_eqi, cmp_nei, cmp_eqs, cmp_nes, cmp_ins, cmp_nins, cmp_isn, cmp_isns, item_tup, item_lst, bi_lens, bi_lent, bi_lenl, bi_int, bi_intb, bi_abs, bi_max2, bi_tuplel, bi_tuplet, itD, slice, seqD, pure_non, pure_bl, pure_int, pure_str, pure_tup, pure_lst, pures_nil, pures_cons, startF, List.replicate, List.length_cons, List.length_nil, List.set_cons_zero, List.set_cons_succ, List.getElem?_cons_zero, List.getElem?_cons_succ, List.getElem?_nil, Nat.zero_add, Nat.reduceAdd, Nat.reduceSub, Nat.reduceLT, Nat.reduceLeDiff, if_true, Bool.not_true, Bool.not_false, List.map_cons, List.map_nil, List.cons_append, List.nil_append, reduceIte, and_self, and_true, true_and, decide_true, decide_false, Bool.true_and, Bool.and_true, Bool.false_and, Bool.and_false, fin_non, fin_bl, fin_int, fin_str, finX_same', gt_iff_lt, Nat.lt_add_one, Bool.false_eq_true]
      · have d1 : decide (0 ≤ x.2) = false := decide_eq_false z
        rw [decide_eq_false (show ¬ (0 ≤ x.2 ∧ x.2 ≤ 3) from fun y => z y.1)]
        simp only [d1, evSs, evS, evE, evL, evT, evTA, evTO, evF, evSrc, evO, evAnd, evOr, asgT, asgTs, cx_glob, cx_call, shal_int, shal_str, shal_tup, shal_lst, shal_non, shal_bl, bin_addi, bin_subi, bin_addt, bin_addl, bin_adds, bin_mod, bin_div, cmp_lt, cmp_le, cmp_gt, cmp_ge, cmp_eqi, cmp_nei, cmp_eqs, cmp_nes, cmp_ins, cmp_nins, cmp_isn, cmp_isns, item_tup, item_lst, bi_lens, bi_lent, bi_lenl, bi_int, bi_intb, bi_abs, bi_max2, bi_tuplel, bi_tuplet, itD, slice, seqD, pure_non, pure_bl, pure_int, pure_str, pure_tup, pure_lst, pures_nil, pures_cons, startF, List.replicate, List.length_cons, List.length_nil, List.set_cons_zero, List.set_cons_succ, List.getElem?_cons_zero, List.getElem?_cons_succ, List.getElem?_nil, Nat.zero_add, Nat.reduceAdd, Nat.reduceSub, Nat.reduceLT, Nat.reduceLeDiff, if_true, Bool.not_true, Bool.not_false, List.map_cons, List.map_nil, List.cons_append, List.nil_append, reduceIte, and_self, and_true, true_and, decide_true, decide_false, Bool.true_and, Bool.and_true, Bool.false_and, Bool.and_false, fin_non, fin_bl, fin_int, fin_str, finX_same', gt_iff_lt, Nat.lt_add_one, Bool.false_eq_true]
    unfold okS
    rw [e_check_signs_0, evE, evAnd, show evE (prog.cx (i + 1) (callF prog (i + 1))) (.call 0 (.cons (.v 1) .nil)) [some (.tup (es.map sgE)), some (.str x.1), some (.int x.2)] h = .ok (.bl (lab x.1)) h from c1]
    · cases lab x.1 with
      | true => dsimp only; rw [evAnd, c2, Bool.true_and]
      | false => rfl
    · intro z; cases z⟩) (by rw [List.length_nil]; exact lim_lt (by omega))
  rw [List.filter_eq_self.mpr fun _ _ => rfl, List.nil_append] at lp
  have ba : biF .all [.lst (es.map fun x => D.bl (okS x))] h = some (.bl (es.all okS)) := by
    rw [bi_all, bools_map okS, Option.map_some, List.all_map]
    rfl
  have t1 : evT (prog.cx (i + 1) (callF prog (i + 1))) (.not (.e (.call 1 (.cons (.v 0) .nil)))) [some (.tup (es.map sgE)), none, none] h = .ok (!ris es) h := evT_not (evT_e (evE_callx (ev_cons (ev_v rfl) ev_nil) rs))
  have t2 : evT (prog.cx (i + 1) (callF prog (i + 1))) (.not (.e (.bi .all (.cons (.fr (.lc e_check_signs_0 (.tp (.cons (.nm 1) (.cons (.nm 2) .nil))) (.it (.v 0)) .yes)) .nil)))) [some (.tup (es.map sgE)), none, none] h = .ok (!es.all okS) h := evT_not (evT_e (ev_bi (ev_cons (ev_lc (evSrc_it (ev_v rfl) rfl) lp) ev_nil) ba))
  cases qr : ris es with
  | false =>
    rw [qr] at t1
    rw [if_neg (by simp)]
    refine st_exc (c := 1) (d := .non) (h1 := h) (σ1 := [some (.tup (es.map sgE)), none, none]) ?_ finX_same
    rw [evS_ite (v := true) (h1 := h) (evTO1 t1), if_pos rfl]
    refine seq_exc ?_
    rw [evS]
  | true =>
    rw [qr] at t1
    have tt := evTO2 t1 t2
    cases qa : es.all okS with
    | false =>
      rw [qa] at tt
      rw [if_neg (by simp)]
      refine st_exc (c := 1) (d := .non) (h1 := h) (σ1 := [some (.tup (es.map sgE)), none, none]) ?_ finX_same
      rw [evS_ite tt, if_pos (show (!false) = true from rfl)]
      refine seq_exc ?_
      rw [evS]
    | true =>
      rw [qa] at tt
      rw [if_pos ⟨rfl, rfl⟩]
      refine st_nx (h1 := h) (σ1 := [some (.tup (es.map sgE)), none, none]) ?_ (st_rt (ev_ret (ev_c rfl)) fin_non)
      rw [evS_ite tt, if_neg (by decide), sq_nil]
/-! ### drawn signs rise -/
theorem zip_drop {α : Type} {R : α → α → Prop} : ∀ {l : List α}, l.Pairwise R → ∀ p ∈ l.zip (l.drop 1), R p.1 p.2
  | [], _, p, m => by cases m
  | [a], _, p, m => by cases m
  | a :: b :: l, h, p, m => by
    rw [List.drop_succ_cons, List.drop_zero, List.zip_cons_cons] at m
    rcases List.mem_cons.mp m with z | z
    · subst z
      exact (List.pairwise_cons.mp h).1 b List.mem_cons_self
    · exact zip_drop (l := b :: l) (List.pairwise_cons.mp h).2 p (by rw [List.drop_succ_cons, List.drop_zero]; exact z)
theorem sg_ris {sg : List Sg} {ys : List D} (e : sg.map sgD = sortD (dedup [] ys)) (can : canSet ys = true) : ris (sg.map up) = true := by
  obtain ⟨p1, p2, p3, p4, p5, p6⟩ := So.canSet_parts can
  obtain ⟨n1, _⟩ := So.dedup_is ys [] (by simpa using So.pures_mem p1) (by simpa using p5) List.nodup_nil
  have pw : (sortD (dedup [] ys)).Pairwise fun a b => (!b.lt a) = true := List.pairwise_mergeSort So.le_tr So.le_tot _
  have nd : (sortD (dedup [] ys)).Nodup := (List.mergeSort_perm ..).nodup_iff.mpr n1
  rw [← e] at pw nd
  have pw2 : (sg.map up).Pairwise fun a b => (sgE a).lt (sgE b) = true := by
    rw [up_map] at pw nd
    have q1 := List.pairwise_map.mp pw
    have q2 := List.pairwise_map.mp nd
    refine (q1.and q2).imp fun {a b} z => ?_
    obtain ⟨z1, z2⟩ := z
    rw [Bool.not_eq_true', sgE_lt] at z1
    rw [sgE_lt]
    obtain ⟨x, i⟩ := a
    obtain ⟨y, j⟩ := b
    dsimp only at z1 ⊢
    by_cases w : x = y
    · subst w
      rw [if_pos rfl] at z1 ⊢
      have := of_decide_eq_false z1
      have ne : i ≠ j := fun q => z2 (by rw [q])
      exact decide_eq_true (by omega)
    · rw [if_neg (fun q => w q.symm)] at z1
      rw [if_neg w, lexNat_anti x y w, z1]
      rfl
  unfold ris
  rw [List.all_eq_true]
  exact zip_drop pw2
end K00
end
section
set_option Elab.async false
set_option autoImplicit false
set_option maxRecDepth 100000
set_option linter.all false
/-! N33: the law's own reading: labels, what is due, odd documents. -/
namespace K00
open Ev
section
variable {C : Cx} {σ : Fr} {h : Mem} {a b c : CE} {x y z : Bool}
theorem and_2 (qa : evE C a σ h = .ok (.bl x) h) (qb : x = true → evE C b σ h = .ok (.bl y) h) : evAnd C (.cons a (.cons b .nil)) σ h = .ok (.bl (x && y)) h := by
  rw [evAnd, qa]
  · cases x with
    | true => dsimp only; rw [evAnd, qb rfl, Bool.true_and]
    | false => rfl
  · intro z; cases z
theorem ev_and2 (qa : evE C a σ h = .ok (.bl x) h) (qb : x = true → evE C b σ h = .ok (.bl y) h) : evE C (.and (.cons a (.cons b .nil))) σ h = .ok (.bl (x && y)) h := by
  rw [evE]; exact and_2 qa qb
theorem ev_and3 (qa : evE C a σ h = .ok (.bl x) h) (qb : x = true → evE C b σ h = .ok (.bl y) h) (qc : x = true → y = true → evE C c σ h = .ok (.bl z) h) : evE C (.and (.cons a (.cons b (.cons c .nil)))) σ h = .ok (.bl (x && (y && z))) h := by
  rw [evE, evAnd, qa]
  · cases x with
    | true => dsimp only; rw [and_2 (qb rfl) (qc rfl), Bool.true_and]
    | false => rfl
  · intro z; cases z
end
variable {k : Nat} {h : Mem} {d : Doc}
theorem law_is_label_ok (hk : 1 ≤ k) (l : List Nat) (hl : l.length ≤ 1000) : callF prog k i_law_is_label [.str l] h = .ok (.bl (lab l)) h := by
  obtain ⟨j, rfl⟩ := at_level hk
  rw [callF_out d_law_is_label rfl ⟨rfl, by decide⟩, d_law_is_label]
  have fr0 : startF 2 [.str l] = [some (.str l), none] := rfl
  rw [fr0]
  have ll : l.length ≤ LIM := lim_lt (by omega)
  have bl : biF .len [.str l] h = some (.int (l.length : Int)) := by rw [bi_lens, if_pos ll]
  have c1 : evE (prog.cx j (callF prog j)) (.chn .le .le (.c (.int 1)) (.bi .len (.cons (.v 0) .nil)) (.c (.int 12))) [some (.str l), none] h = .ok (.bl (decide (1 ≤ l.length ∧ l.length ≤ 12))) h := by
    by_cases z : 1 ≤ l.length
    · have d1 : decide ((1 : Int) ≤ (l.length : Int)) = true := decide_eq_true (by omega)
      have d2 : decide ((l.length : Int) ≤ 12) = decide (1 ≤ l.length ∧ l.length ≤ 12) := decide_eq_decide.mpr (by omega)
      simp only [bl, d1, d2, ll, evSs, evS, evE, evL, evT, evTA, evTO, evF, evSrc, evO, evAnd, evOr, asgT, asgTs, cx_glob, cx_call, shal_int, shal_str, shal_tup, shal_lst, shal_non, shal_bl, bin_addi, bin_subi, bin_addt, bin_addl, bin_adds, bin_mod, bin_div, cmp_lt, cmp_le, cmp_gt, cmp_ge, cmp_eqi, cmp_nei, cmp_eqs, cmp_nes, cmp_ins, cmp_nins, cmp_isn, cmp_isns, item_tup, item_lst, bi_lens, bi_lent, bi_lenl, bi_int, bi_intb, bi_abs, bi_max2, bi_tuplel, bi_tuplet, itD, slice, seqD, pure_non, pure_bl, pure_int, pure_str, pure_tup, pure_lst, pures_nil, pures_cons, startF, List.replicate, List.length_cons, List.length_nil, List.set_cons_zero, List.set_cons_succ, List.getElem?_cons_zero, List.getElem?_cons_succ, List.getElem?_nil, Nat.zero_add, Nat.reduceAdd, Nat.reduceSub, Nat.reduceLT, Nat.reduceLeDiff, if_true, Bool.not_true, Bool.not_false, List.map_cons, List.map_nil, List.cons_append, List.nil_append, reduceIte, and_self, and_true, true_and, decide_true, decide_false, Bool.true_and, Bool.and_true, Bool.false_and, Bool.and_false, fin_non, fin_bl, fin_int, fin_str, finX_same', gt_iff_lt, Nat.lt_add_one, Bool.false_eq_true]
    · have d1 : decide ((1 : Int) ≤ (l.length : Int)) = false := decide_eq_false (by omega)
      rw [decide_eq_false (show ¬ (1 ≤ l.length ∧ l.length ≤ 12) from fun y => z y.1)]
      simp only [bl, d1, ll, evSs, evS, evE, evL, evT, evTA, evTO, evF, evSrc, evO, evAnd, evOr, asgT, asgTs, cx_glob, cx_call, shal_int, shal_str, shal_tup, shal_lst, shal_non, shal_bl, bin_addi, bin_subi, bin_addt, bin_addl, bin_adds, bin_mod, bin_div, cmp_lt, cmp_le, cmp_gt, cmp_ge, cmp_eqi, cmp_nei, cmp_eqs, cmp_nes, cmp_ins, cmp_nins, cmp_isn, cmp_isns, item_tup, item_lst, bi_lens, bi_lent, bi_lenl, bi_int, bi_intb, bi_abs, bi_max2, bi_tuplel, bi_tuplet, itD, slice, seqD, pure_non, pure_bl, pure_int, pure_str, pure_tup, pure_lst, pures_nil, pures_cons, startF, List.replicate, List.length_cons, List.length_nil, List.set_cons_zero, List.set_cons_succ, List.getElem?_cons_zero, List.getElem?_cons_succ, List.getElem?_nil, Nat.zero_add, Nat.reduceAdd, Nat.reduceSub, Nat.reduceLT, Nat.reduceLeDiff, if_true, Bool.not_true, Bool.not_false, List.map_cons, List.map_nil, List.cons_append, List.nil_append, reduceIte, and_self, and_true, true_and, decide_true, decide_false, Bool.true_and, Bool.and_true, Bool.false_and, Bool.and_false, fin_non, fin_bl, fin_int, fin_str, finX_same', gt_iff_lt, Nat.lt_add_one, Bool.false_eq_true]
  cases l with
  | nil =>
    refine st_rt (ev_ret (ev_and3 (y := false) (z := false) c1 (fun q => ?_) (fun q => ?_))) fin_bl
    · exact absurd q (by decide)
    · exact absurd q (by decide)
  | cons c r =>
    have a0 : atI (c :: r) 0 = some c := atI_nat (i := 0)
    have lp := lcL_on (elt := evE (prog.cx j (callF prog j)) e_law_is_label_0) (test := evT (prog.cx j (callF prog j)) .yes) (t := .nm 1) (σ := [some (.str (c :: r)), none]) (h := h) (fun x : Nat => .str [x]) (fun x => .bl (decide (x ∈ LATER))) (fun _ => true) (fun x => [some (.str (c :: r)), some (.str [x])]) (c :: r) [] (fun x _ => ⟨rfl, by rw [evT], fun _ => ev_cmp (ev_v rfl) (ev_c rfl) cmp_ins⟩) (by rw [List.length_nil]; exact lim_lt (by omega))
    rw [List.filter_eq_self.mpr fun _ _ => rfl, List.nil_append] at lp
    have c2 : evE (prog.cx j (callF prog j)) (.cmp .in_ (.ix (.v 0) (.c (.int 0))) (.c (.str FIRST))) [some (.str (c :: r)), none] h = .ok (.bl (decide (c ∈ FIRST))) h :=
      ev_cmp (ev_ix (y := .int 0) (ev_v rfl) (ev_c rfl) (by rw [shal_str, item_str, if_pos ll, a0]; rfl)) (ev_c rfl) cmp_ins
    have c3 : evE (prog.cx j (callF prog j)) (.bi .all (.cons (.fr (.lc e_law_is_label_0 (.nm 1) (.it (.v 0)) .yes)) .nil)) [some (.str (c :: r)), none] h = .ok (.bl ((c :: r).all fun x => decide (x ∈ LATER))) h := by
      refine ev_bi (ev_cons (ev_lc (evSrc_it (ev_v rfl) rfl) lp) ev_nil) ?_
      rw [bi_all, bools_map (fun x : Nat => decide (x ∈ LATER)), Option.map_some, List.all_map]
      rfl
    refine st_rt (d := .bl (lab (c :: r))) (h1 := h) (ev_ret ?_) fin_bl
    have e := ev_and3 c1 (fun _ => c2) (fun _ _ => c3)
    have el : lab (c :: r) = (decide (1 ≤ (c :: r).length ∧ (c :: r).length ≤ 12) && (decide (c ∈ FIRST) && (c :: r).all fun x => decide (x ∈ LATER))) := by
      have : decide (1 ≤ (c :: r).length ∧ (c :: r).length ≤ 12) = decide (r.length ≤ 11) := decide_eq_decide.mpr (by rw [List.length_cons]; omega)
      rw [this, lab, Bool.and_assoc]
    rw [el]
    exact e
def okN (x : List Nat × Doc) : Bool := lab x.2.lb && decide (x.2.ks.length ≤ 3)
mutual
theorem nl_all : ∀ (d : Doc) (p : List Nat), (nl d p).all okN = okd d
  | .mk l ks, p => by
    rw [nl, List.all_cons, nls_all ks p 0, okd]
    rfl
theorem nls_all : ∀ (ds : List Doc) (p : List Nat) (i : Nat), (nls ds p i).all okN = okds ds
  | [], p, i => rfl
  | d :: ds, p, i => by rw [nls, List.all_append, nl_all d, nls_all ds, okds]
end
mutual
theorem sub_shl : ∀ (d : Doc) (p : List Nat) (s : Doc), shl d = true → sub d p = some s → shl s = true
  | .mk l ks, [], s, h, e => by rw [sub] at e; cases e; exact h
  | .mk l ks, i :: p, s, h, e => by
    rw [shl, Bool.and_eq_true] at h
    rw [sub] at e
    cases q : ks[i]? with
    | none => rw [q] at e; cases e
    | some c =>
      rw [q] at e
      exact subs_shl ks i p s c h.2 q e
theorem subs_shl : ∀ (ks : List Doc) (i : Nat) (p : List Nat) (s c : Doc), shls ks = true → ks[i]? = some c → sub c p = some s → shl s = true
  | [], i, p, s, c, _, e, _ => by simp at e
  | a :: ks, 0, p, s, c, h, e, q => by
    simp at e
    subst e
    rw [shls, Bool.and_eq_true] at h
    exact sub_shl a p s h.1 q
  | a :: ks, i + 1, p, s, c, h, e, q => by
    rw [shls, Bool.and_eq_true] at h
    exact subs_shl ks i p s c h.2 (by simpa using e) q
end
theorem shl_lb {d : Doc} (h : shl d = true) : d.lb.length ≤ 1000 := by
  obtain ⟨l, ks⟩ := d
  rw [shl, Bool.and_eq_true, decide_eq_true_eq] at h
  exact h.1
theorem law_nodes_at (hk : dp d < k) (hs : sz d ≤ 800) : callF prog k i_law_nodes [enc d, .tup []] h = .ok (.lst ((nl d []).map ndD)) h := by
  have := dp_sz d
  have nd := law_nodes_ok k d [] h hk (by simp; omega) (by omega) rfl
  rw [show ([] : List D) = pD [] from rfl, nl_nds] at nd
  exact nd
theorem due_ok (hk : 60 ≤ k) (sh : shl d = true) (hs : sz d ≤ 300) (hd : dp d ≤ 40) : callF prog k i_law_document_due [enc d] h = .ok (if okd d = true then .non else .str RW) h := by
  obtain ⟨j, rfl⟩ := at_level (show 1 ≤ k by omega)
  rw [callF_out d_law_document_due rfl ⟨rfl, by decide⟩, d_law_document_due]
  have fr0 : startF 3 [enc d] = [some (enc d), none, none] := rfl
  rw [fr0]
  have ls := law_size_ok j d h (by omega) (by omega)
  have ld := law_depth_ok j d h (by omega) (by omega)
  have g1 : decide ((300 : Int) < (sz d : Int)) = false := decide_eq_false (by omega)
  have g2 : decide ((40 : Int) < (dp d : Int)) = false := decide_eq_false (by omega)
  have t1 : evT (prog.cx j (callF prog j)) (.e (.cmp .gt (.call i_law_size (.cons (.v 0) .nil)) (.c (.int 300)))) [some (enc d), none, none] h = .ok false h := evT_e (ev_cmp (evE_callx (ev_cons (ev_v rfl) ev_nil) ls) (ev_c rfl) (by rw [cmp_gt, g1]))
  have t2 : evT (prog.cx j (callF prog j)) (.e (.cmp .gt (.call i_law_depth (.cons (.v 0) .nil)) (.c (.int 40)))) [some (enc d), none, none] h = .ok false h := evT_e (ev_cmp (evE_callx (ev_cons (ev_v rfl) ev_nil) ld) (ev_c rfl) (by rw [cmp_gt, g2]))
  have lp := lcL_on (elt := evE (prog.cx j (callF prog j)) e_law_document_due_0) (test := evT (prog.cx j (callF prog j)) .yes) (t := .tp (.cons (.nm 1) (.cons (.nm 2) .nil))) (σ := [some (enc d), none, none]) (h := h) ndD (fun x => .bl (okN x)) (fun _ => true) (fun x => [some (enc d), some (.tup (pD x.1)), some (enc x.2)]) (nl d []) [] (fun x hx => ⟨rfl, by rw [evT], fun _ => by
    obtain ⟨q, _, hq⟩ := nl_mem d [] x hx
    have s1 := shl_lb (sub_shl d q _ sh hq)
    obtain ⟨p, l, ks⟩ := x
    have il := law_is_label_ok (k := j) (h := h) (by omega) l s1
    have b : biF .len [enc (.mk l ks)] h = some (.int ((ks.length + 1 : Nat) : Int)) := by
      rw [enc, bi_lent, List.length_cons, encs_len]
    have d2 : decide (((ks.length + 1 : Nat) : Int) < 5) = decide (ks.length ≤ 3) := decide_eq_decide.mpr (by omega)
    have c2 : evE (prog.cx j (callF prog j)) (.cmp .lt (.bi .len (.cons (.v 2) .nil)) (.c (.int 5))) [some (enc d), some (.tup (pD p)), some (enc (.mk l ks))] h = .ok (.bl (decide (ks.length ≤ 3))) h := ev_cmp (ev_bi (ev_cons (ev_v rfl) ev_nil) b) (ev_c rfl) (by rw [cmp_lt, d2])
    exact ev_and2 (evE_callx (ev_cons (ev_ix (y := .int 0) (ev_v rfl) (ev_c rfl) (by rw [enc]; exact at_0 l ks)) ev_nil) il) fun _ => c2⟩) (by rw [List.length_nil, nl_len]; exact lim_lt (by omega))
  rw [List.filter_eq_self.mpr fun _ _ => rfl, List.nil_append] at lp
  have ba : biF .all [.lst ((nl d []).map fun x => D.bl (okN x))] h = some (.bl (okd d)) := by
    rw [bi_all, bools_map okN, Option.map_some, List.all_map, ← nl_all d []]
    rfl
  have nd := law_nodes_at (k := j) (h := h) (d := d) (by omega) (by omega)
  have x1 : evE (prog.cx j (callF prog j)) (.not (.bi .all (.cons (.fr (.lc e_law_document_due_0 (.tp (.cons (.nm 1) (.cons (.nm 2) .nil))) (.it (.call i_law_nodes (.cons (.v 0) (.cons (.tup .nil) .nil)))) .yes)) .nil))) [some (enc d), none, none] h = .ok (.bl (!okd d)) h := by
    rw [evE, ev_bi (ev_cons (ev_lc (evSrc_it (evE_callx (ev_cons (ev_v rfl) (ev_cons t0l ev_nil)) nd) rfl) lp) ev_nil) ba]
  refine st_nx (h1 := h) (σ1 := [some (enc d), none, none]) ?_ (st_rt (d := if okd d = true then .non else .str RW) (h1 := h) (ev_ret (ev_ix (q2 (ev_c rfl) (ev_c rfl)) (ev_bi (ev_cons x1 ev_nil) bi_intb) ?_)) (fin_pure (by split <;> rfl)))
  · rw [evS_ite (evTO2 t1 t2), if_neg (by decide), sq_nil]
  · rw [shal_lst, item_lst]
    cases okd d with
    | true => exact atI_nat (i := 0)
    | false => exact atI_nat (i := 1)
/-! ### odd documents -/
mutual
theorem put_bad : ∀ (d : Doc) (p : List Nat) (x s : Doc), sub d p = some s → okd x = false → okd (put d p x) = false
  | .mk l ks, [], x, s, _, hx => by rw [put]; exact hx
  | .mk l ks, i :: p, x, s, e, hx => by
    rw [sub] at e
    cases q : ks[i]? with
    | none => rw [q] at e; cases e
    | some c =>
      rw [q] at e
      rw [put, okd, puts_bad ks i p x s c q e hx, Bool.and_false]
theorem puts_bad : ∀ (ks : List Doc) (i : Nat) (p : List Nat) (x s c : Doc), ks[i]? = some c → sub c p = some s → okd x = false → okds (puts ks i p x) = false
  | [], i, p, x, s, c, e, _, _ => by simp at e
  | a :: ks, 0, p, x, s, c, e, h, hx => by
    simp at e
    subst e
    rw [puts, okds, put_bad a p x s h hx, Bool.false_and]
  | a :: ks, i + 1, p, x, s, c, e, h, hx => by
    rw [puts, okds, puts_bad ks i p x s c (by simpa using e) h hx, Bool.and_false]
end
mutual
theorem put_shl : ∀ (d : Doc) (p : List Nat) (x : Doc), shl d = true → shl x = true → shl (put d p x) = true
  | .mk l ks, [], x, _, hx => by rw [put]; exact hx
  | .mk l ks, i :: p, x, h, hx => by
    rw [shl, Bool.and_eq_true] at h
    rw [put, shl, h.1, puts_shl ks i p x h.2 hx]
    rfl
theorem puts_shl : ∀ (ks : List Doc) (i : Nat) (p : List Nat) (x : Doc), shls ks = true → shl x = true → shls (puts ks i p x) = true
  | [], i, p, x, _, _ => by rw [puts]; rfl
  | a :: ks, 0, p, x, h, hx => by
    rw [shls, Bool.and_eq_true] at h
    rw [puts, shls, put_shl a p x h.1 hx, h.2]
    rfl
  | a :: ks, i + 1, p, x, h, hx => by
    rw [shls, Bool.and_eq_true] at h
    rw [puts, shls, puts_shl ks i p x h.2 hx, h.1]
    rfl
end
theorem shls_app : ∀ a b : List Doc, shls (a ++ b) = (shls a && shls b)
  | [], b => by rw [shls, Bool.true_and]; rfl
  | d :: a, b => by rw [List.cons_append, shls, shls, shls_app a b, Bool.and_assoc]
theorem okds_app : ∀ a b : List Doc, okds (a ++ b) = (okds a && okds b)
  | [], b => by rw [okds, Bool.true_and]; rfl
  | d :: a, b => by rw [List.cons_append, okds, okds, okds_app a b, Bool.and_assoc]
theorem szs_app : ∀ a b : List Doc, szs (a ++ b) = szs a + szs b
  | [], b => by rw [szs, Nat.zero_add]; rfl
  | d :: a, b => by rw [List.cons_append, szs, szs, szs_app a b, Nat.add_assoc]
abbrev LA : Doc := .mk [97] []
theorem reps (m : Nat) : szs (List.replicate m LA) = m ∧ shls (List.replicate m LA) = true ∧ encs (List.replicate m LA) = (List.replicate m [D.tup [D.str [97]]]).flatten := by
  induction m with
  | zero => exact ⟨rfl, rfl, rfl⟩
  | succ m ih =>
    obtain ⟨h1, h2, h3⟩ := ih
    refine ⟨?_, ?_, ?_⟩
    · rw [List.replicate_succ, szs, h1]
      show 1 + m = m + 1
      omega
    · rw [List.replicate_succ, shls, h2]
      rfl
    · rw [List.replicate_succ, List.replicate_succ, List.flatten_cons, encs, h3, enc, encs]
      rfl
def wds : List (List Nat) := [[], [65], [49, 97], [97, 32, 98], [97, 98, 99, 100, 101, 102, 103, 104, 105, 106, 107, 108, 109], [63, 120], [97, 95]]
theorem wds_bad : ∀ w ∈ wds, lab w = false ∧ w.length ≤ 13 := by decide
/-- the three ways -/
def ways (w : List Nat) (l : List Nat) (ks : List Doc) : List Doc := [.mk w ks, .mk l (ks ++ List.replicate (4 - ks.length) LA), .mk l (ks ++ [.mk w []])]
theorem ways_odd {w l : List Nat} {ks : List Doc} (hw : w ∈ wds) (hs : shl (.mk l ks) = true) (k3 : ks.length ≤ 3) : ∀ x ∈ ways w l ks, okd x = false ∧ shl x = true ∧ sz x ≤ sz (.mk l ks) + 4 := by
  obtain ⟨w1, w2⟩ := wds_bad w hw
  rw [shl, Bool.and_eq_true, decide_eq_true_eq] at hs
  obtain ⟨r1, r2, _⟩ := reps (4 - ks.length)
  intro x hx
  rcases List.mem_cons.mp hx with q | hx
  · subst q
    exact ⟨by rw [okd, w1]; rfl, by rw [shl, decide_eq_true (by omega), hs.2]; rfl, by rw [sz, sz]; omega⟩
  rcases List.mem_cons.mp hx with q | hx
  · subst q
    refine ⟨?_, by rw [shl, decide_eq_true hs.1, shls_app, hs.2, r2]; rfl, by rw [sz, sz, szs_app, r1]; omega⟩
    rw [okd, decide_eq_false (by rw [List.length_append, List.length_replicate]; omega)]
    simp
  rcases List.mem_cons.mp hx with q | hx
  · subst q
    refine ⟨?_, by rw [shl, decide_eq_true hs.1, shls_app, hs.2, shls, shl, decide_eq_true (by omega)]; rfl, by simp only [sz, szs, szs_app]; omega⟩
    rw [okd, okds_app, okds, okd, w1]
    simp
  cases hx
end K00
end
section
set_option Elab.async false
set_option autoImplicit false
set_option maxRecDepth 100000
set_option linter.all false
/-! N34: odd documents drawn; what is told; chains, exact ones. -/
namespace K00
open Ev
variable {k : Nat} {h : Mem} {d : Doc} {n : Nat} {is : List Int}
theorem sub_sz {d s : Doc} {p : List Nat} (e : sub d p = some s) : sz s ≤ sz d ∧ 1 ≤ sz s := by
  have z := put_sz d p (.mk [] []) s e
  have := dp_sz s
  have y : sz (.mk [] []) = 1 := rfl
  have := dp_sz (put d p (.mk [] []))
  omega
theorem q3 {C : Cx} {σ : Fr} {h : Mem} {a b c : CE} {va vb vc : D} (ha : evE C a σ h = .ok va h) (hb : evE C b σ h = .ok vb h) (hc : evE C c σ h = .ok vc h) : evE C (.fr (.lst (.cons a (.cons b (.cons c .nil))))) σ h = .ok (.lst [va, vb, vc]) h := ev_lst (ev_cons ha (ev_cons hb (ev_cons hc ev_nil))) (by show 3 ≤ LIM; decide)
theorem p1 {C : Cx} {σ : Fr} {h : Mem} {a : CE} {va : D} (ha : evE C a σ h = .ok va h) : evE C (.tup (.cons a .nil)) σ h = .ok (.tup [va]) h := ev_tup (ev_cons ha ev_nil) (by show 1 ≤ LIM; decide)
theorem enc_mk (l : List Nat) (ks : List Doc) : enc (.mk l ks) = .tup (.str l :: encs ks) := by rw [enc]
theorem odd_ok (hk : 60 ≤ k) (hI : Is is) {c : Nat} (e : h[n]? = some (stB is c)) (hc : c + 10 < 2 ^ 60) (od : okd d = true) (zd : sz d ≤ 20) :
    ∃ y : Doc, callF prog k i_law_odd_document [.loc n, enc d] h = .ok (enc y) (h.set n (stB is (c + 3))) ∧ Odd y ∧ sz y ≤ 24 := by
  obtain ⟨j, rfl⟩ := at_level (show 1 ≤ k by omega)
  rw [callF_out d_law_odd_document rfl ⟨rfl, by decide⟩, d_law_odd_document]
  have fr0 : startF 6 [.loc n, enc d] = [some (.loc n), some (enc d), none, none, none, none] := rfl
  rw [fr0]
  have hn := get_lt e
  have gs : ∀ a : Ob, (h.set n a)[n]? = some a := fun a => set_get hn
  have ss : ∀ a b : Ob, (h.set n a).set n b = h.set n b := fun a b => by rw [List.set_set]
  have dd := dp_sz d
  have ln := nl_len d []
  have s1 : 1 ≤ sz d := by omega
  have nd := law_nodes_at (k := j) (h := h) (d := d) (by omega) (by omega)
  obtain ⟨r, hr, e1⟩ := nx_ok (k := j) (by omega) hI e (by omega) (show 0 < ((nl d []).map ndD).length by rw [List.length_map, ln]; omega)
  have hr' : r < (nl d []).length := by rw [List.length_map] at hr; exact hr
  obtain ⟨q, q1, q2⟩ := nl_mem d [] (nl d [])[r] (List.getElem_mem hr')
  rw [List.nil_append] at q1
  have ai : atI ((nl d []).map ndD) (r : Int) = some (.tup [.tup (pD q), enc (nl d [])[r].2]) := by
    rw [atI_map hr', ndD, q1]
  generalize (nl d [])[r].2 = s at q2 ai
  obtain ⟨r2, hr2, e2⟩ := nx_ok (k := j) (by omega) hI (gs (stB is (c + 1))) (by omega) (show 0 < 7 by decide)
  rw [ss] at e2
  obtain ⟨r3, hr3, e3⟩ := nx_ok (k := j) (by omega) hI (gs (stB is (c + 1 + 1))) (by omega) (show 0 < 3 by decide)
  rw [ss] at e3
  have hw : r2 < wds.length := hr2
  have aw : atI (wds.map D.str) (r2 : Int) = some (.str wds[r2]) := atI_map hw
  have mw : wds[r2] ∈ wds := List.getElem_mem hw
  generalize wds[r2] = w at aw mw
  have os := sub_ok d q s od q2
  have sh := ok_shl s os
  have zs := sub_sz q2
  obtain ⟨l, ks⟩ := s
  have k3 : ks.length ≤ 3 := by
    rw [okd, Bool.and_eq_true, Bool.and_eq_true] at os
    exact of_decide_eq_true os.1.2
  have wo := ways_odd mw sh k3
  have hx : r3 < (ways w l ks).length := hr3
  have ax : atI ((ways w l ks).map enc) (r3 : Int) = some (enc (ways w l ks)[r3]) := atI_map hx
  obtain ⟨x1, x2, x3⟩ := wo _ (List.getElem_mem hx)
  generalize (ways w l ks)[r3] = x at ax x1 x2 x3
  have pz := put_sz d q x _ q2
  have pd := dp_sz (put d q x)
  refine ⟨put d q x, ?_, ⟨put_bad d q x _ q2 x1, put_shl d q x (ok_shl d od) x2, by omega, by omega⟩, by omega⟩
  have lp := law_put_ok j d q x (h.set n (stB is (c + 1 + 1 + 1))) _ (by have := sub_dp d q _ q2; omega) (by omega) q2
  have t0 : evS (prog.cx j (callF prog j)) (.asg (.nm 2) (.call i_law_nodes (.cons (.v 1) (.cons (.tup .nil) .nil)))) [some (.loc n), some (enc d), none, none, none, none] h = .nx [some (.loc n), some (enc d), some (.lst ((nl d []).map ndD)), none, none, none] h := evS_asg (evE_callx (ev_cons (ev_v rfl) (ev_cons t0l ev_nil)) nd) rfl
  have t1 : evS (prog.cx j (callF prog j)) (.asg (.tp (.cons (.nm 4) (.cons (.nm 5) .nil))) (.ix (.v 2) (.call i_law_next (.cons (.v 0) (.cons (.bi .len (.cons (.v 2) .nil)) .nil))))) [some (.loc n), some (enc d), some (.lst ((nl d []).map ndD)), none, none, none] h = .nx [some (.loc n), some (enc d), some (.lst ((nl d []).map ndD)), none, some (.tup (pD q)), some (enc (.mk l ks))] (h.set n (stB is (c + 1))) :=
    evS_asg (ev_ix (ev_v rfl) (evE_callx (ev_cons (ev_v rfl) (ev_cons (ev_bi (ev_cons (ev_v rfl) ev_nil) bi_lenl) ev_nil)) e1) (by rw [shal_lst, item_lst]; exact ai)) rfl
  have t2 : evS (prog.cx j (callF prog j)) (.asg (.nm 3) (.ix (.fr (.lst (.cons (.c (.str [])) (.cons (.c (.str [65])) (.cons (.c (.str [49, 97])) (.cons (.c (.str [97, 32, 98])) (.cons (.c (.str [97, 98, 99, 100, 101, 102, 103, 104, 105, 106, 107, 108, 109])) (.cons (.c (.str [63, 120])) (.cons (.c (.str [97, 95])) .nil))))))))) (.call i_law_next (.cons (.v 0) (.cons (.c (.int 7)) .nil))))) [some (.loc n), some (enc d), some (.lst ((nl d []).map ndD)), none, some (.tup (pD q)), some (enc (.mk l ks))] (h.set n (stB is (c + 1))) = .nx [some (.loc n), some (enc d), some (.lst ((nl d []).map ndD)), some (.str w), some (.tup (pD q)), some (enc (.mk l ks))] (h.set n (stB is (c + 1 + 1))) :=
    evS_asg (ev_ix (ev_lst (ev_cons (ev_c rfl) (ev_cons (ev_c rfl) (ev_cons (ev_c rfl) (ev_cons (ev_c rfl) (ev_cons (ev_c rfl) (ev_cons (ev_c rfl) (ev_cons (ev_c rfl) ev_nil))))))) (by show 7 ≤ LIM; decide)) (evE_callx (ev_cons (ev_v rfl) (ev_cons (ev_c rfl) ev_nil)) e2) (by rw [shal_lst, item_lst]; exact aw)) rfl
  refine st_nx t0 (st_nx t1 (st_nx t2 (st_rt (ev_ret ?_) (fin_set0 (D.pure_ok _ _ (enc_pure _)) (okB_box (by rw [pures_cons, pure_lst, ints_pure]; rfl))))))
  have ll : (1 : Nat) + ks.length + 4 ≤ LIM := lim_lt (by omega)
  generalize h.set n (stB is (c + 1 + 1)) = h2 at e3
  have eD := enc_mk l ks
  have y1 : evE (prog.cx j (callF prog j)) (.bin .add (.tup (.cons (.v 3) .nil)) (.sl (.v 5) (.so (.c (.int 1))) .no)) [some (.loc n), some (enc d), some (.lst ((nl d []).map ndD)), some (.str w), some (.tup (pD q)), some (enc (.mk l ks))] h2 = .ok (enc (.mk w ks)) h2 := by
    have : evE (prog.cx j (callF prog j)) (.sl (.v 5) (.so (.c (.int 1))) .no) [some (.loc n), some (enc d), some (.lst ((nl d []).map ndD)), some (.str w), some (.tup (pD q)), some (enc (.mk l ks))] h2 = .ok (.tup (encs ks)) h2 := by
      simp only [eD, cut_kids, evSs, evS, evE, evL, evT, evTA, evTO, evF, evSrc, evO, evAnd, evOr, asgT, asgTs, cx_glob, cx_call, shal_int, shal_str, shal_tup, shal_lst, shal_non, shal_bl, bin_addi, bin_subi, bin_addt, bin_addl, bin_adds, bin_mod, bin_div, cmp_lt, cmp_le, cmp_gt, cmp_ge, cmp_eqi, cmp_nei, cmp_eqs, cmp_nes, cmp_ins, cmp_nins, cmp_isn, cmp_isns, item_tup, item_lst, bi_lens, bi_lent, bi_lenl, bi_int, bi_intb, bi_abs, bi_max2, bi_tuplel, bi_tuplet, itD, slice, seqD, pure_non, pure_bl, pure_int, pure_str, pure_tup, pure_lst, pures_nil, pures_cons, startF, List.replicate, List.length_cons, List.length_nil, List.set_cons_zero, List.set_cons_succ, List.getElem?_cons_zero, List.getElem?_cons_succ, List.getElem?_nil, Nat.zero_add, Nat.reduceAdd, Nat.reduceSub, Nat.reduceLT, Nat.reduceLeDiff, if_true, Bool.not_true, Bool.not_false, List.map_cons, List.map_nil, List.cons_append, List.nil_append, reduceIte, and_self, and_true, true_and, decide_true, decide_false, Bool.true_and, Bool.and_true, Bool.false_and, Bool.and_false, fin_non, fin_bl, fin_int, fin_str, finX_same', gt_iff_lt, Nat.lt_add_one, Bool.false_eq_true]
    refine ev_bin (p1 (ev_v rfl)) this ?_
    rw [shal_tup, shal_tup, bin_addt, if_pos (by rw [encs_len]; simp; omega), enc_mk]
    rfl
  have y2 : evE (prog.cx j (callF prog j)) (.bin .add (.v 5) (.bin .mul (.tup (.cons (.tup (.cons (.c (.str [97])) .nil)) .nil)) (.bin .sub (.c (.int 5)) (.bi .len (.cons (.v 5) .nil))))) [some (.loc n), some (enc d), some (.lst ((nl d []).map ndD)), some (.str w), some (.tup (pD q)), some (enc (.mk l ks))] h2 = .ok (enc (.mk l (ks ++ List.replicate (4 - ks.length) LA))) h2 := by
    have b : biF .len [enc (.mk l ks)] h2 = some (.int ((ks.length + 1 : Nat) : Int)) := by
      rw [enc, bi_lent, List.length_cons, encs_len]
    have m5 : (5 : Int) - ((ks.length + 1 : Nat) : Int) = ((4 - ks.length : Nat) : Int) := by omega
    obtain ⟨_, _, rp⟩ := reps (4 - ks.length)
    have mu : binop .mul (.tup [.tup [.str [97]]]) (.int ((4 - ks.length : Nat) : Int)) = some (.tup (encs (List.replicate (4 - ks.length) LA))) := by
      rw [rp]
      show (if (1 : Int) ≤ ((4 - ks.length : Nat) : Int) ∧ ((4 - ks.length : Nat) : Int) ≤ 1000 ∧ 1 ≤ 1000 ∧ 0 < 1 then some (D.tup (List.replicate (((4 - ks.length : Nat) : Int)).toNat [D.tup [D.str [97]]]).flatten) else none) = _
      rw [if_pos ⟨by omega, by omega, by decide, by decide⟩, Int.toNat_natCast]
    have : evE (prog.cx j (callF prog j)) (.bin .mul (.tup (.cons (.tup (.cons (.c (.str [97])) .nil)) .nil)) (.bin .sub (.c (.int 5)) (.bi .len (.cons (.v 5) .nil)))) [some (.loc n), some (enc d), some (.lst ((nl d []).map ndD)), some (.str w), some (.tup (pD q)), some (enc (.mk l ks))] h2 = .ok (.tup (encs (List.replicate (4 - ks.length) LA))) h2 :=
      ev_bin (p1 (p1 (ev_c rfl))) (ev_bin (ev_c rfl) (ev_bi (ev_cons (ev_v rfl) ev_nil) b) (by rw [shal_int, shal_int, bin_subi, m5])) (by rw [shal_tup, shal_int]; exact mu)
    refine ev_bin (ev_v rfl) this ?_
    rw [enc_mk, enc_mk, shal_tup, shal_tup, bin_addt, if_pos (by rw [List.length_cons, encs_len, encs_len, List.length_replicate]; omega), encs_app]
    rfl
  have y3 : evE (prog.cx j (callF prog j)) (.bin .add (.v 5) (.tup (.cons (.tup (.cons (.v 3) .nil)) .nil))) [some (.loc n), some (enc d), some (.lst ((nl d []).map ndD)), some (.str w), some (.tup (pD q)), some (enc (.mk l ks))] h2 = .ok (enc (.mk l (ks ++ [.mk w []]))) h2 := by
    refine ev_bin (ev_v rfl) (p1 (p1 (ev_v rfl))) ?_
    rw [enc_mk, enc_mk, shal_tup, shal_tup, bin_addt, if_pos (by rw [List.length_cons, encs_len]; simp; omega), encs_app, encs, encs, enc, encs]
    rfl
  exact evE_callx (ev_cons (ev_v rfl) (ev_cons (ev_v rfl) (ev_cons (ev_ix (q3 y1 y2 y3) (evE_callx (ev_cons (ev_v rfl) (ev_cons (ev_c rfl) ev_nil)) e3) (by rw [shal_lst, item_lst]; exact ax)) ev_nil))) lp
/-! ### what is told -/
def told_b : CSs := match d_law_told.body with
  | .cons (.try_ b _ _) _ => b
  | _ => .nil
theorem told_body : d_law_told.body = .cons (.try_ told_b [0, 1, 2, 3, 4, 5] (.err i_law_error)) .nil := rfl
def tdV (kd : Nat) (v : D) : D := if kd = 0 then v else .tup [.str TW, v]
def toldR (kd : Nat) (σ : Fr) : R → RS
  | .ok v h => .rt (tdV kd v) h
  | .exc c x h => .exc c x σ h
  | .stuck => .stuck
def tdF : Nat → Nat
  | 0 => i_check_document
  | 1 => i_size
  | 2 => i_depth
  | 3 => i_signs_of
  | _ => i_paths
theorem told_run (k : Nat) (h : Mem) (kd : Nat) (hk : kd ≤ 4) (d : D) : evSs (prog.cx k (callF prog k)) told_b [some (.int (kd : Int)), some d, none] h = toldR kd [some (.int (kd : Int)), some d, none] (callF prog k (tdF kd) [d] h) := by
  have l2 : 2 ≤ LIM := by decide
  have l4 : 4 ≤ LIM := by decide
  have : kd = 0 ∨ kd = 1 ∨ kd = 2 ∨ kd = 3 ∨ kd = 4 := by omega
  rcases this with z | z | z | z | z
  · subst z
    have q : decide (((0 : Nat) : Int) = 0) = true := by decide
    simp only [told_b, d_law_told, tdF, q, evSs, evS, evE, evL, evT, evTA, evTO, evF, evSrc, evO, evAnd, evOr, asgT, asgTs, cx_glob, cx_call, shal_int, shal_str, shal_tup, shal_lst, shal_non, shal_bl, bin_addi, bin_subi, bin_addt, bin_addl, bin_adds, bin_mod, bin_div, cmp_lt, cmp_le, cmp_gt, cmp_ge, cmp_eqi, cmp_nei, cmp_eqs, cmp_nes, cmp_ins, cmp_nins, cmp_isn, cmp_isns, item_tup, item_lst, bi_lens, bi_lent, bi_lenl, bi_int, bi_intb, bi_abs, bi_max2, bi_tuplel, bi_tuplet, itD, slice, seqD, pure_non, pure_bl, pure_int, pure_str, pure_tup, pure_lst, pures_nil, pures_cons, startF, List.replicate, List.length_cons, List.length_nil, List.set_cons_zero, List.set_cons_succ, List.getElem?_cons_zero, List.getElem?_cons_succ, List.getElem?_nil, Nat.zero_add, Nat.reduceAdd, Nat.reduceSub, Nat.reduceLT, Nat.reduceLeDiff, if_true, Bool.not_true, Bool.not_false, List.map_cons, List.map_nil, List.cons_append, List.nil_append, reduceIte, and_self, and_true, true_and, decide_true, decide_false, Bool.true_and, Bool.and_true, Bool.false_and, Bool.and_false, fin_non, fin_bl, fin_int, fin_str, finX_same', gt_iff_lt, Nat.lt_add_one, Bool.false_eq_true]
    cases callF prog k 4 [d] h <;> rfl
  · subst z
    have q : decide (((1 : Nat) : Int) = 0) = false := by decide
    have a : atI [D.fn 5, .fn 6, .fn 7, .fn 9] (((1 : Nat) : Int) - 1) = some (.fn 5) := rfl
    simp only [told_b, d_law_told, tdF, q, a, l2, l4, evSs, evS, evE, evL, evT, evTA, evTO, evF, evSrc, evO, evAnd, evOr, asgT, asgTs, cx_glob, cx_call, shal_int, shal_str, shal_tup, shal_lst, shal_non, shal_bl, bin_addi, bin_subi, bin_addt, bin_addl, bin_adds, bin_mod, bin_div, cmp_lt, cmp_le, cmp_gt, cmp_ge, cmp_eqi, cmp_nei, cmp_eqs, cmp_nes, cmp_ins, cmp_nins, cmp_isn, cmp_isns, item_tup, item_lst, bi_lens, bi_lent, bi_lenl, bi_int, bi_intb, bi_abs, bi_max2, bi_tuplel, bi_tuplet, itD, slice, seqD, pure_non, pure_bl, pure_int, pure_str, pure_tup, pure_lst, pures_nil, pures_cons, startF, List.replicate, List.length_cons, List.length_nil, List.set_cons_zero, List.set_cons_succ, List.getElem?_cons_zero, List.getElem?_cons_succ, List.getElem?_nil, Nat.zero_add, Nat.reduceAdd, Nat.reduceSub, Nat.reduceLT, Nat.reduceLeDiff, if_true, Bool.not_true, Bool.not_false, List.map_cons, List.map_nil, List.cons_append, List.nil_append, reduceIte, and_self, and_true, true_and, decide_true, decide_false, Bool.true_and, Bool.and_true, Bool.false_and, Bool.and_false, fin_non, fin_bl, fin_int, fin_str, finX_same', gt_iff_lt, Nat.lt_add_one, Bool.false_eq_true]
    cases callF prog k 5 [d] h <;> rfl
  · subst z
    have q : decide (((2 : Nat) : Int) = 0) = false := by decide
    have a : atI [D.fn 5, .fn 6, .fn 7, .fn 9] (((2 : Nat) : Int) - 1) = some (.fn 6) := rfl
    simp only [told_b, d_law_told, tdF, q, a, l2, l4, evSs, evS, evE, evL, evT, evTA, evTO, evF, evSrc, evO, evAnd, evOr, asgT, asgTs, cx_glob, cx_call, shal_int, shal_str, shal_tup, shal_lst, shal_non, shal_bl, bin_addi, bin_subi, bin_addt, bin_addl, bin_adds, bin_mod, bin_div, cmp_lt, cmp_le, cmp_gt, cmp_ge, cmp_eqi, cmp_nei, cmp_eqs, cmp_nes, cmp_ins, cmp_nins, cmp_isn, cmp_isns, item_tup, item_lst, bi_lens, bi_lent, bi_lenl, bi_int, bi_intb, bi_abs, bi_max2, bi_tuplel, bi_tuplet, itD, slice, seqD, pure_non, pure_bl, pure_int, pure_str, pure_tup, pure_lst, pures_nil, pures_cons, startF, List.replicate, List.length_cons, List.length_nil, List.set_cons_zero, List.set_cons_succ, List.getElem?_cons_zero, List.getElem?_cons_succ, List.getElem?_nil, Nat.zero_add, Nat.reduceAdd, Nat.reduceSub, Nat.reduceLT, Nat.reduceLeDiff, if_true, Bool.not_true, Bool.not_false, List.map_cons, List.map_nil, List.cons_append, List.nil_append, reduceIte, and_self, and_true, true_and, decide_true, decide_false, Bool.true_and, Bool.and_true, Bool.false_and, Bool.and_false, fin_non, fin_bl, fin_int, fin_str, finX_same', gt_iff_lt, Nat.lt_add_one, Bool.false_eq_true]
    cases callF prog k 6 [d] h <;> rfl
  · subst z
    have q : decide (((3 : Nat) : Int) = 0) = false := by decide
    have a : atI [D.fn 5, .fn 6, .fn 7, .fn 9] (((3 : Nat) : Int) - 1) = some (.fn 7) := rfl
    simp only [told_b, d_law_told, tdF, q, a, l2, l4, evSs, evS, evE, evL, evT, evTA, evTO, evF, evSrc, evO, evAnd, evOr, asgT, asgTs, cx_glob, cx_call, shal_int, shal_str, shal_tup, shal_lst, shal_non, shal_bl, bin_addi, bin_subi, bin_addt, bin_addl, bin_adds, bin_mod, bin_div, cmp_lt, cmp_le, cmp_gt, cmp_ge, cmp_eqi, cmp_nei, cmp_eqs, cmp_nes, cmp_ins, cmp_nins, cmp_isn, cmp_isns, item_tup, item_lst, bi_lens, bi_lent, bi_lenl, bi_int, bi_intb, bi_abs, bi_max2, bi_tuplel, bi_tuplet, itD, slice, seqD, pure_non, pure_bl, pure_int, pure_str, pure_tup, pure_lst, pures_nil, pures_cons, startF, List.replicate, List.length_cons, List.length_nil, List.set_cons_zero, List.set_cons_succ, List.getElem?_cons_zero, List.getElem?_cons_succ, List.getElem?_nil, Nat.zero_add, Nat.reduceAdd, Nat.reduceSub, Nat.reduceLT, Nat.reduceLeDiff, if_true, Bool.not_true, Bool.not_false, List.map_cons, List.map_nil, List.cons_append, List.nil_append, reduceIte, and_self, and_true, true_and, decide_true, decide_false, Bool.true_and, Bool.and_true, Bool.false_and, Bool.and_false, fin_non, fin_bl, fin_int, fin_str, finX_same', gt_iff_lt, Nat.lt_add_one, Bool.false_eq_true]
    cases callF prog k 7 [d] h <;> rfl
  · subst z
    have q : decide (((4 : Nat) : Int) = 0) = false := by decide
    have a : atI [D.fn 5, .fn 6, .fn 7, .fn 9] (((4 : Nat) : Int) - 1) = some (.fn 9) := rfl
    simp only [told_b, d_law_told, tdF, q, a, l2, l4, evSs, evS, evE, evL, evT, evTA, evTO, evF, evSrc, evO, evAnd, evOr, asgT, asgTs, cx_glob, cx_call, shal_int, shal_str, shal_tup, shal_lst, shal_non, shal_bl, bin_addi, bin_subi, bin_addt, bin_addl, bin_adds, bin_mod, bin_div, cmp_lt, cmp_le, cmp_gt, cmp_ge, cmp_eqi, cmp_nei, cmp_eqs, cmp_nes, cmp_ins, cmp_nins, cmp_isn, cmp_isns, item_tup, item_lst, bi_lens, bi_lent, bi_lenl, bi_int, bi_intb, bi_abs, bi_max2, bi_tuplel, bi_tuplet, itD, slice, seqD, pure_non, pure_bl, pure_int, pure_str, pure_tup, pure_lst, pures_nil, pures_cons, startF, List.replicate, List.length_cons, List.length_nil, List.set_cons_zero, List.set_cons_succ, List.getElem?_cons_zero, List.getElem?_cons_succ, List.getElem?_nil, Nat.zero_add, Nat.reduceAdd, Nat.reduceSub, Nat.reduceLT, Nat.reduceLeDiff, if_true, Bool.not_true, Bool.not_false, List.map_cons, List.map_nil, List.cons_append, List.nil_append, reduceIte, and_self, and_true, true_and, decide_true, decide_false, Bool.true_and, Bool.and_true, Bool.false_and, Bool.and_false, fin_non, fin_bl, fin_int, fin_str, finX_same', gt_iff_lt, Nat.lt_add_one, Bool.false_eq_true]
    cases callF prog k 9 [d] h <;> rfl
theorem tdV_pure {kd : Nat} {v : D} (hv : v.pure = true) : (tdV kd v).pure = true := by
  unfold tdV
  split
  · exact hv
  · simp [hv]
theorem told_ok {k : Nat} {h : Mem} {kd : Nat} (hk : kd ≤ 4) {d v : D} (hd : v.pure = true) (e : callF prog k (tdF kd) [d] h = .ok v h) : callF prog (k + 1) i_law_told [.int (kd : Int), d] h = .ok (tdV kd v) h := by
  rw [callF_out d_law_told rfl ⟨rfl, by decide⟩, told_body]
  have r := told_run k h kd hk d
  rw [e] at r
  refine st_rt (d := tdV kd v) (h1 := h) ?_ (fin_pure (tdV_pure hd))
  show evS _ _ [some (.int (kd : Int)), some d, none] h = _
  rw [evS, r]
  rfl
theorem told_exc {k : Nat} (hk1 : 1 ≤ k) {h : Mem} {kd : Nat} (hk : kd ≤ 4) {d t : D} (x : Nat) (hx : [0, 1, 2, 3, 4, 5].contains x = true) (ht : errT i_law_error x = some t) (hp : t.pure = true) (e : callF prog k (tdF kd) [d] h = .exc x .non h) : callF prog (k + 1) i_law_told [.int (kd : Int), d] h = .ok t h := by
  rw [callF_out d_law_told rfl ⟨rfl, by decide⟩, told_body]
  have r := told_run k h kd hk d
  rw [e] at r
  refine st_rt (d := t) (h1 := h) ?_ (fin_pure hp)
  show evS _ _ [some (.int (kd : Int)), some d, none] h = _
  obtain ⟨j, rfl⟩ : ∃ j, k = j + 1 := ⟨k - 1, by omega⟩
  have et : (prog.cx (j + 1) (callF prog (j + 1))).errT i_law_error x = some t := ht
  rw [evS, r]
  simp only [toldR, hx, et, if_true]
theorem errT1 : errT i_law_error 1 = some (.str RW) := rfl
theorem errT2 : errT i_law_error 2 = some (.str LW) := rfl
/-- what is due of a document that is one -/
def dueD (d : Doc) : Nat → D
  | 0 => .non
  | 1 => .tup [.str TW, .int (sz d : Int)]
  | 2 => .tup [.str TW, .int (dp d : Int)]
  | 3 => .tup [.str TW, .tup (toldL d)]
  | _ => .tup [.str TW, pathsD d]
theorem U_ok (hk : 100 ≤ k) (g : Good d) (few : sz d < 64) : ∀ kd, kd ≤ 4 → callF prog k i_law_told [.int ((kd : Nat) : Int), enc d] h = .ok (dueD d kd) h := by
  obtain ⟨j, rfl⟩ := at_level (show 1 ≤ k by omega)
  intro kd hkd
  have : kd = 0 ∨ kd = 1 ∨ kd = 2 ∨ kd = 3 ∨ kd = 4 := by omega
  rcases this with z | z | z | z | z
  · subst z; exact told_ok (kd := 0) hkd rfl (check_at (by omega) g)
  · subst z; exact told_ok (kd := 1) hkd rfl (size_ok (by omega) g)
  · subst z; exact told_ok (kd := 2) hkd rfl (depth_ok (by omega) g)
  · subst z; exact told_ok (kd := 3) hkd (by rw [pure_tup]; exact told_pure d) (signs_of_ok (by omega) g few)
  · subst z; exact told_ok (kd := 4) hkd (by unfold pathsD; rw [pure_lst]; exact paths_pure _) (paths_ok (by omega) g)
theorem first_exc {x : Nat} (hk : 60 ≤ k) (e : ∀ h, callF prog k i_check_document [enc d] h = .exc x .non h) : ∀ kd, kd ≤ 4 → ∀ h, callF prog (k + 1) (tdF kd) [enc d] h = .exc x .non h ∨ kd = 0 := by
  intro kd hkd h
  have : kd = 0 ∨ kd = 1 ∨ kd = 2 ∨ kd = 3 ∨ kd = 4 := by omega
  have ce : ∀ σ : Fr, σ[0]? = some (some (enc d)) → evS (prog.cx k (callF prog k)) (.expr (.call i_check_document (.cons (.v 0) .nil))) σ h = .exc x .non σ h := fun σ q => by
    rw [evS, evE, ev_cons (ev_v q) ev_nil]
    dsimp only
    rw [cx_call, e h]
  rcases this with z | z | z | z | z
  · exact .inr z
  · subst z
    refine .inl ?_
    show callF prog (k + 1) i_size [enc d] h = _
    rw [callF_out d_size rfl ⟨rfl, by decide⟩, d_size]
    exact st_exc (ce _ rfl) finX_same
  · subst z
    refine .inl ?_
    show callF prog (k + 1) i_depth [enc d] h = _
    rw [callF_out d_depth rfl ⟨rfl, by decide⟩, d_depth]
    exact st_exc (ce _ rfl) finX_same
  · subst z
    refine .inl ?_
    show callF prog (k + 1) i_signs_of [enc d] h = _
    rw [callF_out d_signs_of rfl ⟨rfl, by decide⟩, d_signs_of]
    exact st_exc (ce _ rfl) finX_same
  · subst z
    refine .inl ?_
    show callF prog (k + 1) i_paths [enc d] h = _
    rw [callF_out d_paths rfl ⟨rfl, by decide⟩, d_paths]
    exact st_exc (ce _ rfl) finX_same
theorem U_odd (hk : 100 ≤ k) (g : Odd d) (kd : Nat) (hkd : kd ≤ 4) : callF prog k i_law_told [.int (kd : Int), enc d] h = .ok (.str RW) h := by
  obtain ⟨j, rfl⟩ := at_level (show 2 ≤ k by omega)
  refine told_exc (k := j + 1) (by omega) hkd 1 (by decide) errT1 rfl ?_
  rcases first_exc (k := j) (x := 1) (by omega) (fun h => check_odd (by omega) g) kd hkd h with z | z
  · exact z
  · subst z
    exact check_odd (k := j + 1) (by omega) g
theorem U_large (hk : 100 ≤ k) (dk : dp d ≤ 50) (big : 300 < sz d ∨ 40 < dp d) (kd : Nat) (hkd : kd ≤ 4) : callF prog k i_law_told [.int (kd : Int), enc d] h = .ok (.str LW) h := by
  obtain ⟨j, rfl⟩ := at_level (show 3 ≤ k by omega)
  refine told_exc (k := j + 2) (by omega) hkd 2 (by decide) errT2 rfl ?_
  rcases first_exc (k := j + 1) (x := 2) (by omega) (fun h => check_large j d h (by omega) big) kd hkd h with z | z
  · exact z
  · subst z
    exact check_large (j + 1) d h (by omega) big
/-! ### signs told -/
def sgt_b : CSs := match d_law_signs_told.body with
  | .cons (.try_ b _ _) _ => b
  | _ => .nil
theorem sgt_body : d_law_signs_told.body = .cons (.try_ sgt_b [0, 1, 2, 3, 4, 5] (.err i_law_error)) .nil := rfl
theorem signs_told_ok (hk : 10 ≤ k) (es : List Se) (ne : es ≠ []) (hl : es.length ≤ 1000) (hw : ∀ x ∈ es, x.1.length ≤ 1000) : callF prog k i_law_signs_told [.tup (es.map sgE)] h = .ok (if ris es = true ∧ es.all okS = true then .non else .str RW) h := by
  obtain ⟨j, rfl⟩ := at_level (show 2 ≤ k by omega)
  rw [callF_out d_law_signs_told rfl ⟨rfl, by decide⟩, sgt_body]
  have c := check_signs_ok (k := j + 1) (h := h) (by omega) es ne hl hw
  have fr0 : startF 2 [.tup (es.map sgE)] = [some (.tup (es.map sgE)), none] := rfl
  by_cases z : ris es = true ∧ es.all okS = true
  · rw [if_pos z] at c ⊢
    refine st_rt (d := .non) (h1 := h) ?_ fin_non
    show evS _ _ [some (.tup (es.map sgE)), none] h = _
    have r : evSs (prog.cx (j + 1) (callF prog (j + 1))) sgt_b [some (.tup (es.map sgE)), none] h = .rt .non h := sq_rt (ev_ret (evE_callx (ev_cons (ev_v rfl) ev_nil) c))
    rw [evS, r]
  · rw [if_neg z] at c ⊢
    refine st_rt (d := .str RW) (h1 := h) ?_ fin_str
    show evS _ _ [some (.tup (es.map sgE)), none] h = _
    have r : evSs (prog.cx (j + 1) (callF prog (j + 1))) sgt_b [some (.tup (es.map sgE)), none] h = .exc 1 .non [some (.tup (es.map sgE)), none] h := by
      refine seq_exc ?_
      rw [evS, evE, ev_cons (ev_v rfl) ev_nil]
      dsimp only
      rw [cx_call, show callF prog (j + 1) 8 [.tup (es.map sgE)] h = _ from c]
    have et : (prog.cx (j + 1) (callF prog (j + 1))).errT i_law_error 1 = some (.str RW) := errT1
    have hx : [0, 1, 2, 3, 4, 5].contains 1 = true := by decide
    rw [evS, r]
    simp only [hx, et, if_true]
end K00
end
section
set_option Elab.async false
set_option autoImplicit false
set_option maxRecDepth 100000
set_option linter.all false
/-! N35: chains, exact ones; how long the texts are. -/
namespace K00
open Ev
variable {k : Nat} {h : Mem} {d : Doc}
def chn : Nat → Doc
  | 0 => .mk [97] []
  | n + 1 => .mk [103] [chn n]
theorem chn_ok : ∀ n, okd (chn n) = true
  | 0 => by decide
  | n + 1 => by
    have l : lab [103] = true := by decide
    rw [chn, okd, okds, okds, chn_ok n, l]
    rfl
theorem chn_sz : ∀ n, sz (chn n) = n + 1
  | 0 => rfl
  | n + 1 => by rw [chn, sz, szs, szs, chn_sz n]; omega
theorem chn_dp : ∀ n, dp (chn n) = n
  | 0 => rfl
  | n + 1 => by rw [chn, dp, dps, dps, chn_dp n]; omega
theorem enc_chn (m : Nat) : enc (chn (m + 1)) = .tup [.str [103], enc (chn m)] := by rw [chn, enc, encs, encs]
theorem chain_loop (M : Option D) : ∀ (m j : Nat) (i : Int) (o2 : Option D), ∃ q2 : Option D, forL (evSs (prog.cx k (callF prog k)) b_law_chain_0) (.nm 2) (rngL i 1 m) [M, some (enc (chn j)), o2] h = .nx [M, some (enc (chn (j + m))), q2] h := by
  intro m
  induction m with
  | zero =>
    intro j i o2
    exact ⟨o2, rfl⟩
  | succ m ih =>
    intro j i o2
    obtain ⟨r2, e⟩ := ih (j + 1) (i + 1) (some (.int i))
    refine ⟨r2, ?_⟩
    have hb : evSs (prog.cx k (callF prog k)) b_law_chain_0 [M, some (enc (chn j)), some (.int i)] h = .nx [M, some (enc (chn (j + 1))), some (.int i)] h := by
      rw [b_law_chain_0, enc_chn]
      exact sq_nx (evS_asg (p2 (ev_c rfl) (ev_v rfl)) rfl) sq_nil
    rw [rngL, forL_nx rfl hb, e, show j + 1 + m = j + (m + 1) by omega]
theorem law_chain_ok (hk : 1 ≤ k) (m : Nat) (hm : m ≤ 1000) : callF prog k i_law_chain [.int (m : Int)] h = .ok (enc (chn m)) h := by
  obtain ⟨j, rfl⟩ := at_level hk
  rw [callF_out d_law_chain rfl ⟨rfl, by decide⟩, d_law_chain]
  have fr0 : startF 3 [.int (m : Int)] = [some (.int (m : Int)), none, none] := rfl
  rw [fr0]
  have t0 : evS (prog.cx j (callF prog j)) (.asg (.nm 1) (.tup (.cons (.c (.str [97])) .nil))) [some (.int (m : Int)), none, none] h = .nx [some (.int (m : Int)), some (enc (chn 0)), none] h :=
    evS_asg (d := enc (chn 0)) (by rw [show enc (chn 0) = .tup [.str [97]] from by rw [chn, enc, encs]]; exact p1 (ev_c rfl)) rfl
  obtain ⟨q2, e⟩ := chain_loop (k := j) (h := h) (some (.int (m : Int))) m 0 ((0 : Nat) : Int) none
  rw [Nat.zero_add] at e
  have ea : evL (prog.cx j (callF prog j)) (.cons (.v 0) .nil) [some (.int (m : Int)), some (enc (chn 0)), none] h = .ok [.int (m : Int)] h := ev_cons (ev_v rfl) ev_nil
  exact st_nx t0 (st_nx ((evS_for (evSrc_rng ea (rng_len (n := m) (by omega)))).trans e) (st_rt (ev_ret (ev_v rfl)) (fin_pure (enc_pure _))))
theorem exact_small (hk : 3 ≤ k) (n : Nat) (h1 : 1 ≤ n) (h3 : n ≤ 3) : callF prog k i_law_exact [.int (n : Int)] h = .ok (enc (ex n n)) h := by
  rw [law_exact_ok k n h h1 (by omega) (by omega), ex_same k n n h1 (by omega) (Nat.le_refl n)]
theorem exact_lo (j : Nat) : ∀ (k n : Nat) (h : Mem), 1 ≤ n → n ≤ 3 * 2 ^ j → j + 3 ≤ k → callF prog k i_law_exact [.int (n : Int)] h = .ok (enc (ex n n)) h := by
  induction j with
  | zero =>
    intro k n h h1 h2 hk
    rw [Nat.pow_zero] at h2
    exact exact_small (by omega) n h1 (by omega)
  | succ j ih =>
    intro k n h h1 h2 hk
    rw [Nat.pow_succ] at h2
    have p : 1 ≤ 2 ^ j := Nat.one_le_two_pow
    by_cases n3 : n ≤ 3
    · exact exact_small (by omega) n h1 n3
    · obtain ⟨k, rfl⟩ := at_level (show 1 ≤ k by omega)
      obtain ⟨f, rfl⟩ : ∃ f, n = f + 1 := ⟨n - 1, by omega⟩
      have c1 := ih k ((f + 1 - 1) / 3) h (by omega) (by omega) (by omega)
      have c2 := ih k (f + 1 - 1 - 2 * ((f + 1 - 1) / 3)) h (by omega) (by omega) (by omega)
      rw [callF_out d_law_exact rfl ⟨rfl, by decide⟩, d_law_exact, ex, if_neg (by omega), if_neg (by omega)]
      rw [ex_same f ((f + 1 - 1) / 3) ((f + 1 - 1) / 3) (by omega) (by omega) (Nat.le_refl _), ex_same f (f + 1 - 1 - 2 * ((f + 1 - 1) / 3)) (f + 1 - 1 - 2 * ((f + 1 - 1) / 3)) (by omega) (by omega) (Nat.le_refl _)]
      have l4 : 4 ≤ LIM := by decide
      have fr0 : startF 2 [.int ((f + 1 : Nat) : Int)] = [some (.int ((f + 1 : Nat) : Int)), none] := rfl
      rw [fr0]
      have n4 : 4 ≤ f + 1 := by omega
      generalize hn : f + 1 = n at *
      have t0 : evS (prog.cx k (callF prog k)) (.ite (.e (.cmp .eq (.v 0) (.c (.int 1)))) (.cons (.ret (.tup (.cons (.c (.str [97])) .nil))) .nil) .nil) [some (.int (n : Int)), none] h = .nx [some (.int (n : Int)), none] h := by
        have d : decide ((n : Int) = 1) = false := decide_eq_false (by omega)
        simp only [d, evSs, evS, evE, evL, evT, evTA, evTO, evF, evSrc, evO, evAnd, evOr, asgT, asgTs, cx_glob, cx_call, shal_int, shal_str, shal_tup, shal_lst, shal_non, shal_bl, bin_addi, bin_subi, bin_addt, bin_addl, bin_adds, bin_mod, bin_div, cmp_lt, cmp_le, cmp_gt, cmp_ge, cmp_eqi, cmp_nei, cmp_eqs, cmp_nes, cmp_ins, cmp_nins, cmp_isn, cmp_isns, item_tup, item_lst, bi_lens, bi_lent, bi_lenl, bi_int, bi_intb, bi_abs, bi_max2, bi_tuplel, bi_tuplet, itD, slice, seqD, pure_non, pure_bl, pure_int, pure_str, pure_tup, pure_lst, pures_nil, pures_cons, startF, List.replicate, List.length_cons, List.length_nil, List.set_cons_zero, List.set_cons_succ, List.getElem?_cons_zero, List.getElem?_cons_succ, List.getElem?_nil, Nat.zero_add, Nat.reduceAdd, Nat.reduceSub, Nat.reduceLT, Nat.reduceLeDiff, if_true, Bool.not_true, Bool.not_false, List.map_cons, List.map_nil, List.cons_append, List.nil_append, reduceIte, and_self, and_true, true_and, decide_true, decide_false, Bool.true_and, Bool.and_true, Bool.false_and, Bool.and_false, fin_non, fin_bl, fin_int, fin_str, finX_same', gt_iff_lt, Nat.lt_add_one, Bool.false_eq_true]
      have m2 : binop .mul (.int 2) (.int (((n - 1) / 3 : Nat) : Int)) = some (.int (2 * (((n - 1) / 3 : Nat) : Int))) := mul_l (by decide)
      have e2 : (n : Int) - 1 - 2 * (((n - 1) / 3 : Nat) : Int) = ((n - 1 - 2 * ((n - 1) / 3) : Nat) : Int) := by omega
      have e1 : ((n : Int) - 1) / 3 = (((n - 1) / 3 : Nat) : Int) := by omega
      have p3 : (0 : Int) < 3 ∧ (3 : Int) < 1073741824 := by decide
      have t1 : evS (prog.cx k (callF prog k)) (.ite (.e (.cmp .lt (.v 0) (.c (.int 4)))) (.cons (.ret (.tup (.cons (.c (.str [103])) (.cons (.call i_law_exact (.cons (.bin .sub (.v 0) (.c (.int 1))) .nil)) .nil)))) .nil) .nil) [some (.int (n : Int)), none] h = .nx [some (.int (n : Int)), none] h := by
        have d : decide ((n : Int) < 4) = false := decide_eq_false (by omega)
        simp only [d, evSs, evS, evE, evL, evT, evTA, evTO, evF, evSrc, evO, evAnd, evOr, asgT, asgTs, cx_glob, cx_call, shal_int, shal_str, shal_tup, shal_lst, shal_non, shal_bl, bin_addi, bin_subi, bin_addt, bin_addl, bin_adds, bin_mod, bin_div, cmp_lt, cmp_le, cmp_gt, cmp_ge, cmp_eqi, cmp_nei, cmp_eqs, cmp_nes, cmp_ins, cmp_nins, cmp_isn, cmp_isns, item_tup, item_lst, bi_lens, bi_lent, bi_lenl, bi_int, bi_intb, bi_abs, bi_max2, bi_tuplel, bi_tuplet, itD, slice, seqD, pure_non, pure_bl, pure_int, pure_str, pure_tup, pure_lst, pures_nil, pures_cons, startF, List.replicate, List.length_cons, List.length_nil, List.set_cons_zero, List.set_cons_succ, List.getElem?_cons_zero, List.getElem?_cons_succ, List.getElem?_nil, Nat.zero_add, Nat.reduceAdd, Nat.reduceSub, Nat.reduceLT, Nat.reduceLeDiff, if_true, Bool.not_true, Bool.not_false, List.map_cons, List.map_nil, List.cons_append, List.nil_append, reduceIte, and_self, and_true, true_and, decide_true, decide_false, Bool.true_and, Bool.and_true, Bool.false_and, Bool.and_false, fin_non, fin_bl, fin_int, fin_str, finX_same', gt_iff_lt, Nat.lt_add_one, Bool.false_eq_true]
      have t2 : evS (prog.cx k (callF prog k)) (.asg (.nm 1) (.bin .fdiv (.bin .sub (.v 0) (.c (.int 1))) (.c (.int 3)))) [some (.int (n : Int)), none] h = .nx [some (.int (n : Int)), some (.int (((n - 1) / 3 : Nat) : Int))] h := by
        simp only [e1, p3, evSs, evS, evE, evL, evT, evTA, evTO, evF, evSrc, evO, evAnd, evOr, asgT, asgTs, cx_glob, cx_call, shal_int, shal_str, shal_tup, shal_lst, shal_non, shal_bl, bin_addi, bin_subi, bin_addt, bin_addl, bin_adds, bin_mod, bin_div, cmp_lt, cmp_le, cmp_gt, cmp_ge, cmp_eqi, cmp_nei, cmp_eqs, cmp_nes, cmp_ins, cmp_nins, cmp_isn, cmp_isns, item_tup, item_lst, bi_lens, bi_lent, bi_lenl, bi_int, bi_intb, bi_abs, bi_max2, bi_tuplel, bi_tuplet, itD, slice, seqD, pure_non, pure_bl, pure_int, pure_str, pure_tup, pure_lst, pures_nil, pures_cons, startF, List.replicate, List.length_cons, List.length_nil, List.set_cons_zero, List.set_cons_succ, List.getElem?_cons_zero, List.getElem?_cons_succ, List.getElem?_nil, Nat.zero_add, Nat.reduceAdd, Nat.reduceSub, Nat.reduceLT, Nat.reduceLeDiff, if_true, Bool.not_true, Bool.not_false, List.map_cons, List.map_nil, List.cons_append, List.nil_append, reduceIte, and_self, and_true, true_and, decide_true, decide_false, Bool.true_and, Bool.and_true, Bool.false_and, Bool.and_false, fin_non, fin_bl, fin_int, fin_str, finX_same', gt_iff_lt, Nat.lt_add_one, Bool.false_eq_true]
      generalize (n - 1) / 3 = t at c1 c2 m2 e2 t2 ⊢
      generalize ex t t = x1 at c1 ⊢
      generalize n - 1 - 2 * t = u at c2 e2 ⊢
      generalize ex u u = x2 at c2 ⊢
      refine st_nx t0 (st_nx t1 (st_nx t2 (st_rt (d := enc (.mk [102] [x1, x1, x2])) (h1 := h) ?_ (fin_pure (enc_pure _)))))
      rw [show enc (.mk [102] [x1, x1, x2]) = .tup [.str [102], enc x1, enc x1, enc x2] from by rw [enc, encs, encs, encs, encs]]
      simp only [l4, m2, e2, c1, c2, evSs, evS, evE, evL, evT, evTA, evTO, evF, evSrc, evO, evAnd, evOr, asgT, asgTs, cx_glob, cx_call, shal_int, shal_str, shal_tup, shal_lst, shal_non, shal_bl, bin_addi, bin_subi, bin_addt, bin_addl, bin_adds, bin_mod, bin_div, cmp_lt, cmp_le, cmp_gt, cmp_ge, cmp_eqi, cmp_nei, cmp_eqs, cmp_nes, cmp_ins, cmp_nins, cmp_isn, cmp_isns, item_tup, item_lst, bi_lens, bi_lent, bi_lenl, bi_int, bi_intb, bi_abs, bi_max2, bi_tuplel, bi_tuplet, itD, slice, seqD, pure_non, pure_bl, pure_int, pure_str, pure_tup, pure_lst, pures_nil, pures_cons, startF, List.replicate, List.length_cons, List.length_nil, List.set_cons_zero, List.set_cons_succ, List.getElem?_cons_zero, List.getElem?_cons_succ, List.getElem?_nil, Nat.zero_add, Nat.reduceAdd, Nat.reduceSub, Nat.reduceLT, Nat.reduceLeDiff, if_true, Bool.not_true, Bool.not_false, List.map_cons, List.map_nil, List.cons_append, List.nil_append, reduceIte, and_self, and_true, true_and, decide_true, decide_false, Bool.true_and, Bool.and_true, Bool.false_and, Bool.and_false, fin_non, fin_bl, fin_int, fin_str, finX_same', gt_iff_lt, Nat.lt_add_one, Bool.false_eq_true]
theorem ex_good {n : Nat} (h1 : 1 ≤ n) (h3 : n ≤ 384) : okd (ex n n) = true ∧ sz (ex n n) = n ∧ dp (ex n n) ≤ 9 :=
  ⟨ex_ok n n, ex_sz n n h1 (Nat.le_refl n), ex_dp 7 n n h1 (Nat.le_refl n) (by omega)⟩
/-! ### how long -/
mutual
theorem sub_idx : ∀ (d : Doc) (p : List Nat) (s : Doc), sub d p = some s → ∀ i ∈ p, i < sz d
  | .mk l ks, [], s, _, i, m => by cases m
  | .mk l ks, j :: p, s, e, i, m => by
    rw [sub] at e
    cases q : ks[j]? with
    | none => rw [q] at e; cases e
    | some c =>
      rw [q] at e
      have lk := len_szs ks
      have jl := (List.getElem?_eq_some_iff.mp q).1
      rw [sz]
      rcases List.mem_cons.mp m with z | z
      · subst z; omega
      · have := subs_idx ks j p s c q e i z
        omega
theorem subs_idx : ∀ (ks : List Doc) (j : Nat) (p : List Nat) (s c : Doc), ks[j]? = some c → sub c p = some s → ∀ i ∈ p, i < szs ks
  | [], j, p, s, c, e, _, i, m => by simp at e
  | a :: ks, 0, p, s, c, e, h, i, m => by
    simp at e
    subst e
    have := sub_idx a p s h i m
    rw [szs]
    omega
  | a :: ks, j + 1, p, s, c, e, h, i, m => by
    have := subs_idx ks j p s c (by simpa using e) h i m
    rw [szs]
    omega
end
theorem fn_int {i : Nat} (h : i < 1000) : Fn (.int (i : Int)) 100 0 := by
  have := log_small h
  exact ⟨by rw [D.fine, decide_eq_true (by omega)], by rw [D.wt]; omega, Nat.le_refl _⟩
theorem fn_sg {x : Sg} (h1 : lab x.1 = true) (h2 : x.2 ≤ 3) : Fn (sgD x) 300 1 := by
  have l := lab_len h1
  have g := fn_int (i := x.2) (by omega)
  have gf := g.f
  have gw := g.w
  refine ⟨?_, ?_, ?_⟩
  · rw [sgD, D.fine, D.fines, D.fines, D.fines, gf]; rfl
  · have ws : (D.str x.1).wt = 10 * x.1.length + 3 := rfl
    rw [sgD, D.wt, D.wts, D.wts, D.wts, ws]; omega
  · exact Nat.le_refl 1
theorem tup_fn {w e n : Nat} {xs : List D} (hl : xs.length ≤ n) (h : ∀ x ∈ xs, Fn x w e) : Fn (.tup xs) (n * (w + 2) + 4) (e + 1) := by
  obtain ⟨a, b, c⟩ := all_fn hl h
  exact ⟨by rw [D.fine, a], by rw [D.wt]; omega, by rw [D.dep]; omega⟩
theorem fn_tw {x : D} {w e : Nat} (g : Fn x w e) : Fn (.tup [.str TW, x]) (w + 61) (e + 1) := by
  have gf := g.f
  have gw := g.w
  have gd := g.d
  refine ⟨?_, ?_, ?_⟩
  · rw [D.fine, D.fines, D.fines, D.fines, gf]; rfl
  · rw [D.wt, D.wts, D.wts, D.wts, D.wt]; simp; omega
  · have ds : (D.str TW).dep = 0 := rfl
    rw [D.dep, D.deps, D.deps, D.deps, ds]; omega
theorem ok_all (o : okd d = true) : ∀ x ∈ nl d [], lab x.2.lb = true ∧ x.2.ks.length ≤ 3 := by
  rw [← nl_all d [], List.all_eq_true] at o
  intro x hx
  have := o x hx
  unfold okN at this
  rw [Bool.and_eq_true, decide_eq_true_eq] at this
  exact this
theorem fn_toldL (o : okd d = true) (z : sz d ≤ 20) : Fn (.tup (toldL d)) 7000 2 := by
  obtain ⟨sg, e, hin, hl⟩ := told_sg d
  rw [e]
  refine fn_mono (tup_fn (w := 300) (e := 1) (n := 20) (by rw [List.length_map]; omega) fun y hy => ?_) (by decide) (by decide)
  obtain ⟨x, hx, rfl⟩ := List.mem_map.mp hy
  obtain ⟨q, hq, rfl⟩ := List.mem_map.mp (hin x hx)
  obtain ⟨h1, h2⟩ := ok_all o q hq
  exact fn_sg h1 h2
theorem fn_paths (z : sz d ≤ 20) : Fn (pathsD d) 7000 2 := by
  unfold pathsD
  refine fn_mono (lst_fn (w := 304) (e := 1) (n := 20) (by rw [List.length_map, nl_len]; omega) fun y hy => ?_) (by decide) (by decide)
  obtain ⟨x, hx, rfl⟩ := List.mem_map.mp hy
  obtain ⟨q, q1, q2⟩ := nl_mem d [] x hx
  rw [List.nil_append] at q1
  have pl := sub_dp d q _ q2
  have dd := dp_sz d
  have ix := sub_idx d q _ q2
  refine fn_mono (path_fn (m := 20) ⟨by rw [pD_len, q1]; omega, fun a ha => ?_⟩) (by decide) (Nat.le_refl _)
  unfold pD at ha
  obtain ⟨i, hi, rfl⟩ := List.mem_map.mp ha
  rw [q1] at hi
  exact ⟨i, rfl, by have := ix i hi; omega⟩
theorem fn_due (o : okd d = true) (z : sz d ≤ 20) : Fn (.lst ([0, 1, 2, 3, 4].map (dueD d))) 900000 60 := by
  have dd := dp_sz d
  refine fn_mono (lst_fn (w := 10000) (e := 3) (n := 5) (by simp) fun y hy => ?_) (by decide) (by decide)
  obtain ⟨x, hx, rfl⟩ := List.mem_map.mp hy
  have : x = 0 ∨ x = 1 ∨ x = 2 ∨ x = 3 ∨ x = 4 := by simpa using hx
  rcases this with q | q | q | q | q
  · subst q; exact ⟨rfl, by show 5 ≤ 10000; decide, Nat.zero_le _⟩
  · subst q; exact fn_mono (fn_tw (fn_int (i := sz d) (by omega))) (by decide) (by decide)
  · subst q; exact fn_mono (fn_tw (fn_int (i := dp d) (by omega))) (by decide) (by decide)
  · subst q; exact fn_mono (fn_tw (fn_toldL o z)) (by decide) (by decide)
  · subst q; exact fn_mono (fn_tw (fn_paths z)) (by decide) (by decide)
theorem due_pure : D.pures ([0, 1, 2, 3, 4].map (dueD d)) = true := by
  show ((dueD d 0).pure && ((dueD d 1).pure && ((dueD d 2).pure && ((dueD d 3).pure && ((dueD d 4).pure && true))))) = true
  have h3 : (dueD d 3).pure = true := by
    show (D.tup [.str TW, .tup (toldL d)]).pure = true
    simp [told_pure d]
  have h4 : (dueD d 4).pure = true := by
    show (D.tup [.str TW, pathsD d]).pure = true
    unfold pathsD
    simp [paths_pure]
  rw [h3, h4]
  rfl
end K00
end
section
set_option Elab.async false
set_option autoImplicit false
set_option maxRecDepth 100000
set_option linter.all false
/-! N36: the law's turn. -/
namespace K00
open Ev
abbrev LF (sc : D) (n : Nat) (o2 o3 o4 o5 o6 o7 o8 o9 o10 o11 o12 o13 o14 o15 o16 o17 : Option D) : Fr := [some sc, some (.loc n), o2, o3, o4, o5, o6, o7, o8, o9, o10, o11, o12, o13, o14, o15, o16, o17]
variable {k : Nat} {n : Nat} {is : List Int} {sc : D} {d : Doc}
theorem good_of {d : Doc} (o : okd d = true) (z : sz d ≤ 40) : Good d := ⟨o, by omega, by have := dp_sz d; omega⟩
theorem repr_enc {h : Mem} (o : okd d = true) (z : sz d ≤ 50) : biF .repr [enc d] h = some (.rep (enc d)) := by
  have f := fnE o z
  obtain ⟨l, ks⟩ := d
  have p := enc_pure (.mk l ks)
  rw [enc] at f p ⊢
  exact repr_ok (by rw [pure_tup] at p; exact p) (fn_mono f (by decide) (by decide))
theorem evTO3 {C : Cx} {σ : Fr} {h h1 h2 h3 : Mem} {r s t : CT} {b : Bool} (q0 : evT C r σ h = .ok false h1) (q1 : evT C s σ h1 = .ok false h2) (q2 : evT C t σ h2 = .ok b h3) : evT C (.or (.cons r (.cons s (.cons t .nil)))) σ h = .ok b h3 := by
  rw [evT, evTO, q0]
  · dsimp only
    have := evTO2 q1 q2
    rw [evT] at this
    exact this
  · intro z; cases z
theorem rep_e {C : Cx} {σ : Fr} {h : Mem} {a : CE} {w : List Nat} (ha : evE C a σ h = .ok (.str w) h) (m : Nat) (hm : m ≤ 1000) : evE C (.fr (.rep (.fr (.lst (.cons a .nil))) (.c (.int (m : Int))))) σ h = .ok (.lst (strD (List.replicate m w))) h := by
  have e1 : evE C (.fr (.lst (.cons a .nil))) σ h = .ok (.lst [.str w]) h := ev_lst (ev_cons ha ev_nil) (by show 1 ≤ LIM; decide)
  have e2 : evE C (.c (.int (m : Int))) σ h = .ok (.int (m : Int)) h := ev_c rfl
  have c : (0 : Int) ≤ (m : Int) ∧ (m : Int) ≤ (LIM : Nat) ∧ [D.str w].length * ((m : Int)).toNat ≤ LIM := by
    have l1 : m ≤ LIM := lim_lt (by omega)
    refine ⟨by omega, by omega, ?_⟩
    show 1 * ((m : Int)).toNat ≤ LIM
    rw [Nat.one_mul, Int.toNat_natCast]
    exact l1
  rw [evE, evF, e1]
  dsimp only
  rw [e2]
  dsimp only
  rw [shal_lst]
  dsimp only
  rw [if_pos c, Int.toNat_natCast, List.flatten_replicate_singleton, strD, List.map_replicate]
theorem rng5 {C : Cx} {σ : Fr} {h : Mem} : evSrc C (.rng (.cons (.c (.int 5)) .nil)) σ h = .ok ([0, 1, 2, 3, 4].map fun i : Nat => D.int (i : Int)) h := by
  have ea : evL C (.cons (.c (.int 5)) .nil) σ h = .ok [.int ((5 : Nat) : Int)] h := ev_cons (ev_c rfl) ev_nil
  exact evSrc_rng ea (rng_len (n := 5) (by decide))
abbrev R5 : List D := strD (List.replicate 5 RW)
theorem fn_R5 : Fn (.lst R5) 900000 60 := by
  refine fn_mono (lst_fn (w := 10003) (e := 0) (n := 5) (by decide) fun y hy => ?_) (by decide) (by decide)
  obtain ⟨x, hx, rfl⟩ := List.mem_map.mp hy
  rw [List.eq_of_mem_replicate hx]
  exact fn_str RW (by decide)
theorem ne_R5 {h : Mem} : cmpop h .ne (.lst R5) (.lst R5) = some false := by
  rw [cmp_ne rfl rfl (by decide) (by decide)]
  rfl
/-- all five told -/
theorem five {C : Cx} {σ : Fr} {h : Mem} {e : CE} {F : Nat → D} {fr : Nat → Fr} (ha : ∀ i : Nat, asgT (.nm 17) (.int (i : Int)) σ = some (fr i)) (he : ∀ i : Nat, i ≤ 4 → evE C e (fr i) h = .ok (F i) h) : evE C (.fr (.lc e (.nm 17) (.rng (.cons (.c (.int 5)) .nil)) .yes)) σ h = .ok (.lst ([0, 1, 2, 3, 4].map F)) h := by
  have lp := lcL_on (elt := evE C e) (test := evT C .yes) (t := .nm 17) (σ := σ) (h := h) (fun i : Nat => .int (i : Int)) F (fun _ => true) fr [0, 1, 2, 3, 4] [] (fun i hi => ⟨ha i, by rw [evT], fun _ => he i (by
    have : i = 0 ∨ i = 1 ∨ i = 2 ∨ i = 3 ∨ i = 4 := by simpa using hi
    omega)⟩) (by show 0 + 5 ≤ LIM; decide)
  rw [List.filter_eq_self.mpr fun _ _ => rfl, List.nil_append] at lp
  exact ev_lc rng5 lp
theorem turn_a (hk : 206 ≤ k) (hI : Is is) {h : Mem} {c : Nat} (e : h[n]? = some (stB is c)) (hc : c + 400 < 2 ^ 60) (o2 o3 o4 o5 o6 o7 o8 o9 o10 o11 o12 o13 o14 o15 o16 o17 : Option D) :
    ∃ (d : Doc) (sg : List Sg) (c' : Nat), okd d = true ∧ sz d ≤ 20 ∧ Sgs sg ∧ ris (sg.map up) = true ∧ c ≤ c' ∧ c' ≤ c + 300 ∧ ∀ ss, evSs (prog.cx k (callF prog k)) (.cons u_law_0 (.cons u_law_1 (.cons u_law_2 (.cons u_law_3 (.cons u_law_4 (.cons u_law_5 ss)))))) (LF sc n o2 o3 o4 o5 o6 o7 o8 o9 o10 o11 o12 o13 o14 o15 o16 o17) h =
      evSs (prog.cx k (callF prog k)) ss (LF sc n o2 (some (.lst ((nl d []).map ndD))) o4 o5 (some (.tup (sg.map sgD))) (some (enc d)) (some (.rep (enc d))) (some (.tup (toldL d))) (some (.lst ([0, 1, 2, 3, 4].map (dueD d)))) o11 o12 o13 o14 o15 o16 o17) (h.set n (stB is c')) := by
  have hn := get_lt e
  have gs : ∀ a : Ob, (h.set n a)[n]? = some a := fun a => set_get hn
  have ss : ∀ a b : Ob, (h.set n a).set n b = h.set n b := fun a b => by rw [List.set_set]
  have S := law_signs_ok (k := k) (by omega) hI e (m := 6) (by decide) (by decide) (by omega)
  obtain ⟨sg, c0, e0, hS, a1, a2, ys, esg, can⟩ := S
  have rs := sg_ris esg can
  obtain ⟨r, hr, e1⟩ := nx_ok (k := k) (by omega) hI (gs (stB is c0)) (by omega) (show 0 < 20 by decide)
  rw [ss] at e1
  obtain ⟨d, c1, e2, b1, b2, od, zd⟩ := law_document_ok k (1 + r) (h.set n (stB is (c0 + 1))) n is (c0 + 1) sg (by omega) (by omega) (by omega) hI hS (gs _) (by omega)
  rw [ss] at e2
  have er : (1 : Int) + (r : Int) = ((1 + r : Nat) : Int) := by omega
  have e1' : callF prog k i_law_next [.loc n, .int 20] (h.set n (stB is c0)) = .ok (.int (r : Int)) (h.set n (stB is (c0 + 1))) := e1
  have zd' : sz d ≤ 20 := by omega
  have dd := dp_sz d
  refine ⟨d, sg, c1, od, zd', hS, rs, by omega, by omega, fun rest => ?_⟩
  refine sq_nx (h1 := h.set n (stB is c0)) (σ1 := (LF sc n o2 o3 o4 o5 (some (.tup (sg.map sgD))) o7 o8 o9 o10 o11 o12 o13 o14 o15 o16 o17)) ?_ ?_
  · exact evS_asg (evE_callx (ev_cons (ev_v rfl) (ev_cons (ev_c rfl) ev_nil)) e0) rfl
  refine sq_nx (h1 := h.set n (stB is c1)) (σ1 := (LF sc n o2 o3 o4 o5 (some (.tup (sg.map sgD))) (some (enc d)) o8 o9 o10 o11 o12 o13 o14 o15 o16 o17)) ?_ ?_
  · exact evS_asg (evE_callx (ev_cons (ev_v rfl) (ev_cons (ev_v rfl) (ev_cons (ev_bin (ev_c rfl) (evE_callx (ev_cons (ev_v rfl) (ev_cons (ev_c rfl) ev_nil)) e1') (by rw [shal_int, shal_int, bin_addi, er])) ev_nil))) e2) rfl
  generalize h.set n (stB is c1) = hh
  refine sq_nx (h1 := hh) (σ1 := (LF sc n o2 o3 o4 o5 (some (.tup (sg.map sgD))) (some (enc d)) (some (.rep (enc d))) o9 o10 o11 o12 o13 o14 o15 o16 o17)) ?_ ?_
  · exact evS_asg (ev_bi (ev_cons (ev_v rfl) ev_nil) (repr_enc od (by omega))) rfl
  refine sq_nx (h1 := hh) (σ1 := (LF sc n o2 (some (.lst ((nl d []).map ndD))) o4 o5 (some (.tup (sg.map sgD))) (some (enc d)) (some (.rep (enc d))) o9 o10 o11 o12 o13 o14 o15 o16 o17)) ?_ ?_
  · exact evS_asg (evE_callx (ev_cons (ev_v rfl) (ev_cons t0l ev_nil)) (law_nodes_at (by omega) (by omega))) rfl
  refine sq_nx (h1 := hh) (σ1 := (LF sc n o2 (some (.lst ((nl d []).map ndD))) o4 o5 (some (.tup (sg.map sgD))) (some (enc d)) (some (.rep (enc d))) (some (.tup (toldL d))) o10 o11 o12 o13 o14 o15 o16 o17)) ?_ ?_
  · have lp := lcL_on (elt := evE (prog.cx k (callF prog k)) e_law_0) (test := evT (prog.cx k (callF prog k)) .yes) (t := .tp (.cons (.nm 15) (.cons (.nm 16) .nil))) (σ := (LF sc n o2 (some (.lst ((nl d []).map ndD))) o4 o5 (some (.tup (sg.map sgD))) (some (enc d)) (some (.rep (enc d))) o9 o10 o11 o12 o13 o14 o15 o16 o17)) (h := hh) ndD (fun x => sgD (sgOf x)) (fun _ => true) (fun x => (LF sc n o2 (some (.lst ((nl d []).map ndD))) o4 o5 (some (.tup (sg.map sgD))) (some (enc d)) (some (.rep (enc d))) o9 o10 o11 o12 o13 o14 (some (.tup (pD x.1))) (some (enc x.2)) o17)) (nl d []) [] (fun x _ => ⟨rfl, by rw [evT], fun _ => sg_elt rfl⟩) (by rw [List.length_nil, nl_len]; exact lim_lt (by omega))
    rw [List.filter_eq_self.mpr fun _ _ => rfl, List.nil_append, show (nl d []).map (fun x => sgD (sgOf x)) = ((nl d []).map sgOf).map sgD from by rw [List.map_map]; rfl] at lp
    have can : canSet (((nl d []).map sgOf).map sgD) = true := sg_canSet (by rw [List.length_map, nl_len]; omega)
    have sc : evE (prog.cx k (callF prog k)) (.fr (.sortset (.fr (.lc e_law_0 (.tp (.cons (.nm 15) (.cons (.nm 16) .nil))) (.it (.v 3)) .yes)))) (LF sc n o2 (some (.lst ((nl d []).map ndD))) o4 o5 (some (.tup (sg.map sgD))) (some (enc d)) (some (.rep (enc d))) o9 o10 o11 o12 o13 o14 o15 o16 o17) hh = .ok (.lst (toldL d)) hh := by
      rw [evE, evF, ev_lc (evSrc_it (ev_v rfl) rfl) lp]
      dsimp only
      rw [shal_lst]
      dsimp only
      rw [if_pos can]
      rfl
    exact evS_asg (ev_bi (ev_cons sc ev_nil) bi_tuplel) rfl
  refine sq_nx (h1 := hh) (σ1 := (LF sc n o2 (some (.lst ((nl d []).map ndD))) o4 o5 (some (.tup (sg.map sgD))) (some (enc d)) (some (.rep (enc d))) (some (.tup (toldL d))) (some (.lst ([0, 1, 2, 3, 4].map (dueD d)))) o11 o12 o13 o14 o15 o16 o17)) ?_ rfl
  have lp := lcL_on (elt := evE (prog.cx k (callF prog k)) e_law_1) (test := evT (prog.cx k (callF prog k)) .yes) (t := .tp (.cons (.nm 15) (.cons (.nm 16) .nil))) (σ := (LF sc n o2 (some (.lst ((nl d []).map ndD))) o4 o5 (some (.tup (sg.map sgD))) (some (enc d)) (some (.rep (enc d))) (some (.tup (toldL d))) o10 o11 o12 o13 o14 o15 o16 o17)) (h := hh) ndD (fun x => .tup (pD x.1)) (fun _ => true) (fun x => (LF sc n o2 (some (.lst ((nl d []).map ndD))) o4 o5 (some (.tup (sg.map sgD))) (some (enc d)) (some (.rep (enc d))) (some (.tup (toldL d))) o10 o11 o12 o13 o14 (some (.tup (pD x.1))) (some (enc x.2)) o17)) (nl d []) [] (fun x _ => ⟨rfl, by rw [evT], fun _ => ev_v rfl⟩) (by rw [List.length_nil, nl_len]; exact lim_lt (by omega))
  rw [List.filter_eq_self.mpr fun _ _ => rfl, List.nil_append] at lp
  have ld := law_depth_ok k d hh (by omega) (by omega)
  have b : biF .len [.lst ((nl d []).map ndD)] hh = some (.int (sz d : Int)) := by rw [bi_lenl, List.length_map, nl_len]
  exact evS_asg (ev_lst (ev_cons (ev_c rfl) (ev_cons (p2 (ev_c rfl) (ev_bi (ev_cons (ev_v rfl) ev_nil) b)) (ev_cons (p2 (ev_c rfl) (evE_callx (ev_cons (ev_v rfl) ev_nil) ld)) (ev_cons (p2 (ev_c rfl) (ev_v rfl)) (ev_cons (p2 (ev_c rfl) (ev_lc (evSrc_it (ev_v rfl) rfl) lp)) ev_nil))))) (by show 5 ≤ LIM; decide)) rfl
theorem turn_b (hk : 206 ≤ k) (hI : Is is) (od : okd d = true) (zd : sz d ≤ 20) {sg : List Sg} (hS : Sgs sg) (rs : ris (sg.map up) = true) {h : Mem} {c : Nat} (e : h[n]? = some (stB is c)) (hc : c + 400 < 2 ^ 60) (o2 o3 o4 o5 o9 o11 o12 o13 o14 o15 o16 o17 : Option D) :
    ∃ (q10 q11 : Option D), ∀ ss, evSs (prog.cx k (callF prog k)) (.cons u_law_6 (.cons u_law_7 (.cons u_law_8 (.cons u_law_9 ss)))) (LF sc n o2 o3 o4 o5 (some (.tup (sg.map sgD))) (some (enc d)) (some (.rep (enc d))) o9 (some (.lst ([0, 1, 2, 3, 4].map (dueD d)))) o11 o12 o13 o14 o15 o16 o17) h =
      evSs (prog.cx k (callF prog k)) ss (LF sc n o2 o3 o4 o5 (some (.tup (sg.map sgD))) (some (enc d)) (some (.rep (enc d))) o9 q10 q11 o12 o13 o14 o15 o16 o17) (h.set n (stB is (c + 3))) := by
  have gd := good_of od (by omega)
  have ne : sg.map up ≠ [] := by
    obtain ⟨l, hl⟩ := hS.leaf
    intro z
    rw [List.map_eq_nil_iff] at z
    rw [z] at hl
    cases hl
  have all : (sg.map up).all okS = true := by
    rw [List.all_eq_true]
    intro x hx
    obtain ⟨y, hy, rfl⟩ := List.mem_map.mp hx
    obtain ⟨h1, h2⟩ := hS.ok y hy
    unfold okS up
    rw [Bool.and_eq_true]
    exact ⟨h1, decide_eq_true ⟨by show (0 : Int) ≤ (y.2 : Int); omega, by show (y.2 : Int) ≤ 3; omega⟩⟩
  have st := signs_told_ok (k := k) (h := h) (by omega) (sg.map up) ne (by rw [List.length_map]; have := hS.len; omega) fun x hx => by
    obtain ⟨y, hy, rfl⟩ := List.mem_map.mp hx
    have := lab_len (hS.ok y hy).1
    show y.1.length ≤ 1000
    omega
  rw [if_pos ⟨rs, all⟩, ← up_map] at st
  have tl := five (C := prog.cx k (callF prog k)) (h := h) (σ := (LF sc n o2 o3 o4 o5 (some (.tup (sg.map sgD))) (some (enc d)) (some (.rep (enc d))) o9 (some (.lst ([0, 1, 2, 3, 4].map (dueD d)))) o11 o12 o13 o14 o15 o16 o17)) (e := e_law_2) (F := dueD d) (fr := fun i => (LF sc n o2 o3 o4 o5 (some (.tup (sg.map sgD))) (some (enc d)) (some (.rep (enc d))) o9 (some (.lst ([0, 1, 2, 3, 4].map (dueD d)))) o11 o12 o13 o14 o15 o16 (some (.int (i : Int))))) (fun i => rfl) fun i hi => evE_callx (ev_cons (ev_v rfl) (ev_cons (ev_v rfl) ev_nil)) (U_ok (by omega) gd (by omega) i hi)
  have c6 : callF prog k i_law_same [.lst ([0, 1, 2, 3, 4].map (dueD d)), .lst ([0, 1, 2, 3, 4].map (dueD d))] h = .ok (.bl true) h := same_pure (by omega) (by rw [pure_lst]; exact due_pure) (fn_due od zd)
  obtain ⟨y, ey, oy, zy⟩ := odd_ok (k := k) (by omega) hI e (by omega) od zd
  have hn := get_lt e
  refine ⟨some (.str RW), some (enc y), fun rest => ?_⟩
  refine sq_nx (h1 := h) (σ1 := (LF sc n o2 o3 o4 o5 (some (.tup (sg.map sgD))) (some (enc d)) (some (.rep (enc d))) o9 (some (.lst ([0, 1, 2, 3, 4].map (dueD d)))) o11 o12 o13 o14 o15 o16 o17)) ?_ ?_
  · refine (evS_ite (v := false) (h1 := h) (evTO2 (evT_not (b := true) (evT_e (evE_callx (ev_cons tl (ev_cons (ev_v rfl) ev_nil)) c6))) (evT_e (ev_cmp (evE_callx (ev_cons (ev_v rfl) ev_nil) st) (ev_c rfl) rfl)))).trans ?_
    rw [if_neg (by decide), sq_nil]
  refine sq_nx (h1 := h.set n (stB is (c + 3))) (σ1 := (LF sc n o2 o3 o4 o5 (some (.tup (sg.map sgD))) (some (enc d)) (some (.rep (enc d))) o9 (some (.lst ([0, 1, 2, 3, 4].map (dueD d)))) (some (enc y)) o12 o13 o14 o15 o16 o17)) ?_ ?_
  · exact evS_asg (evE_callx (ev_cons (ev_v rfl) (ev_cons (ev_v rfl) ev_nil)) ey) rfl
  generalize h.set n (stB is (c + 3)) = hh
  have du := due_ok (k := k) (h := hh) (by omega) oy.sh oy.s oy.d
  rw [oy.no, if_neg (by decide)] at du
  refine sq_nx (h1 := hh) (σ1 := (LF sc n o2 o3 o4 o5 (some (.tup (sg.map sgD))) (some (enc d)) (some (.rep (enc d))) o9 (some (.str RW)) (some (enc y)) o12 o13 o14 o15 o16 o17)) ?_ ?_
  · exact evS_asg (evE_callx (ev_cons (ev_v rfl) ev_nil) du) rfl
  refine sq_nx (h1 := hh) (σ1 := (LF sc n o2 o3 o4 o5 (some (.tup (sg.map sgD))) (some (enc d)) (some (.rep (enc d))) o9 (some (.str RW)) (some (enc y)) o12 o13 o14 o15 o16 o17)) ?_ rfl
  have tl2 := five (C := prog.cx k (callF prog k)) (h := hh) (σ := (LF sc n o2 o3 o4 o5 (some (.tup (sg.map sgD))) (some (enc d)) (some (.rep (enc d))) o9 (some (.str RW)) (some (enc y)) o12 o13 o14 o15 o16 o17)) (e := e_law_3) (F := fun _ => .str RW) (fr := fun i => (LF sc n o2 o3 o4 o5 (some (.tup (sg.map sgD))) (some (enc d)) (some (.rep (enc d))) o9 (some (.str RW)) (some (enc y)) o12 o13 o14 o15 o16 (some (.int (i : Int))))) (fun i => rfl) fun i hi => evE_callx (ev_cons (ev_v rfl) (ev_cons (ev_v rfl) ev_nil)) (U_odd (by omega) oy i hi)
  have c9 : callF prog k i_law_same [.lst R5, .lst R5] hh = .ok (.bl true) hh := same_pure (by omega) rfl fn_R5
  have ne1 : cmpop hh .ne (.str RW) (.str RW) = some false := by rw [cmp_nes]; rfl
  have ne2 : cmpop hh .ne (.rep (enc d)) (.rep (enc d)) = some false := by
    show (if (enc d).beq (enc d) then some false else none) = _
    rw [D.beq_refl, if_pos rfl]
  refine (evS_ite (v := false) (h1 := hh) (evTO3 (evT_not (b := true) (evT_e (evE_callx (ev_cons tl2 (ev_cons (rep_e (w := RW) (ev_v rfl) 5 (by decide)) ev_nil)) c9))) (evT_e (ev_cmp (ev_v rfl) (ev_c rfl) ne1)) (evT_e (ev_cmp (ev_bi (ev_cons (ev_v rfl) ev_nil) (repr_enc od (by omega))) (ev_v rfl) ne2)))).trans ?_
  rw [if_neg (by decide), sq_nil]
end K00
end
section
set_option Elab.async false
set_option autoImplicit false
set_option maxRecDepth 100000
set_option linter.all false
/-! N37: signs that are none; the law. -/
namespace K00
open Ev
variable {k : Nat} {n : Nat} {is : List Int} {sc : D} {d : Doc}
theorem twice_zip {α : Type} (a : α) : ∀ l : List α, (a, a) ∈ (l ++ [a, a]).zip ((l ++ [a, a]).drop 1)
  | [] => by simp
  | [b] => by simp
  | b :: c :: l => by
    have := twice_zip a (c :: l)
    rw [List.cons_append, List.drop_succ_cons, List.drop_zero] at this
    rw [List.cons_append, List.cons_append, List.drop_succ_cons, List.drop_zero, List.zip_cons_cons]
    exact List.mem_cons_of_mem _ this
theorem ris_twice (es : List Se) (x : Se) : ris (es ++ [x, x]) = false := by
  cases q : ris (es ++ [x, x]) with
  | false => rfl
  | true =>
    unfold ris at q
    have := List.all_eq_true.mp q (x, x) (twice_zip x es)
    have nl : ¬ x.2 < x.2 := by omega
    rw [sgE_lt, if_pos rfl, decide_eq_false nl] at this
    cases this
theorem cut_last {α : Type} (xs : List α) (x : α) : cut (xs ++ [x]) (some (-1)) none = [x] := by
  unfold cut
  have s1 : sIx (xs ++ [x]).length 0 (some (-1)) = xs.length := by
    show (if (0 : Int) ≤ -1 then min (-1 : Int).toNat (xs ++ [x]).length else ((-1 : Int) + (xs ++ [x]).length).toNat) = _
    rw [if_neg (by decide), List.length_append, List.length_cons, List.length_nil]
    omega
  have s2 : sIx (xs ++ [x]).length (xs ++ [x]).length none = (xs ++ [x]).length := rfl
  rw [s1, s2, List.drop_left, List.length_append]
  simp
/-- rows of signs that are none -/
def bads (es : List Se) (x : Se) : List (List Se) := [es ++ [x, x], [([98], 0), ([97], 0)], [([97], 4)], [([97], -1)], [([65], 0)]]
theorem bads_no {es : List Se} {x : Se} (hl : es.length ≤ 100) (h1 : ∀ y ∈ es, y.1.length ≤ 12) (h2 : x.1.length ≤ 12) : ∀ b ∈ bads es x, b ≠ [] ∧ b.length ≤ 1000 ∧ (∀ y ∈ b, y.1.length ≤ 1000) ∧ ¬ (ris b = true ∧ b.all okS = true) := by
  intro b hb
  rcases List.mem_cons.mp hb with q | hb
  · subst q
    refine ⟨by simp, by rw [List.length_append]; simp; omega, fun y hy => ?_, fun z => by rw [ris_twice] at z; cases z.1⟩
    rcases List.mem_append.mp hy with z | z
    · have := h1 y z; omega
    · have : y = x := by simpa using z
      subst this; omega
  have rest : ∀ b ∈ ([[([98], 0), ([97], 0)], [([97], 4)], [([97], -1)], [([65], 0)]] : List (List Se)), b ≠ [] ∧ b.length ≤ 1000 ∧ (∀ y ∈ b, y.1.length ≤ 1000) ∧ ¬ (ris b = true ∧ b.all okS = true) := by decide
  exact rest b hb
theorem turn_c (hk : 206 ≤ k) {sg : List Sg} (hS : Sgs sg) {h : Mem} (o2 o3 o4 o5 o7 o8 o9 o10 o11 o12 o13 o14 o15 o16 o17 : Option D) :
    ∃ q12 : Option D, evSs (prog.cx k (callF prog k)) (.cons u_law_10 (.cons u_law_11 .nil)) (LF sc n o2 o3 o4 o5 (some (.tup (sg.map sgD))) o7 o8 o9 o10 o11 o12 o13 o14 o15 o16 o17) h = .nx (LF sc n o2 o3 o4 o5 (some (.tup (sg.map sgD))) o7 o8 o9 o10 o11 q12 o13 o14 o15 o16 o17) h := by
  obtain ⟨es, x, ex⟩ : ∃ (es : List Se) (x : Se), sg.map up = es ++ [x] := by
    obtain ⟨l, hl⟩ := hS.leaf
    have ne : sg.map up ≠ [] := by
      intro z
      rw [List.map_eq_nil_iff] at z
      rw [z] at hl
      cases hl
    exact ⟨(sg.map up).dropLast, (sg.map up).getLast ne, (List.dropLast_concat_getLast ne).symm⟩
  have lw : ∀ y ∈ sg.map up, y.1.length ≤ 12 := fun y hy => by
    obtain ⟨z, hz, rfl⟩ := List.mem_map.mp hy
    exact lab_len (hS.ok z hz).1
  have ll := congrArg List.length ex
  have hl := hS.len
  rw [List.length_map, List.length_append] at ll
  simp only [List.length_cons, List.length_nil] at ll
  rw [up_map, ex]
  have bn := bads_no (es := es) (x := x) (by omega) (fun y hy => lw y (by rw [ex]; exact List.mem_append_left _ hy)) (lw x (by rw [ex]; simp))
  refine ⟨some (.lst ((bads es x).map fun b => .tup (b.map sgE))), ?_⟩
  have y1 : evE (prog.cx k (callF prog k)) (.bin .add (.v 6) (.sl (.v 6) (.so (.neg (.c (.int 1)))) .no)) (LF sc n o2 o3 o4 o5 (some (.tup ((es ++ [x]).map sgE))) o7 o8 o9 o10 o11 o12 o13 o14 o15 o16 o17) h = .ok (.tup ((es ++ [x, x]).map sgE)) h := by
    have ct : cut ((es ++ [x]).map sgE) (some (-1)) none = [sgE x] := by
      rw [List.map_append]
      exact cut_last _ _
    have s : evE (prog.cx k (callF prog k)) (.sl (.v 6) (.so (.neg (.c (.int 1)))) .no) (LF sc n o2 o3 o4 o5 (some (.tup ((es ++ [x]).map sgE))) o7 o8 o9 o10 o11 o12 o13 o14 o15 o16 o17) h = .ok (.tup [sgE x]) h := by
      simp only [LF, ct, evSs, evS, evE, evL, evT, evTA, evTO, evF, evSrc, evO, evAnd, evOr, asgT, asgTs, cx_glob, cx_call, shal_int, shal_str, shal_tup, shal_lst, shal_non, shal_bl, bin_addi, bin_subi, bin_addt, bin_addl, bin_adds, bin_mod, bin_div, cmp_lt, cmp_le, cmp_gt, cmp_ge, cmp_eqi, cmp_nei, cmp_eqs, cmp_nes, cmp_ins, cmp_nins, cmp_isn, cmp_isns, item_tup, item_lst, bi_lens, bi_lent, bi_lenl, bi_int, bi_intb, bi_abs, bi_max2, bi_tuplel, bi_tuplet, itD, slice, seqD, pure_non, pure_bl, pure_int, pure_str, pure_tup, pure_lst, pures_nil, pures_cons, startF, List.replicate, List.length_cons, List.length_nil, List.set_cons_zero, List.set_cons_succ, List.getElem?_cons_zero, List.getElem?_cons_succ, List.getElem?_nil, Nat.zero_add, Nat.reduceAdd, Nat.reduceSub, Nat.reduceLT, Nat.reduceLeDiff, if_true, Bool.not_true, Bool.not_false, List.map_cons, List.map_nil, List.cons_append, List.nil_append, reduceIte, and_self, and_true, true_and, decide_true, decide_false, Bool.true_and, Bool.and_true, Bool.false_and, Bool.and_false, fin_non, fin_bl, fin_int, fin_str, finX_same', gt_iff_lt, Nat.lt_add_one, Bool.false_eq_true]
    refine ev_bin (ev_v rfl) s ?_
    rw [shal_tup, shal_tup, bin_addt, if_pos (lim_lt (by rw [List.length_map, List.length_append]; simp; omega))]
    simp
  have l5 : 5 ≤ LIM := by decide
  refine sq_nx (h1 := h) (σ1 := (LF sc n o2 o3 o4 o5 (some (.tup ((es ++ [x]).map sgE))) o7 o8 o9 o10 o11 (some (.lst ((bads es x).map fun b => .tup (b.map sgE)))) o13 o14 o15 o16 o17)) ?_ (sq_nx ?_ sq_nil)
  · refine evS_asg (ev_lst (ev_cons y1 (ev_cons (p2 (p2 (ev_c rfl) (ev_c rfl)) (p2 (ev_c rfl) (ev_c rfl))) (ev_cons (p1 (p2 (ev_c rfl) (ev_c rfl))) (ev_cons (p1 (p2 (ev_c rfl) (by rw [evE, ev_c rfl]))) (ev_cons (p1 (p2 (ev_c rfl) (ev_c rfl))) ev_nil))))) l5) rfl
  · have lp := lcL_on (elt := evE (prog.cx k (callF prog k)) e_law_4) (test := evT (prog.cx k (callF prog k)) .yes) (t := .nm 14) (σ := (LF sc n o2 o3 o4 o5 (some (.tup ((es ++ [x]).map sgE))) o7 o8 o9 o10 o11 (some (.lst ((bads es x).map fun b => .tup (b.map sgE)))) o13 o14 o15 o16 o17)) (h := h) (fun b : List Se => .tup (b.map sgE)) (fun _ => .str RW) (fun _ => true) (fun b => (LF sc n o2 o3 o4 o5 (some (.tup ((es ++ [x]).map sgE))) o7 o8 o9 o10 o11 (some (.lst ((bads es x).map fun b => .tup (b.map sgE)))) o13 (some (.tup (b.map sgE))) o15 o16 o17)) (bads es x) [] (fun b hb => ⟨rfl, by rw [evT], fun _ => by
      obtain ⟨b1, b2, b3, b4⟩ := bn b hb
      have st := signs_told_ok (k := k) (h := h) (by omega) b b1 b2 b3
      rw [if_neg b4] at st
      exact evE_callx (ev_cons (ev_v rfl) ev_nil) st⟩) (by show 0 + 5 ≤ LIM; exact l5)
    rw [List.filter_eq_self.mpr fun _ _ => rfl, List.nil_append] at lp
    refine (evS_ite (v := false) (h1 := h) (evT_e (ev_cmp (ev_lc (evSrc_it (ev_v rfl) rfl) lp) (rep_ok RW 5 (by decide)) ne_R5))).trans ?_
    rw [if_neg (by decide), sq_nil]
theorem turn_ok (hk : 206 ≤ k) (hI : Is is) {h : Mem} {c : Nat} (e : h[n]? = some (stB is c)) (hc : c + 900 < 2 ^ 60) (o2 o3 o4 o5 o6 o7 o8 o9 o10 o11 o12 o13 o14 o15 o16 o17 : Option D) :
    ∃ (p3 p6 p7 p8 p9 p10 p11 p12 : Option D) (h' : Mem) (c' : Nat), evSs (prog.cx k (callF prog k)) b_law_0 (LF sc n o2 o3 o4 o5 o6 o7 o8 o9 o10 o11 o12 o13 o14 o15 o16 o17) h = .nx (LF sc n o2 p3 o4 o5 p6 p7 p8 p9 p10 p11 p12 o13 o14 o15 o16 o17) h' ∧ h'[n]? = some (stB is c') ∧ c' ≤ c + 400 := by
  have A := turn_a (n := n) (sc := sc) hk hI e (by omega) o2 o3 o4 o5 o6 o7 o8 o9 o10 o11 o12 o13 o14 o15 o16 o17
  obtain ⟨d, sg, c1, od, zd, hS, rs, x1, x2, ea⟩ := A
  have hn := get_lt e
  have e1 : (h.set n (stB is c1))[n]? = some (stB is c1) := set_get hn
  generalize h.set n (stB is c1) = hA at ea e1
  have B := turn_b (n := n) (sc := sc) hk hI od zd hS rs e1 (by omega) o2 (some (.lst ((nl d []).map ndD))) o4 o5 (some (.tup (toldL d))) o11 o12 o13 o14 o15 o16 o17
  obtain ⟨q10, q11, eb⟩ := B
  have hnA := get_lt e1
  have e2 : (hA.set n (stB is (c1 + 3)))[n]? = some (stB is (c1 + 3)) := set_get hnA
  generalize hA.set n (stB is (c1 + 3)) = hB at eb e2
  have Cc := turn_c (n := n) (sc := sc) (h := hB) hk hS o2 (some (.lst ((nl d []).map ndD))) o4 o5 (some (enc d)) (some (.rep (enc d))) (some (.tup (toldL d))) q10 q11 o12 o13 o14 o15 o16 o17
  obtain ⟨q12, ec⟩ := Cc
  exact ⟨some (.lst ((nl d []).map ndD)), some (.tup (sg.map sgD)), some (enc d), some (.rep (enc d)), some (.tup (toldL d)), q10, q11, q12, hB, c1 + 3, (ea _).trans ((eb _).trans ec), e2, by omega⟩
theorem law_loop (hk : 206 ≤ k) (hI : Is is) : ∀ (m : Nat) (i : Int) (h : Mem) (c : Nat) (o2 o3 o4 o5 o6 o7 o8 o9 o10 o11 o12 o13 o14 o15 o16 o17 : Option D), h[n]? = some (stB is c) → c + 1000 * m < 2 ^ 59 →
    ∃ (p2 p3 p6 p7 p8 p9 p10 p11 p12 : Option D) (h' : Mem) (c' : Nat), forL (evSs (prog.cx k (callF prog k)) b_law_0) (.nm 2) (rngL i 1 m) (LF sc n o2 o3 o4 o5 o6 o7 o8 o9 o10 o11 o12 o13 o14 o15 o16 o17) h = .nx (LF sc n p2 p3 o4 o5 p6 p7 p8 p9 p10 p11 p12 o13 o14 o15 o16 o17) h' ∧ h'[n]? = some (stB is c') ∧ c' ≤ c + 400 * m := by
  intro m
  induction m with
  | zero =>
    intro i h c o2 o3 o4 o5 o6 o7 o8 o9 o10 o11 o12 o13 o14 o15 o16 o17 e _
    exact ⟨o2, o3, o6, o7, o8, o9, o10, o11, o12, h, c, rfl, e, by omega⟩
  | succ m ih =>
    intro i h c o2 o3 o4 o5 o6 o7 o8 o9 o10 o11 o12 o13 o14 o15 o16 o17 e hc
    have T := turn_ok (n := n) (sc := sc) hk hI e (by omega) (some (.int i)) o3 o4 o5 o6 o7 o8 o9 o10 o11 o12 o13 o14 o15 o16 o17
    obtain ⟨p3, p6, p7, p8, p9, p10, p11, p12, h1, c1, e1, g1, b1⟩ := T
    have I := ih (i + 1) h1 c1 (some (.int i)) p3 o4 o5 p6 p7 p8 p9 p10 p11 p12 o13 o14 o15 o16 o17 g1 (by omega)
    obtain ⟨q2, q3, q6, q7, q8, q9, q10, q11, q12, h2, c2, e2, g2, b2⟩ := I
    exact ⟨q2, q3, q6, q7, q8, q9, q10, q11, q12, h2, c2, by rw [rngL, forL_nx rfl e1, e2], g2, by omega⟩
end K00
end
section
set_option Elab.async false
set_option autoImplicit false
set_option maxRecDepth 100000
set_option linter.all false
/-! N38: the law. -/
namespace K00
open Ev
variable {k : Nat}
abbrev AC : Doc := .mk [65] [chn 41]
def ls3 : List (Doc × D) := [(chn 40, .non), (chn 41, .str LW), (AC, .str LW)]
def lws : List (List Nat) := [[97], [97, 49], [], [65], [49], [97, 95], [97, 98, 99, 100, 101, 102, 103, 104, 105, 106, 107, 108], [97, 98, 99, 100, 101, 102, 103, 104, 105, 106, 107, 108, 109], [63, 120], [97, 32, 98]]
def wbs : List Bool := [true, true, false, false, false, false, true, false, false, false]
theorem lws_is : lws.map lab = wbs ∧ ∀ w ∈ lws, w.length ≤ 1000 := by decide
theorem bl_eqv (l : List Bool) : (D.lst (l.map D.bl)).eqv (.lst (l.map D.bl)) = true := by
  rw [D.eqv]
  induction l with
  | nil => rfl
  | cons b l ih =>
    rw [List.map_cons, D.eqvs, ih, D.eqv]
    cases b <;> rfl
theorem law_ok (hk : 206 ≤ k) (ns : List Int) (hn : ns.length ≤ 63) : ∃ h1, callF prog (k + 1) i_law [.scr (ns.map .int)] [] = .ok (.bl true) h1 := by
  obtain ⟨k1, hk1⟩ := at_level (show 1 ≤ k by omega)
  obtain ⟨is, i1, i2, e0⟩ := law_stream_ok k1 [] ns hn
  rw [← hk1] at e0
  have hI : Is is := ⟨i1, i2⟩
  have l2 : 2 ≤ LIM := by decide
  have l4 : 4 ≤ LIM := by decide
  have l10 : 10 ≤ LIM := by decide
  generalize hsc : (D.scr (ns.map .int)) = sc at *
  have t0 : evS (prog.cx k (callF prog k)) s_law_0 [some sc, none, none, none, none, none, none, none, none, none, none, none, none, none, none, none, none, none] [] = .nx (LF sc 0 none none none none none none none none none none none none none none none none) [stB is 0] := by
    simp only [LF, s_law_0, e0, l2, evSs, evS, evE, evL, evT, evTA, evTO, evF, evSrc, evO, evAnd, evOr, asgT, asgTs, cx_glob, cx_call, shal_int, shal_str, shal_tup, shal_lst, shal_non, shal_bl, bin_addi, bin_subi, bin_addt, bin_addl, bin_adds, bin_mod, bin_div, cmp_lt, cmp_le, cmp_gt, cmp_ge, cmp_eqi, cmp_nei, cmp_eqs, cmp_nes, cmp_ins, cmp_nins, cmp_isn, cmp_isns, item_tup, item_lst, bi_lens, bi_lent, bi_lenl, bi_int, bi_intb, bi_abs, bi_max2, bi_tuplel, bi_tuplet, itD, slice, seqD, pure_non, pure_bl, pure_int, pure_str, pure_tup, pure_lst, pures_nil, pures_cons, startF, List.replicate, List.length_cons, List.length_nil, List.set_cons_zero, List.set_cons_succ, List.getElem?_cons_zero, List.getElem?_cons_succ, List.getElem?_nil, Nat.zero_add, Nat.reduceAdd, Nat.reduceSub, Nat.reduceLT, Nat.reduceLeDiff, if_true, Bool.not_true, Bool.not_false, List.map_cons, List.map_nil, List.cons_append, List.nil_append, reduceIte, and_self, and_true, true_and, decide_true, decide_false, Bool.true_and, Bool.and_true, Bool.false_and, Bool.and_false, fin_non, fin_bl, fin_int, fin_str, finX_same', gt_iff_lt, Nat.lt_add_one, Bool.false_eq_true]
    rfl
  have L := law_loop (n := 0) (sc := sc) hk hI 5 0 [stB is 0] 0 none none none none none none none none none none none none none none none none rfl (by omega)
  obtain ⟨p2, p3, p6, p7, p8, p9, p10, p11, p12, h1, c1, e1, g1, b1⟩ := L
  have ea : evL (prog.cx k (callF prog k)) (.cons (.c (.int 5)) .nil) (LF sc 0 none none none none none none none none none none none none none none none none) [stB is 0] = .ok [.int ((5 : Nat) : Int)] [stB is 0] := ev_cons (ev_c rfl) ev_nil
  have t1 := (evS_for (b := b_law_0) (t := .nm 2) (evSrc_rng ea (rng_len (n := 5) (by decide)))).trans e1
  -- chains
  have ch : ∀ (m : Nat) (σ : Fr), m ≤ 1000 → evE (prog.cx k (callF prog k)) (.call i_law_chain (.cons (.c (.int (m : Int))) .nil)) σ h1 = .ok (enc (chn m)) h1 := fun m σ hm => evE_callx (ev_cons (ev_c rfl) ev_nil) (law_chain_ok (by omega) m hm)
  have eAC : enc AC = .tup [.str [65], enc (chn 41)] := by rw [enc, encs, encs]
  have t2 : evS (prog.cx k (callF prog k)) s_law_2 (LF sc 0 p2 p3 none none p6 p7 p8 p9 p10 p11 p12 none none none none none) h1 = .nx (LF sc 0 p2 (some (.lst (ls3.map fun x => enc x.1))) none none p6 p7 p8 p9 p10 p11 p12 none none none none none) h1 := by
    have x3 : evE (prog.cx k (callF prog k)) (.bin .add (.tup (.cons (.c (.str [65])) .nil)) (.tup (.cons (.call i_law_chain (.cons (.c (.int 41)) .nil)) .nil))) (LF sc 0 p2 p3 none none p6 p7 p8 p9 p10 p11 p12 none none none none none) h1 = .ok (enc AC) h1 := by
      rw [eAC]
      exact ev_bin (p1 (ev_c rfl)) (p1 (ch 41 _ (by decide))) (by rw [shal_tup, shal_tup, bin_addt, if_pos (by show 1 + 1 ≤ LIM; exact l2)]; rfl)
    exact evS_asg (q3 (ch 40 _ (by decide)) (ch 41 _ (by decide)) x3) rfl
  have T3 : ∀ x ∈ ls3, callF prog k i_law_told [.int 0, enc x.1] h1 = .ok x.2 h1 := by
    intro x hx
    rcases List.mem_cons.mp hx with q | hx
    · subst q
      exact U_ok (k := k) (h := h1) (by omega) ⟨chn_ok 40, by rw [chn_sz]; decide, by rw [chn_dp]; decide⟩ (by rw [chn_sz]; decide) 0 (by decide)
    rcases List.mem_cons.mp hx with q | hx
    · subst q
      exact U_large (k := k) (h := h1) (by omega) (by rw [chn_dp]; decide) (.inr (by rw [chn_dp]; decide)) 0 (by decide)
    rcases List.mem_cons.mp hx with q | hx
    · subst q
      have : dp AC = 42 := by rw [dp, dps, dps, chn_dp]; rfl
      exact U_large (k := k) (h := h1) (by omega) (by rw [this]; decide) (.inr (by rw [this]; decide)) 0 (by decide)
    cases hx
  have lp := lcL_on (elt := evE (prog.cx k (callF prog k)) e_law_5) (test := evT (prog.cx k (callF prog k)) .yes) (t := .nm 14) (σ := LF sc 0 p2 (some (.lst (ls3.map fun x => enc x.1))) none none p6 p7 p8 p9 p10 p11 p12 none none none none none) (h := h1) (fun x : Doc × D => enc x.1) (fun x => x.2) (fun _ => true) (fun x => LF sc 0 p2 (some (.lst (ls3.map fun x => enc x.1))) none none p6 p7 p8 p9 p10 p11 p12 none (some (enc x.1)) none none none) ls3 [] (fun x hx => ⟨rfl, by rw [evT], fun _ => evE_callx (ev_cons (ev_c rfl) (ev_cons (ev_v rfl) ev_nil)) (T3 x hx)⟩) (by show 0 + 3 ≤ LIM; decide)
  rw [List.filter_eq_self.mpr fun _ _ => rfl, List.nil_append] at lp
  have c3 : callF prog k i_law_same [.lst (ls3.map fun x => x.2), .lst (ls3.map fun x => x.2)] h1 = .ok (.bl true) h1 := by
    refine same_pure (by omega) rfl (fn_mono (lst_fn (w := 10003) (e := 0) (n := 3) (by decide) fun y hy => ?_) (by decide) (by decide))
    have : y = .non ∨ y = .str LW ∨ y = .str LW := by simpa [ls3] using hy
    rcases this with z | z | z
    · subst z; exact ⟨rfl, by show 5 ≤ 10003; decide, Nat.le_refl _⟩
    · subst z; exact fn_str LW (by decide)
    · subst z; exact fn_str LW (by decide)
  have t3 : evS (prog.cx k (callF prog k)) s_law_3 (LF sc 0 p2 (some (.lst (ls3.map fun x => enc x.1))) none none p6 p7 p8 p9 p10 p11 p12 none none none none none) h1 = .nx (LF sc 0 p2 (some (.lst (ls3.map fun x => enc x.1))) none none p6 p7 p8 p9 p10 p11 p12 none none none none none) h1 :=
    st_same (ev_lc (evSrc_it (ev_v rfl) rfl) lp) (q3 (ev_c rfl) (ev_c rfl) (ev_c rfl)) c3
  generalize (some (D.lst (ls3.map fun x => enc x.1))) = r3 at t2 t3
  -- the large ones
  obtain ⟨r, hr, e4⟩ := nx_ok (k := k) (by omega) hI g1 (by omega) (show 0 < 2 by decide)
  have e4' : callF prog k i_law_next [.loc 0, .int 2] h1 = .ok (.int (r : Int)) (h1.set 0 (stB is (c1 + 1))) := e4
  have er : (300 : Int) + (r : Int) = ((300 + r : Nat) : Int) := by omega
  have t4 : evS (prog.cx k (callF prog k)) s_law_4 (LF sc 0 p2 r3 none none p6 p7 p8 p9 p10 p11 p12 none none none none none) h1 = .nx (LF sc 0 p2 r3 (some (.int ((300 + r : Nat) : Int))) none p6 p7 p8 p9 p10 p11 p12 none none none none none) (h1.set 0 (stB is (c1 + 1))) :=
    evS_asg (ev_bin (ev_c rfl) (evE_callx (ev_cons (ev_v rfl) (ev_cons (ev_c rfl) ev_nil)) e4') (by rw [shal_int, shal_int, bin_addi, er])) rfl
  generalize h1.set 0 (stB is (c1 + 1)) = h2 at t4
  have xm : evE (prog.cx k (callF prog k)) (.call i_law_exact (.cons (.v 4) .nil)) (LF sc 0 p2 r3 (some (.int ((300 + r : Nat) : Int))) none p6 p7 p8 p9 p10 p11 p12 none none none none none) h2 = .ok (enc (ex (300 + r) (300 + r))) h2 := evE_callx (ev_cons (ev_v rfl) ev_nil) (exact_lo 7 k (300 + r) h2 (by omega) (by omega) (by omega))
  obtain ⟨om, zm, dm⟩ := ex_good (n := 300 + r) (by omega) (by omega)
  generalize ex (300 + r) (300 + r) = w at xm om zm dm
  obtain ⟨ta, tb, pa, pb, fa, fb, Ta, Tb, ai⟩ : ∃ ta tb : D, ta.pure = true ∧ tb.pure = true ∧ Fn ta 20000 5 ∧ Fn tb 20000 5 ∧ callF prog k i_law_told [.int 0, enc w] h2 = .ok ta h2 ∧ callF prog k i_law_told [.int 1, enc w] h2 = .ok tb h2 ∧ atI [D.lst [.non, .tup [.str TW, .int 300]], D.lst [.str LW, .str LW]] (((300 + r : Nat) : Int) - 300) = some (.lst [ta, tb]) := by
    have : r = 0 ∨ r = 1 := by omega
    rcases this with z | z
    · subst z
      have g : Good w := ⟨om, by omega, by omega⟩
      obtain ⟨j, hj⟩ := at_level (show 1 ≤ k by omega)
      have a := told_ok (kd := 0) (k := j) (h := h2) (by decide) rfl (check_at (k := j) (h := h2) (by omega) g)
      have b := told_ok (kd := 1) (k := j) (h := h2) (by decide) rfl (size_ok (k := j) (h := h2) (by omega) g)
      rw [← hj] at a b
      rw [zm] at b
      exact ⟨.non, .tup [.str TW, .int 300], rfl, rfl, ⟨rfl, by show 5 ≤ 20000; decide, Nat.zero_le _⟩, fn_mono (fn_tw (fn_int (i := 300) (by decide))) (by decide) (by decide), a, b, atI_nat (i := 0)⟩
    · subst z
      exact ⟨.str LW, .str LW, rfl, rfl, fn_mono (fn_str LW (by decide)) (by decide) (by decide), fn_mono (fn_str LW (by decide)) (by decide) (by decide), U_large (k := k) (h := h2) (by omega) (by omega) (.inl (by omega)) 0 (by decide), U_large (k := k) (h := h2) (by omega) (by omega) (.inl (by omega)) 1 (by decide), atI_nat (i := 1)⟩
  have c5 : callF prog k i_law_same [.lst [ta, tb], .lst [ta, tb]] h2 = .ok (.bl true) h2 := same_pure (by omega) (by simp [pa, pb]) (fn_mono (fn_two fa fb).2 (by decide) (by decide))
  have t5 : evS (prog.cx k (callF prog k)) s_law_5 (LF sc 0 p2 r3 (some (.int ((300 + r : Nat) : Int))) none p6 p7 p8 p9 p10 p11 p12 none none none none none) h2 = .nx (LF sc 0 p2 r3 (some (.int ((300 + r : Nat) : Int))) none p6 p7 p8 p9 p10 p11 p12 none none none none none) h2 :=
    st_same (q2 (evE_callx (ev_cons (ev_c rfl) (ev_cons xm ev_nil)) Ta) (evE_callx (ev_cons (ev_c rfl) (ev_cons xm ev_nil)) Tb)) (ev_ix (q2 (q2 (ev_c rfl) (K00.p2 (ev_c rfl) (ev_c rfl))) (q2 (ev_c rfl) (ev_c rfl))) (ev_bin (ev_v rfl) (ev_c rfl) (by rw [shal_int, shal_int, bin_subi])) (by rw [shal_lst, item_lst]; exact ai)) c5
  generalize (some (D.int ((300 + r : Nat) : Int))) = r4 at t4 t5
  -- the words
  have lp6 := lcL_on (elt := evE (prog.cx k (callF prog k)) e_law_6) (test := evT (prog.cx k (callF prog k)) .yes) (t := .nm 13) (σ := LF sc 0 p2 r3 r4 none p6 p7 p8 p9 p10 p11 p12 none none none none none) (h := h2) (fun w : List Nat => .str w) (fun w => .bl (lab w)) (fun _ => true) (fun w => LF sc 0 p2 r3 r4 none p6 p7 p8 p9 p10 p11 p12 (some (.str w)) none none none none) lws [] (fun w hw => ⟨rfl, by rw [evT], fun _ => by
    obtain ⟨j, hj⟩ := at_level (show 1 ≤ k by omega)
    have il := is_label_ok j w h2 (lws_is.2 w hw)
    rw [← hj] at il
    exact evE_callx (ev_cons (ev_v rfl) ev_nil) il⟩) (by show 0 + 10 ≤ LIM; exact l10)
  rw [List.filter_eq_self.mpr fun _ _ => rfl, List.nil_append, show lws.map (fun w => D.bl (lab w)) = (lws.map lab).map D.bl from by rw [List.map_map]; rfl, lws_is.1] at lp6
  have es6 : evSrc (prog.cx k (callF prog k)) (.it (.fr (.lst (.cons (.c (.str [97])) (.cons (.c (.str [97, 49])) (.cons (.c (.str [])) (.cons (.c (.str [65])) (.cons (.c (.str [49])) (.cons (.c (.str [97, 95])) (.cons (.c (.str [97, 98, 99, 100, 101, 102, 103, 104, 105, 106, 107, 108])) (.cons (.c (.str [97, 98, 99, 100, 101, 102, 103, 104, 105, 106, 107, 108, 109])) (.cons (.c (.str [63, 120])) (.cons (.c (.str [97, 32, 98])) .nil)))))))))))))  (LF sc 0 p2 r3 r4 none p6 p7 p8 p9 p10 p11 p12 none none none none none) h2 = .ok (lws.map fun w => D.str w) h2 :=
    evSrc_it (ev_lst (ev_cons (ev_c rfl) (ev_cons (ev_c rfl) (ev_cons (ev_c rfl) (ev_cons (ev_c rfl) (ev_cons (ev_c rfl) (ev_cons (ev_c rfl) (ev_cons (ev_c rfl) (ev_cons (ev_c rfl) (ev_cons (ev_c rfl) (ev_cons (ev_c rfl) ev_nil)))))))))) l10) rfl
  have t6 : evS (prog.cx k (callF prog k)) s_law_6 (LF sc 0 p2 r3 r4 none p6 p7 p8 p9 p10 p11 p12 none none none none none) h2 = .nx (LF sc 0 p2 r3 r4 (some (.lst (wbs.map D.bl))) p6 p7 p8 p9 p10 p11 p12 none none none none none) h2 :=
    evS_asg (ev_lc es6 lp6) rfl
  have ne7 : cmpop h2 .ne (.lst (wbs.map D.bl)) (.lst (wbs.map D.bl)) = some false := by
    rw [cmp_ne rfl rfl (by decide) (by decide), bl_eqv]
    rfl
  have t7 : evS (prog.cx k (callF prog k)) s_law_7 (LF sc 0 p2 r3 r4 (some (.lst (wbs.map D.bl))) p6 p7 p8 p9 p10 p11 p12 none none none none none) h2 = .nx (LF sc 0 p2 r3 r4 (some (.lst (wbs.map D.bl))) p6 p7 p8 p9 p10 p11 p12 none none none none none) h2 := by
    have x7 : evE (prog.cx k (callF prog k)) (.fr (.lst (.cons (.c (.bl true)) (.cons (.c (.bl true)) (.cons (.c (.bl false)) (.cons (.c (.bl false)) (.cons (.c (.bl false)) (.cons (.c (.bl false)) (.cons (.c (.bl true)) (.cons (.c (.bl false)) (.cons (.c (.bl false)) (.cons (.c (.bl false)) .nil)))))))))))) (LF sc 0 p2 r3 r4 (some (.lst (wbs.map D.bl))) p6 p7 p8 p9 p10 p11 p12 none none none none none) h2 = .ok (.lst (wbs.map D.bl)) h2 :=
      ev_lst (ev_cons (ev_c rfl) (ev_cons (ev_c rfl) (ev_cons (ev_c rfl) (ev_cons (ev_c rfl) (ev_cons (ev_c rfl) (ev_cons (ev_c rfl) (ev_cons (ev_c rfl) (ev_cons (ev_c rfl) (ev_cons (ev_c rfl) (ev_cons (ev_c rfl) ev_nil)))))))))) l10
    refine (evS_ite (v := false) (h1 := h2) (evT_e (ev_cmp (ev_v rfl) x7 ne7))).trans ?_
    rw [if_neg (by decide), sq_nil]
  have eqG : cmpop h2 .eq (.tup [.int 12, .int 3, .int 300, .int 40]) (.tup [.int 12, .int 3, .int 300, .int 40]) = some true := by
    rw [cmp_eq rfl rfl (by decide) (by decide)]
    rfl
  have gv : ∀ (i : Nat) (v : D) (σ : Fr), prog.glob[i]? = some v → evE (prog.cx k (callF prog k)) (.g i) σ h2 = .ok v h2 := fun i v σ q => by
    rw [evE, cx_glob, q]
  have t8 : evS (prog.cx k (callF prog k)) s_law_8 (LF sc 0 p2 r3 r4 (some (.lst (wbs.map D.bl))) p6 p7 p8 p9 p10 p11 p12 none none none none none) h2 = .rt (.bl true) h2 :=
    ev_ret (ev_cmp (ev_tup (ev_cons (gv 0 _ _ gl0) (ev_cons (gv 1 _ _ gl1) (ev_cons (gv 2 _ _ gl2) (ev_cons (gv 3 _ _ gl3) ev_nil)))) l4) (ev_tup (ev_cons (ev_c rfl) (ev_cons (ev_c rfl) (ev_cons (ev_c rfl) (ev_cons (ev_c rfl) ev_nil)))) l4) eqG)
  refine ⟨h2, ?_⟩
  rw [callF_out d_law rfl ⟨rfl, by decide⟩, d_law]
  exact st_nx t0 (st_nx t1 (st_nx t2 (st_nx t3 (st_nx t4 (st_nx t5 (st_nx t6 (st_nx t7 (st_rt t8 rfl))))))))
end K00
end
section
set_option Elab.async false
set_option autoImplicit false
set_option maxRecDepth 100000
/-! the end -/
namespace K00
theorem holds : PySem.Challenge.rw_recastform_k00_documents_checked.Holds := by
  refine ends (k := 220) ⟨rfl, by decide, by decide⟩ fun ns hn => ?_
  exact law_ok (k := 219) (by decide) ns hn
end K00
end
theorem PySem.Challenge.cw_recastform_k00_documents_checked_holds : PySem.Challenge.rw_recastform_k00_documents_checked.Holds := by
  exact K00.holds
