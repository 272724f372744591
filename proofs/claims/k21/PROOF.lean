import PyProof.Rows.All
import Wide.All
import OpenK.AllK
import Wide.FinOn
import PySem.Challenge.RW_recastform_k21_whole_merges
import HandS.ForMost
import HandS.Exc
import HandS.TryOnly
import HandS.ExcOwn
import HandS.TryMany
import HandS.HotCalls
import HandS.ExcCtx
import HandS.Star
import HandS.Style
import HandS.Deep
import HandS.TupAny
import HandS.Codes
import HandS.Conv
import HandS.Small
import HandS.Walk
import HandS.Zip
import KE.SortData
import KE.DatumIndex
import KE.OsSetLaws
import HandS.Ends
import HandS.Defaults
import HandS.Head0
import HandS.Head1
import HandS.Head2
import HandS.HeadEnd
import HandS.HeadHook1
import HandS.HeadHook2
import HandS.ExcIs
set_option Elab.async false
section
/-! Ev: a small core language for the defs of the program and its laws, and a total evaluator in plain Lean.
    Values D are data (immutable) or places of a heap of mutable boxes and instances. -/
set_option autoImplicit false
namespace Ev

inductive D where
  | non | bl (b : Bool) | int (i : Int) | str (s : List Nat)
  | tup (xs : List D) | lst (xs : List D)
  | loc (n : Nat) | fn (f : Nat)
  /-- the list that the law is handed: it is only cut -/
  | scr (xs : List D)
  /-- the text that repr gives of data -/
  | rep (x : D)
  deriving Inhabited

mutual
def D.beq : D → D → Bool
  | .non, .non => true
  | .bl a, .bl b => a == b
  | .int a, .int b => decide (a = b)
  | .str a, .str b => decide (a = b)
  | .tup a, .tup b => D.beqs a b
  | .lst a, .lst b => D.beqs a b
  | .loc a, .loc b => decide (a = b)
  | .fn a, .fn b => decide (a = b)
  | .rep a, .rep b => D.beq a b
  | .scr a, .scr b => D.beqs a b
  | _, _ => false
def D.beqs : List D → List D → Bool
  | [], [] => true
  | a :: as, b :: bs => D.beq a b && D.beqs as bs
  | _, _ => false
end

mutual
/-- Python's == of data -/
def D.eqv : D → D → Bool
  | .non, .non => true
  | .bl a, .bl b => a == b
  | .bl a, .int j => decide ((if a then 1 else 0) = j)
  | .int i, .bl b => decide (i = (if b then 1 else 0))
  | .int a, .int b => decide (a = b)
  | .str a, .str b => decide (a = b)
  | .tup a, .tup b => D.eqvs a b
  | .lst a, .lst b => D.eqvs a b
  | _, _ => false
def D.eqvs : List D → List D → Bool
  | [], [] => true
  | a :: as, b :: bs => D.eqv a b && D.eqvs as bs
  | _, _ => false
end

mutual
/-- plain data: no place, no def in it -/
def D.pure : D → Bool
  | .tup xs => D.pures xs
  | .lst xs => D.pures xs
  | .loc _ => false
  | .fn _ => false
  | .scr _ => false
  | .rep _ => false
  | _ => true
def D.pures : List D → Bool
  | [] => true
  | x :: xs => D.pure x && D.pures xs
end

mutual
/-- each place in it is below n -/
def D.okB (n : Nat) : D → Bool
  | .tup xs => D.okBs n xs
  | .lst xs => D.okBs n xs
  | .loc m => decide (m < n)
  | .scr xs => D.okBs n xs
  | _ => true
def D.okBs (n : Nat) : List D → Bool
  | [] => true
  | x :: xs => D.okB n x && D.okBs n xs
end

mutual
def D.dep : D → Nat
  | .tup xs => D.deps xs + 1
  | .lst xs => D.deps xs + 1
  | _ => 0
def D.deps : List D → Nat
  | [] => 0
  | x :: xs => max (D.dep x) (D.deps xs)
end

/-- what stands at a place -/
inductive Ob where
  | box (d : D) | ins (c : Nat) (fs : List (Nat × D)) | gone
  deriving Inhabited
abbrev Mem := List Ob

mutual
/-- boxes within data replaced by what they hold -/
def D.fullW (g : Nat → Option D) : D → Option D
  | .tup xs => (D.fullWs g xs).map .tup
  | .lst xs => (D.fullWs g xs).map .lst
  | .loc n => g n
  | .fn _ => none
  | .scr _ => none
  | .rep _ => none
  | d => some d
def D.fullWs (g : Nat → Option D) : List D → Option (List D)
  | [] => some []
  | x :: xs => match D.fullW g x, D.fullWs g xs with
    | some y, some ys => some (y :: ys)
    | _, _ => none
end
def full (h : Mem) : Nat → D → Option D
  | 0, d => D.fullW (fun _ => none) d
  | n + 1, d => D.fullW (fun m => match h[m]? with | some (.box c) => full h n c | _ => none) d
/-- what a place holds, if it is a box; else the value itself -/
def shal (h : Mem) : D → D
  | .loc n => match h[n]? with | some (.box c) => c | _ => .loc n
  | d => d

inductive R where
  | ok (d : D) (h : Mem) | exc (c : Nat) (x : D) (h : Mem) | stuck
abbrev Fr := List (Option D)
inductive RS where
  | nx (f : Fr) (h : Mem) | bk (f : Fr) (h : Mem) | ct (f : Fr) (h : Mem) | rt (d : D) (h : Mem)
  | exc (c : Nat) (x : D) (f : Fr) (h : Mem) | stuck
inductive RL where
  | ok (ds : List D) (h : Mem) | exc (c : Nat) (x : D) (h : Mem) | stuck
inductive RB where
  | ok (b : Bool) (h : Mem) | exc (c : Nat) (x : D) (h : Mem) | stuck

inductive Bop where | add | sub | mul | fdiv | mod | pow
inductive Cop where | lt | le | gt | ge | eq | ne | is_ | isnot | in_ | notin
/-- built-in functions -/
inductive Bi where | len | abs | int_ | str_ | repr | sum | max1 | max2 | min1 | min2 | all | any | tuple_ | lenset | join
/-- built-in methods that change a box, or read -/
inductive Mt where | append | extend | pop0 | pop1 | index | count

mutual
inductive CE where
  | c (d : D) | v (i : Nat) | g (i : Nat) | f (i : Nat)
  | bin (o : Bop) (a b : CE) | neg (a : CE)
  | cmp (o : Cop) (a b : CE) | chn (o p : Cop) (a b c : CE)
  | and (es : CEs) | or (es : CEs) | not (a : CE) | ite (t : CT) (a b : CE)
  | tup (es : CEs) | fr (e : FE) | nw (e : FE)
  | ix (a b : CE) | sl (a : CE) (lo hi : CO)
  | call (f : Nat) (es : CEs) | callv (g : CE) (es : CEs)
  | bi (b : Bi) (es : CEs) | mt (m : Mt) (o : CE) (es : CEs)
  | frz (a : CE)
inductive CO where | no | so (a : CE)
inductive CT where | e (a : CE) | and (ts : CTs) | or (ts : CTs) | not (t : CT) | yes
inductive CTs where | nil | cons (t : CT) (ts : CTs)
inductive FE where
  | lst (es : CEs) | lc (e : CE) (t : Tg) (s : Src) (c : CT) | sorted (a : CE) | sortset (a : CE) | list_ (a : CE) | rev (a : CE)
  | rep (a b : CE)
inductive CEs where | nil | cons (e : CE) (es : CEs) | star (e : CE) (es : CEs)
inductive Src where | it (e : CE) | rng (es : CEs) | enum (e : CE) | zip (a b : CE)
inductive Tg where | nm (i : Nat) | tp (ts : Tgs)
inductive Tgs where | nil | cons (t : Tg) (ts : Tgs)
end
/-- a handler's suite -/
inductive Su where | ret (d : D) | err (f : Nat) | asg (i : Nat) (d : D)
mutual
inductive CS where
  | asg (t : Tg) (e : CE) | par (i j : Nat) (a b : CE) | setix (o i e : CE) | aug (i : Nat) (o : Bop) (e : CE)
  | expr (e : CE) | ret (e : CE) | retn | ite (t : CT) (a b : CSs) | for_ (t : Tg) (s : Src) (b : CSs)
  | while_ (t : CT) (b : CSs) | raise (c : Nat) (m : List Nat) | pass | brk | cont
  | try_ (b : CSs) (cs : List Nat) (s : Su)
inductive CSs where | nil | cons (s : CS) (ss : CSs) | fz (i : Nat) (ss : CSs)
end

structure Def where
  np : Nat
  ns : Nat
  gc : Bool
  body : CSs

/-! ### pure operations -/
def LIM : Nat := 1000000
def isInfix1 (c : Nat) (y : List Nat) : Bool := decide (c ∈ y)

mutual
def D.toks : D → List (Int ⊕ List Nat)
  | .bl b => [.inl (if b = true then 1 else 0)]
  | .int n => [.inl n]
  | .str x => [.inr x]
  | .tup xs => D.tokss xs
  | .lst xs => D.tokss xs
  | _ => []
def D.tokss : List D → List (Int ⊕ List Nat)
  | [] => [.inl 0]
  | x :: xs => .inl 1 :: (D.toks x ++ D.tokss xs)
end
def lexNat : List Nat → List Nat → Bool
  | [], [] => false
  | [], _ :: _ => true
  | _ :: _, [] => false
  | a :: as, b :: bs => if a = b then lexNat as bs else decide (a < b)
def tokLt : (Int ⊕ List Nat) → (Int ⊕ List Nat) → Bool
  | .inl a, .inl b => decide (a < b)
  | .inr a, .inr b => lexNat a b
  | .inl _, .inr _ => true
  | .inr _, .inl _ => false
def tokEq : (Int ⊕ List Nat) → (Int ⊕ List Nat) → Bool
  | .inl a, .inl b => decide (a = b)
  | .inr a, .inr b => decide (a = b)
  | _, _ => false
def lexTok : List (Int ⊕ List Nat) → List (Int ⊕ List Nat) → Bool
  | [], [] => false
  | [], _ :: _ => true
  | _ :: _, [] => false
  | a :: as, b :: bs => if tokEq a b then lexTok as bs else tokLt a b
/-- Python's < of data that are alike -/
def D.lt (a b : D) : Bool := lexTok a.toks b.toks
mutual
def D.alike : D → D → Bool
  | .non, .non => true
  | .bl _, .bl _ => true
  | .int _, .int _ => true
  | .str _, .str _ => true
  | .lst xs, .lst ys => D.alikes xs ys
  | .tup xs, .tup ys => D.alikes xs ys
  | _, _ => false
def D.alikes : List D → List D → Bool
  | x :: xs, y :: ys => D.alike x y && D.alikes xs ys
  | [], _ => true
  | _ :: _, [] => true
end

def binop : Bop → D → D → Option D
  | .add, .int a, .int b => some (.int (a + b))
  | .add, .str a, .str b => if a.length + b.length ≤ LIM then some (.str (a ++ b)) else none
  | .add, .tup a, .tup b => if a.length + b.length ≤ LIM then some (.tup (a ++ b)) else none
  | .add, .lst a, .lst b => if a.length + b.length ≤ LIM then some (.lst (a ++ b)) else none
  | .sub, .int a, .int b => some (.int (a - b))
  | .mul, .int a, .int b => if (-(2 ^ 64) < a ∧ a < 2 ^ 64) ∨ (-(2 ^ 64) < b ∧ b < 2 ^ 64) then some (.int (a * b)) else none
  | .fdiv, .int a, .int b => if 0 < b ∧ b < 1073741824 then some (.int (a / b)) else none
  | .mod, .int a, .int b => if 0 < b then some (.int (a % b)) else none
  | .pow, .int a, .int b => if 0 ≤ b ∧ b ≤ 1000 ∧ a.natAbs < 2 ^ 64 then some (.int (a ^ b.toNat)) else none
  | _, _, _ => none

def cmpop (h : Mem) : Cop → D → D → Option Bool
  | .lt, .int a, .int b => some (decide (a < b))
  | .le, .int a, .int b => some (decide (a ≤ b))
  | .gt, .int a, .int b => some (decide (b < a))
  | .ge, .int a, .int b => some (decide (b ≤ a))
  | .lt, .str a, .str b => some (lexNat a b)
  | .eq, .rep a, .rep b => if a.beq b then some true else none
  | .ne, .rep a, .rep b => if a.beq b then some false else none
  | .eq, a, b => match full h 3 a, full h 3 b with
    | some x, some y => if x.dep ≤ 64 ∧ y.dep ≤ 64 then some (x.eqv y) else none
    | _, _ => none
  | .ne, a, b => match full h 3 a, full h 3 b with
    | some x, some y => if x.dep ≤ 64 ∧ y.dep ≤ 64 then some (!x.eqv y) else none
    | _, _ => none
  | .is_, .non, .non => some true
  | .is_, .loc _, .non => some false
  | .is_, a, .non => if a.pure then some false else none
  | .isnot, .non, .non => some false
  | .isnot, .loc _, .non => some true
  | .isnot, a, .non => if a.pure then some true else none
  | .in_, .str a, .str b => match a with | [c] => some (decide (c ∈ b)) | _ => none
  | .notin, .str a, .str b => match a with | [c] => some (!decide (c ∈ b)) | _ => none
  | .in_, a, b => match shal h b with
    | .tup ds => if a.pure && D.pures ds && decide (a.dep ≤ 60) && decide (D.deps ds ≤ 60) then some (ds.any fun z => z.eqv a) else none
    | .lst ds => if a.pure && D.pures ds && decide (a.dep ≤ 60) && decide (D.deps ds ≤ 60) then some (ds.any fun z => z.eqv a) else none
    | _ => none
  | .notin, a, b => match shal h b with
    | .tup ds => if a.pure && D.pures ds && decide (a.dep ≤ 60) && decide (D.deps ds ≤ 60) then some (!ds.any fun z => z.eqv a) else none
    | .lst ds => if a.pure && D.pures ds && decide (a.dep ≤ 60) && decide (D.deps ds ≤ 60) then some (!ds.any fun z => z.eqv a) else none
    | _ => none
  | _, _, _ => none

/-- the place that an index leads to -/
def ixN (n : Nat) (i : Int) : Option Nat :=
  if 0 ≤ i then (if i < n then some i.toNat else none) else if -(n : Int) ≤ i then some (i + n).toNat else none
def atI {α : Type} (xs : List α) (i : Int) : Option α := (ixN xs.length i).bind fun j => xs[j]?
def sIx (n d : Nat) : Option Int → Nat
  | none => d
  | some i => if 0 ≤ i then min i.toNat n else (i + n).toNat
def cut {α : Type} (xs : List α) (lo hi : Option Int) : List α :=
  (xs.drop (sIx xs.length 0 lo)).take (sIx xs.length xs.length hi - sIx xs.length 0 lo)

def item : D → D → Option D
  | .tup xs, .int i => atI xs i
  | .lst xs, .int i => atI xs i
  | .str xs, .int i => if xs.length ≤ LIM then (atI xs i).map fun c => .str [c] else none
  | _, _ => none
def slice (d : D) (lo hi : Option Int) : Option D :=
  match d with
  | .tup xs => some (.tup (cut xs lo hi))
  | .lst xs => some (.lst (cut xs lo hi))
  | .scr xs => some (.lst (cut xs lo hi))
  | .str xs => if xs.length ≤ LIM then some (.str (cut xs lo hi)) else none
  | _ => none

def intsD : List D → Option (List Int)
  | [] => some []
  | .int i :: r => (intsD r).map (i :: ·)
  | _ :: _ => none
def bools : List D → Option (List Bool)
  | [] => some []
  | .bl b :: r => (bools r).map (b :: ·)
  | _ :: _ => none
def strsD : List D → Option (List (List Nat))
  | [] => some []
  | .str s :: r => (strsD r).map (s :: ·)
  | _ :: _ => none
def digits (i : Int) : List Nat := (toString i).toList.map Char.toNat
def maxI : List Int → Int
  | [] => 0
  | [a] => a
  | a :: r => max a (maxI r)
def minI : List Int → Int
  | [] => 0
  | [a] => a
  | a :: r => min a (minI r)
/-- each thing once, as it comes first -/
def dedup : List D → List D → List D
  | acc, [] => acc
  | acc, x :: xs => if acc.any (fun z => z.eqv x) then dedup acc xs else dedup (acc ++ [x]) xs
def sortD (xs : List D) : List D := xs.mergeSort fun a b => !b.lt a
def canSort (xs : List D) : Bool :=
  D.pures xs && decide (D.deps xs ≤ 60) && xs.all (fun a => xs.all fun b => a.alike b) &&
    (xs.all (fun a => match a with | .tup (_ :: _) => true | _ => false) || xs.all (fun a => match a with | .int _ => true | .str _ => true | _ => false))
def joinS (sep : List Nat) : List (List Nat) → List Nat
  | [] => []
  | [x] => x
  | x :: r => x ++ sep ++ joinS sep r

/-! ### the texts of data (repr) -/
mutual
/-- an upper bound of the length of the repr, where it can be told -/
def D.wt : D → Nat
  | .non => 5
  | .bl _ => 6
  | .int i => i.natAbs.log2 + 3
  | .str s => 10 * s.length + 3
  | .tup xs => D.wts xs + 4
  | .lst xs => D.wts xs + 4
  | _ => 0
def D.wts : List D → Nat
  | [] => 0
  | x :: xs => D.wt x + 2 + D.wts xs
end
mutual
/-- numbers of less than 1,900 bits, signs below 2^32 -/
def D.fine : D → Bool
  | .int i => decide (i.natAbs.log2 < 1900)
  | .tup xs => D.fines xs
  | .lst xs => D.fines xs
  | .loc _ => false
  | .fn _ => false
  | .scr _ => false
  | .rep _ => false
  | _ => true
def D.fines : List D → Bool
  | [] => true
  | x :: xs => D.fine x && D.fines xs
end

structure Cx where
  call : Nat → List D → Mem → R
  glob : Nat → Option D
  errT : Nat → Nat → Option D
  nx : Nat

def biF (b : Bi) (ds : List D) (h : Mem) : Option D :=
  match b, ds with
  | .len, [d] => match shal h d with
    | .tup xs => some (.int xs.length)
    | .lst xs => some (.int xs.length)
    | .str s => if s.length ≤ LIM then some (.int s.length) else none
    | _ => none
  | .abs, [.int i] => some (.int (if i < 0 then -i else i))
  | .int_, [.int i] => some (.int i)
  | .int_, [.bl k] => some (.int (if k then 1 else 0))
  | .str_, [.int i] => if i.natAbs.log2 < 1900 then some (.str (digits i)) else none
  | .repr, [d] => match full h 3 d with
    | some (.tup xs) => if (D.tup xs).dep ≤ 64 ∧ (D.tup xs).wt ≤ 1000000 ∧ (D.tup xs).fine then some (.rep (.tup xs)) else none
    | some (.lst xs) => if (D.lst xs).dep ≤ 64 ∧ (D.lst xs).wt ≤ 1000000 ∧ (D.lst xs).fine then some (.rep (.lst xs)) else none
    | _ => none
  | .sum, [d] => match shal h d with
    | .lst xs => (intsD xs).map fun l => .int l.sum
    | _ => none
  | .max1, [d] => match shal h d with
    | .lst (x :: xs) => (intsD (x :: xs)).map fun l => .int (maxI l)
    | _ => none
  | .min1, [d] => match shal h d with
    | .lst (x :: xs) => (intsD (x :: xs)).map fun l => .int (minI l)
    | _ => none
  | .max2, [.int a, .int b] => some (.int (if b > a then b else a))
  | .min2, [.int a, .int b] => some (.int (if b < a then b else a))
  | .all, [d] => match shal h d with
    | .lst xs => (bools xs).map fun l => .bl (l.all id)
    | _ => none
  | .any, [d] => match shal h d with
    | .lst xs => (bools xs).map fun l => .bl (l.any id)
    | _ => none
  | .tuple_, [d] => match shal h d with
    | .tup xs => some (.tup xs)
    | .lst xs => some (.tup xs)
    | _ => none
  | .lenset, [d] => match shal h d with
    | .lst xs => if xs.length ≤ 4000 then (intsD xs).map fun l => .int l.eraseDups.length else none
    | _ => none
  | .join, [.str s, d] => match shal h d with
    | .lst xs => (strsD xs).bind fun l => if (l.map List.length).sum + l.length * s.length ≤ LIM then some (.str (joinS s l)) else none
    | _ => none
  | _, _ => none

/-- methods that change a box -/
def mtb (m : Mt) (o : D) (ds : List D) (h : Mem) : Option (D × Mem) :=
  match o with
  | .loc n => match h[n]? with
    | some (.box (.lst xs)) => match m, ds with
      | .append, [d] => if xs.length < LIM then some (.non, h.set n (.box (.lst (xs ++ [d])))) else none
      | .extend, [d] => match shal h d with
        | .lst ys => if xs.length + ys.length ≤ LIM then some (.non, h.set n (.box (.lst (xs ++ ys)))) else none
        | _ => none
      | .pop0, [] => match xs.getLast? with
        | some y => some (y, h.set n (.box (.lst xs.dropLast)))
        | none => none
      | .pop1, [.int i] => match ixN xs.length i with
        | some k => match xs[k]? with
          | some y => some (y, h.set n (.box (.lst (xs.eraseIdx k))))
          | none => none
        | none => none
      | _, _ => none
    | _ => none
  | _ => none

def idxD (x : D) : List D → Option Nat
  | [] => none
  | y :: ys => if y.eqv x then some 0 else (idxD x ys).map (· + 1)
def mtf (m : Mt) (o : D) (ds : List D) (h : Mem) : Option (D × Mem) :=
  match m with
  | .index => match shal h o, ds with
    | .lst xs, [d] => if d.pure && D.pures xs && decide (d.dep ≤ 60) && decide (D.deps xs ≤ 60) then (idxD d xs).map fun j => (.int j, h) else none
    | _, _ => none
  | .count => match shal h o, ds with
    | .lst xs, [.int k] => (intsD xs).map fun l => (.int (l.count k), h)
    | _, _ => none
  | m => mtb m o ds h

mutual
def asgT : Tg → D → Fr → Option Fr
  | .nm i, d, σ => if i < σ.length then some (σ.set i (some d)) else none
  | .tp ts, .tup ds, σ => asgTs ts ds σ
  | .tp ts, .lst ds, σ => asgTs ts ds σ
  | _, _, _ => none
def asgTs : Tgs → List D → Fr → Option Fr
  | .nil, [], σ => some σ
  | .cons t ts, d :: ds, σ => match asgT t d σ with
    | some σ' => asgTs ts ds σ'
    | none => none
  | _, _, _ => none
end

def small62 (i : Int) : Bool := decide (-(2 ^ 62) ≤ i) && decide (i < 2 ^ 62)
/-- lo, lo + c, .. n of them -/
def rngL (lo c : Int) : Nat → List D
  | 0 => []
  | n + 1 => .int lo :: rngL (lo + c) c n
def rngN (lo hi c : Int) : Nat := if c = 1 then (hi - lo).toNat else if c = -1 then (lo - hi).toNat else 0
def rngD : List D → Option (List D)
  | [.int n] => if small62 n then some (rngL 0 1 n.toNat) else none
  | [.int a, .int b] => if small62 a && small62 b then some (rngL a 1 (b - a).toNat) else none
  | [.int a, .int b, .int c] => if small62 a && small62 b && decide (c = -1) then some (rngL a (-1) (a - b).toNat) else none
  | _ => none
def seqD : D → Option (List D)
  | .tup xs => some xs
  | .lst xs => some xs
  | _ => none
/-- what a for walks: a text sign by sign -/
def itD : D → Option (List D)
  | .tup xs => some xs
  | .lst xs => some xs
  | .str s => some (s.map fun c => .str [c])
  | _ => none
def enumD : Nat → List D → List D
  | _, [] => []
  | k, x :: xs => .tup [.int k, x] :: enumD (k + 1) xs
def zipD : List D → List D → List D
  | x :: xs, y :: ys => .tup [x, y] :: zipD xs ys
  | _, _ => []

/-- a for's turns -/
def forL (body : Fr → Mem → RS) (t : Tg) : List D → Fr → Mem → RS
  | [], σ, h => .nx σ h
  | x :: xs, σ, h => match asgT t x σ with
    | none => .stuck
    | some σ' => match body σ' h with
      | .nx σ2 h2 => forL body t xs σ2 h2
      | .ct σ2 h2 => forL body t xs σ2 h2
      | .bk σ2 h2 => .nx σ2 h2
      | r => r
def whileL (test : Fr → Mem → RB) (body : Fr → Mem → RS) : Nat → Fr → Mem → RS
  | 0, _, _ => .stuck
  | n + 1, σ, h => match test σ h with
    | .ok true h1 => match body σ h1 with
      | .nx σ2 h2 => whileL test body n σ2 h2
      | .ct σ2 h2 => whileL test body n σ2 h2
      | .bk σ2 h2 => .nx σ2 h2
      | r => r
    | .ok false h1 => .nx σ h1
    | .exc c x h1 => .exc c x σ h1
    | .stuck => .stuck
/-- a comprehension's turns: no error leaves it -/
def lcL (elt : Fr → Mem → R) (test : Fr → Mem → RB) (t : Tg) (σ : Fr) : List D → List D → Mem → RL
  | [], acc, h => .ok acc h
  | x :: xs, acc, h => match asgT t x σ with
    | none => .stuck
    | some σ' => match test σ' h with
      | .ok true h1 => match elt σ' h1 with
        | .ok d h2 => if acc.length < LIM then lcL elt test t σ xs (acc ++ [d]) h2 else .stuck
        | _ => .stuck
      | .ok false h1 => lcL elt test t σ xs acc h1
      | _ => .stuck

def WF : Nat := 1000000000

/-! ### the evaluator -/
mutual
def evE (C : Cx) : CE → Fr → Mem → R
  | .c d, _, h => if d.pure then .ok d h else .stuck
  | .v i, σ, h => match σ[i]? with
    | some (some d) => .ok d h
    | _ => .stuck
  | .g i, _, h => match C.glob i with
    | some d => .ok d h
    | none => .stuck
  | .f i, _, h => .ok (.fn i) h
  | .bin o a b, σ, h => match evE C a σ h with
    | .ok x h1 => match evE C b σ h1 with
      | .ok y h2 => match binop o (shal h2 x) (shal h2 y) with
        | some z => .ok z h2
        | none => .stuck
      | r => r
    | r => r
  | .neg a, σ, h => match evE C a σ h with
    | .ok (.int i) h1 => .ok (.int (-i)) h1
    | .ok _ _ => .stuck
    | r => r
  | .cmp o a b, σ, h => match evE C a σ h with
    | .ok x h1 => match evE C b σ h1 with
      | .ok y h2 => match cmpop h2 o x y with
        | some z => .ok (.bl z) h2
        | none => .stuck
      | r => r
    | r => r
  | .chn o p a b c, σ, h => match evE C a σ h with
    | .ok x h1 => match evE C b σ h1 with
      | .ok y h2 => match cmpop h2 o x y with
        | some true => match evE C c σ h2 with
          | .ok z h3 => match cmpop h3 p y z with
            | some k => .ok (.bl k) h3
            | none => .stuck
          | r => r
        | some false => .ok (.bl false) h2
        | none => .stuck
      | r => r
    | r => r
  | .and es, σ, h => evAnd C es σ h
  | .or es, σ, h => evOr C es σ h
  | .not a, σ, h => match evE C a σ h with
    | .ok (.bl b) h1 => .ok (.bl (!b)) h1
    | .ok _ _ => .stuck
    | r => r
  | .ite t a b, σ, h => match evT C t σ h with
    | .ok true h1 => evE C a σ h1
    | .ok false h1 => evE C b σ h1
    | .exc c x h1 => .exc c x h1
    | .stuck => .stuck
  | .tup es, σ, h => match evL C es σ h with
    | .ok ds h1 => if ds.length ≤ LIM then .ok (.tup ds) h1 else .stuck
    | .exc c x h1 => .exc c x h1
    | .stuck => .stuck
  | .fr e, σ, h => evF C e σ h
  | .nw e, σ, h => match evF C e σ h with
    | .ok d h1 => .ok (.loc h1.length) (h1 ++ [.box d])
    | r => r
  | .ix a b, σ, h => match evE C a σ h with
    | .ok x h1 => match evE C b σ h1 with
      | .ok y h2 => match item (shal h2 x) y with
        | some z => .ok z h2
        | none => .stuck
      | r => r
    | r => r
  | .sl a lo hi, σ, h => match evE C a σ h with
    | .ok x h1 => match evO C lo σ h1 with
      | some (l, h2) => match evO C hi σ h2 with
        | some (u, h3) => match slice (shal h3 x) l u with
          | some z => .ok z h3
          | none => .stuck
        | none => .stuck
      | none => .stuck
    | r => r
  | .call f es, σ, h => match evL C es σ h with
    | .ok ds h1 => C.call f ds h1
    | .exc c x h1 => .exc c x h1
    | .stuck => .stuck
  | .callv g es, σ, h => match evE C g σ h with
    | .ok (.fn f) h1 => match evL C es σ h1 with
      | .ok ds h2 => C.call f ds h2
      | .exc c x h1 => .exc c x h1
      | .stuck => .stuck
    | .ok _ _ => .stuck
    | r => r
  | .bi b es, σ, h => match evL C es σ h with
    | .ok ds h1 => match biF b ds h1 with
      | some d => .ok d h1
      | none => .stuck
    | .exc c x h1 => .exc c x h1
    | .stuck => .stuck
  | .mt m o es, σ, h => match evE C o σ h with
    | .ok x h1 => match shal h1 x with
      | .lst _ => match evL C es σ h1 with
        | .ok ds h2 => match mtf m x ds h2 with
          | some (d, h3) => .ok d h3
          | none => .stuck
        | .exc c x h1 => .exc c x h1
        | .stuck => .stuck
      | _ => .stuck
    | r => r
  | .frz a, σ, h => match evE C a σ h with
    | .ok (.loc n) h1 => match h1[n]? with
      | some (.box d) => .ok d (h1.set n .gone)
      | _ => .stuck
    | .ok _ _ => .stuck
    | r => r
def evO (C : Cx) : CO → Fr → Mem → Option (Option Int × Mem)
  | .no, _, h => some (none, h)
  | .so a, σ, h => match evE C a σ h with
    | .ok (.int i) h1 => some (some i, h1)
    | _ => none
def evAnd (C : Cx) : CEs → Fr → Mem → R
  | .cons e .nil, σ, h => evE C e σ h
  | .cons e es, σ, h => match evE C e σ h with
    | .ok (.bl true) h1 => evAnd C es σ h1
    | .ok (.bl false) h1 => .ok (.bl false) h1
    | .ok _ _ => .stuck
    | r => r
  | _, _, _ => .stuck
def evOr (C : Cx) : CEs → Fr → Mem → R
  | .cons e .nil, σ, h => evE C e σ h
  | .cons e es, σ, h => match evE C e σ h with
    | .ok (.bl false) h1 => evOr C es σ h1
    | .ok (.bl true) h1 => .ok (.bl true) h1
    | .ok _ _ => .stuck
    | r => r
  | _, _, _ => .stuck
/-- a test -/
def evT (C : Cx) : CT → Fr → Mem → RB
  | .and es, σ, h => evTA C es σ h
  | .or es, σ, h => evTO C es σ h
  | .not a, σ, h => match evT C a σ h with
    | .ok b h1 => .ok (!b) h1
    | r => r
  | .e a, σ, h => match evE C a σ h with
    | .ok (.bl b) h1 => .ok b h1
    | .ok _ _ => .stuck
    | .exc c x h1 => .exc c x h1
    | .stuck => .stuck
  | .yes, _, h => .ok true h
def evTA (C : Cx) : CTs → Fr → Mem → RB
  | .cons e .nil, σ, h => evT C e σ h
  | .cons e es, σ, h => match evT C e σ h with
    | .ok true h1 => evTA C es σ h1
    | r => r
  | .nil, _, _ => .stuck
def evTO (C : Cx) : CTs → Fr → Mem → RB
  | .cons e .nil, σ, h => evT C e σ h
  | .cons e es, σ, h => match evT C e σ h with
    | .ok false h1 => evTO C es σ h1
    | r => r
  | .nil, _, _ => .stuck
def evL (C : Cx) : CEs → Fr → Mem → RL
  | .nil, _, h => .ok [] h
  | .cons e es, σ, h => match evE C e σ h with
    | .ok d h1 => match evL C es σ h1 with
      | .ok ds h2 => .ok (d :: ds) h2
      | r => r
    | .exc c x h1 => .exc c x h1
    | .stuck => .stuck
  | .star e es, σ, h => match evE C e σ h with
    | .ok d h1 => match seqD (shal h1 d) with
      | some xs => match evL C es σ h1 with
        | .ok ds h2 => .ok (xs ++ ds) h2
        | r => r
      | none => .stuck
    | .exc c x h1 => .exc c x h1
    | .stuck => .stuck
/-- a new list -/
def evF (C : Cx) : FE → Fr → Mem → R
  | .lst es, σ, h => match evL C es σ h with
    | .ok ds h1 => if ds.length ≤ LIM then .ok (.lst ds) h1 else .stuck
    | .exc c x h1 => .exc c x h1
    | .stuck => .stuck
  | .lc e t s c, σ, h => match evSrc C s σ h with
    | .ok ds h1 => match lcL (evE C e) (evT C c) t σ ds [] h1 with
      | .ok rs h2 => .ok (.lst rs) h2
      | _ => .stuck
    | .exc c x h1 => .exc c x h1
    | .stuck => .stuck
  | .sorted a, σ, h => match evE C a σ h with
    | .ok d h1 => match shal h1 d with
      | .lst xs => if canSort xs && decide (xs.length ≤ LIM) then .ok (.lst (sortD xs)) h1 else .stuck
      | _ => .stuck
    | r => r
  | .sortset a, σ, h => match evE C a σ h with
    | .ok d h1 => match seqD (shal h1 d) with
      | some xs => if canSort xs && decide (xs.length ≤ LIM) then .ok (.lst (sortD (dedup [] xs))) h1 else .stuck
      | _ => .stuck
    | r => r
  | .list_ a, σ, h => match evE C a σ h with
    | .ok d h1 => match seqD (shal h1 d) with
      | some xs => .ok (.lst xs) h1
      | none => .stuck
    | r => r
  | .rev a, σ, h => match evE C a σ h with
    | .ok d h1 => match shal h1 d with
      | .lst xs => .ok (.lst xs.reverse) h1
      | _ => .stuck
    | r => r
  | .rep a b, σ, h => match evE C a σ h with
    | .ok d h1 => match evE C b σ h1 with
      | .ok (.int k) h2 => match shal h2 d with
        | .lst xs => if 0 ≤ k ∧ k ≤ LIM ∧ xs.length * k.toNat ≤ LIM then .ok (.lst (List.replicate k.toNat xs).flatten) h2 else .stuck
        | _ => .stuck
      | .ok _ _ => .stuck
      | r => r
    | r => r
def evSrc (C : Cx) : Src → Fr → Mem → RL
  | .it e, σ, h => match evE C e σ h with
    | .ok d h1 => match itD d with
      | some xs => .ok xs h1
      | none => .stuck
    | .exc c x h1 => .exc c x h1
    | .stuck => .stuck
  | .rng es, σ, h => match evL C es σ h with
    | .ok ds h1 => match rngD ds with
      | some xs => .ok xs h1
      | none => .stuck
    | r => r
  | .enum e, σ, h => match evE C e σ h with
    | .ok d h1 => match seqD d with
      | some xs => .ok (enumD 0 xs) h1
      | none => .stuck
    | .exc c x h1 => .exc c x h1
    | .stuck => .stuck
  | .zip a b, σ, h => match evE C a σ h with
    | .ok d h1 => match evE C b σ h1 with
      | .ok d' h2 => match seqD d, seqD d' with
        | some xs, some ys => .ok (zipD xs ys) h2
        | _, _ => .stuck
      | .exc c x h1 => .exc c x h1
      | .stuck => .stuck
    | .exc c x h1 => .exc c x h1
    | .stuck => .stuck
end

mutual
def evS (C : Cx) : CS → Fr → Mem → RS
  | .asg t e, σ, h => match evE C e σ h with
    | .ok d h1 => match asgT t d σ with
      | some σ' => .nx σ' h1
      | none => .stuck
    | .exc c x h1 => .exc c x σ h1
    | .stuck => .stuck
  | .par i j a b, σ, h => match evL C (.cons a (.cons b .nil)) σ h with
    | .ok [x, y] h1 => if i < σ.length ∧ j < σ.length then .nx ((σ.set i (some x)).set j (some y)) h1 else .stuck
    | .ok _ _ => .stuck
    | .exc c x h1 => .exc c x σ h1
    | .stuck => .stuck
  | .setix o i e, σ, h => match evE C e σ h with
    | .ok d h1 => match evE C o σ h1 with
      | .ok (.loc n) h2 => match evE C i σ h2 with
        | .ok (.int k) h3 => match h3[n]? with
          | some (.box (.lst xs)) => match ixN xs.length k with
            | some j => .nx σ (h3.set n (.box (.lst (xs.set j d))))
            | none => .stuck
          | _ => .stuck
        | .ok _ _ => .stuck
        | .exc c x h1 => .exc c x σ h1
        | .stuck => .stuck
      | .ok _ _ => .stuck
      | .exc c x h1 => .exc c x σ h1
      | .stuck => .stuck
    | .exc c x h1 => .exc c x σ h1
    | .stuck => .stuck
  | .aug i o e, σ, h => match σ[i]? with
    | some (some x) => match evE C e σ h with
      | .ok y h1 => match o, x, y with
        | .add, .int a, .int b => .nx (σ.set i (some (.int (a + b)))) h1
        | .sub, .int a, .int b => .nx (σ.set i (some (.int (a - b)))) h1
        | .add, .str a, .str b => if a.length + b.length ≤ LIM then .nx (σ.set i (some (.str (a ++ b)))) h1 else .stuck
        | _, _, _ => .stuck
      | .exc c x h1 => .exc c x σ h1
      | .stuck => .stuck
    | _ => .stuck
  | .expr e, σ, h => match evE C e σ h with
    | .ok _ h1 => .nx σ h1
    | .exc c x h1 => .exc c x σ h1
    | .stuck => .stuck
  | .ret e, σ, h => match evE C e σ h with
    | .ok d h1 => .rt d h1
    | .exc c x h1 => .exc c x σ h1
    | .stuck => .stuck
  | .retn, _, h => .rt .non h
  | .ite t a b, σ, h => match evT C t σ h with
    | .ok true h1 => evSs C a σ h1
    | .ok false h1 => evSs C b σ h1
    | .exc c x h1 => .exc c x σ h1
    | .stuck => .stuck
  | .for_ t s b, σ, h => match evSrc C s σ h with
    | .ok ds h1 => forL (evSs C b) t ds σ h1
    | .exc c x h1 => .exc c x σ h1
    | .stuck => .stuck
  | .while_ t b, σ, h => whileL (evT C t) (evSs C b) WF σ h
  | .raise c _, σ, h => .exc c .non σ h
  | .pass, σ, h => .nx σ h
  | .brk, σ, h => .bk σ h
  | .cont, σ, h => .ct σ h
  | .try_ b cs su, σ, h => match evSs C b σ h with
    | .exc c .non σ1 h1 => if cs.contains c then (match su with
      | .ret d => if d.pure then .rt d h1 else .stuck
      | .err f => match C.errT f c with
        | some d => .rt d h1
        | none => .stuck
      | .asg i d => if i < σ1.length ∧ d.pure then .nx (σ1.set i (some d)) h1 else .stuck) else if c < C.nx then .exc c .non σ1 h1 else .stuck
    | .exc _ _ _ _ => .stuck
    | r => r
def evSs (C : Cx) : CSs → Fr → Mem → RS
  | .nil, σ, h => .nx σ h
  | .cons s ss, σ, h => match evS C s σ h with
    | .nx σ1 h1 => evSs C ss σ1 h1
    | r => r
  | .fz i ss, σ, h => match σ[i]? with
    | some (some (.loc n)) => match h[n]? with
      | some (.box d) => evSs C ss (σ.set i (some d)) (h.set n .gone)
      | _ => .stuck
    | _ => .stuck
end

/-! ### calls -/
def Ob.beq : Ob → Ob → Bool
  | .box a, .box b => a.beq b
  | .gone, .gone => true
  | .ins c fs, .ins c' fs' => decide (c = c') && decide (fs.map (·.1) = fs'.map (·.1)) && D.beqs (fs.map (·.2)) (fs'.map (·.2))
  | _, _ => false
def Ob.okB (n : Nat) : Ob → Bool
  | .box a => a.okB n
  | .gone => true
  | .ins _ fs => D.okBs n (fs.map (·.2))
def sameOr (n : Nat) : Mem → Mem → Bool
  | [], [] => true
  | a :: as, b :: bs => (a.beq b || b.okB n) && sameOr n as bs
  | _, _ => false
/-- what is new in a call is dropped where nothing leads there any more -/
def gcOk (h h1 : Mem) (d : D) : Bool := d.okB h.length && sameOr h.length h (h1.take h.length)
structure Prog where
  defs : List Def
  glob : List D
  errT : Nat → Nat → Option D
  nx : Nat
def Prog.cx (P : Prog) (k : Nat) (call : Nat → List D → Mem → R) : Cx := ⟨call, fun i => P.glob[i]?, (match k with | 0 => fun _ _ => none | _ + 1 => P.errT), P.nx⟩
def fin (gc : Bool) (h h1 : Mem) (d : D) : R :=
  if gc then (if gcOk h h1 d then .ok d (h1.take h.length) else .stuck) else .ok d h1
def finX (gc : Bool) (h h1 : Mem) (c : Nat) (d : D) : R :=
  if gc then (if gcOk h h1 d then .exc c d (h1.take h.length) else .stuck) else .exc c d h1
def startF (ns : Nat) (args : List D) : Fr := args.map some ++ List.replicate (ns - args.length) none
def callF (P : Prog) : Nat → Nat → List D → Mem → R
  | 0, _, _, _ => .stuck
  | k + 1, f, args, h => match P.defs[f]? with
    | none => .stuck
    | some fd => if args.length = fd.np ∧ fd.np ≤ fd.ns then
        match evSs (P.cx k (callF P k)) fd.body (startF fd.ns args) h with
        | .nx _ h1 => fin fd.gc h h1 .non
        | .rt d h1 => fin fd.gc h h1 d
        | .exc c x _ h1 => finX fd.gc h h1 c x
        | _ => .stuck
      else .stuck
end Ev
end
section
set_option Elab.async false
set_option autoImplicit false
set_option linter.all false
/-! S0: how values, the heap of boxes and frames of the evaluator stand for the model's. -/
namespace So
open PySem PySem.Spec PyProof.Rows L2
open Ev (D Ob Mem Fr)

/-- what stays: the written part, the defs' addresses -/
structure Sx where
  K : PySem.W.Frag
  fa : Nat → Addr
  ca : Nat → Addr
/-- what is frozen; where the boxes stand -/
structure G where
  F : L2.Hp
  μ : List Addr

def tx (s : List Nat) : Str := ⟨s.toArray⟩
@[simp] theorem tx_list (s : List Nat) : (tx s).cps.toList = s := by simp [tx]
@[simp] theorem tx_len (s : List Nat) : (tx s).length = s.length := by simp [tx, Str.length]
theorem tx_inj {a b : List Nat} (h : tx a = tx b) : a = b := by
  have := congrArg (fun x : Str => x.cps.toList) h
  simpa using this
theorem tx_of (x : Str) : tx x.cps.toList = x := by cases x; simp [tx]

/-- signs of texts -/
def OkS (s : List Nat) : Prop := ∀ c ∈ s, c < 1114112
theorem OkS.ok {s : List Nat} (h : OkS s) : PyData.strOk (tx s) = true := by
  simp only [PyData.strOk, tx]
  simpa [Array.all_eq_true', OkS] using h
mutual
def toP : D → PyData
  | .non => .none
  | .bl b => .bool b
  | .int i => .int i
  | .str s => .str (tx s)
  | .tup xs => .tuple (toPs xs)
  | .lst xs => .list (toPs xs)
  | _ => .none
def toPs : List D → List PyData
  | [] => []
  | x :: xs => toP x :: toPs xs
end
mutual
def VD (S : Sx) (g : G) : D → V → Prop
  | .non, v => v = .non
  | .bl b, v => v = .bl b
  | .int i, v => v = .int i
  | .str s, v => v = .str (tx s) ∧ OkS s
  | .tup ds, v => ∃ a vs, v = .ref a ∧ SqT S.K g.F a vs ∧ VDs S g ds vs
  | .lst ds, v => ∃ a vs, v = .ref a ∧ g.F a = some (.lst vs) ∧ VDs S g ds vs
  | .scr ds, v => ∃ a vs, v = .ref a ∧ SqL S.K g.F a vs ∧ VDs S g ds vs
  | .loc n, v => ∃ a, v = .ref a ∧ g.μ[n]? = some a
  | .fn f, v => v = .ref (S.fa f)
  | .rep x, v => v = .str (toP x).shown
def VDs (S : Sx) (g : G) : List D → List V → Prop
  | [], vs => vs = []
  | d :: ds, vs => ∃ v vr, vs = v :: vr ∧ VD S g d v ∧ VDs S g ds vr
end

/-- a box's object -/
def OD (S : Sx) (g : G) (H : L2.Hp) (a : Addr) : Ob → Prop
  | .box (.lst ds) => ∃ vs, H a = some (.lst vs) ∧ VDs S g ds vs
  | .box _ => False
  | .ins _ _ => False
  | .gone => True
def live (h : Mem) (n : Nat) : Prop := ∃ o, h[n]? = some o ∧ o ≠ Ob.gone

structure Rel (S : Sx) (g : G) (h : Mem) (H : L2.Hp) : Prop where
  fz : ∀ a o, g.F a = some o → H a = some o
  len : g.μ.length = h.length
  ob : ∀ (n : Nat) a o, g.μ[n]? = some a → h[n]? = some o → OD S g H a o
  sep : ∀ (n : Nat) a, g.μ[n]? = some a → live h n → g.F a = none
  inj : ∀ (n m : Nat) a, g.μ[n]? = some a → g.μ[m]? = some a → live h n → live h m → n = m
def FrR (S : Sx) (g : G) (f : Fr) (σ : L2.St) : Prop :=
  f.length = σ.length ∧ ∀ (i : Nat) d, f[i]? = some (some d) → ∃ v, σ[i]? = some (some v) ∧ VD S g d v
structure Ext (g g' : G) : Prop where
  fz : ∀ a o, g.F a = some o → g'.F a = some o
  pre : ∃ r, g'.μ = g.μ ++ r

section
variable {S : Sx} {g g' g'' : G} {h h' : Mem} {H H' : L2.Hp} {a p : Addr} {d : D} {ds : List D} {v : V} {vs : List V} {n : Nat}

theorem Ext.refl : Ext g g := ⟨fun _ _ e => e, [], by simp⟩
theorem Ext.trans (x : Ext g g') (y : Ext g' g'') : Ext g g'' := by
  obtain ⟨r, e⟩ := x.pre
  obtain ⟨r', e'⟩ := y.pre
  exact ⟨fun a o q => y.fz a o (x.fz a o q), r ++ r', by rw [e', e, List.append_assoc]⟩
theorem Ext.at (x : Ext g g') (e : g.μ[n]? = some a) : g'.μ[n]? = some a := by
  obtain ⟨r, q⟩ := x.pre
  rw [q, List.getElem?_append_left (List.getElem?_eq_some_iff.mp e).1]
  exact e
theorem rd_mono {F F' : L2.Hp} {o : HO} (k : ∀ b u, F b = some u → F' b = some u) (h : Rd F a o) : Rd F' a o := by
  rcases h with h | ⟨u, h⟩
  · exact .inl (k _ _ h)
  · exact .inr ⟨u, k _ _ h⟩
theorem sqT_mono {K : PySem.W.Frag} {F F' : L2.Hp} (k : ∀ b u, F b = some u → F' b = some u) (h : SqT K F a vs) : SqT K F' a vs := by
  rcases h with h | h
  · exact .inl (rd_mono k h)
  · exact .inr h
theorem sqL_mono {K : PySem.W.Frag} {F F' : L2.Hp} (k : ∀ b u, F b = some u → F' b = some u) (h : SqL K F a vs) : SqL K F' a vs := by
  rcases h with h | h
  · exact .inl (rd_mono k h)
  · exact .inr h
mutual
theorem VD.mono (x : Ext g g') : ∀ (d : D) (v : V), VD S g d v → VD S g' d v
  | .non, _, h => h
  | .bl _, _, h => h
  | .int _, _, h => h
  | .str _, _, h => h
  | .tup ds, _, ⟨a, vs, e, q, r⟩ => ⟨a, vs, e, sqT_mono x.fz q, VDs.mono x ds vs r⟩
  | .lst ds, _, ⟨a, vs, e, q, r⟩ => ⟨a, vs, e, x.fz _ _ q, VDs.mono x ds vs r⟩
  | .scr ds, _, ⟨a, vs, e, q, r⟩ => ⟨a, vs, e, sqL_mono x.fz q, VDs.mono x ds vs r⟩
  | .loc n, _, ⟨a, e, q⟩ => ⟨a, e, x.at q⟩
  | .fn _, _, h => h
  | .rep _, _, h => h
theorem VDs.mono (x : Ext g g') : ∀ (ds : List D) (vs : List V), VDs S g ds vs → VDs S g' ds vs
  | [], _, h => h
  | d :: ds, _, ⟨v, vr, e, h1, h2⟩ => ⟨v, vr, e, VD.mono x d v h1, VDs.mono x ds vr h2⟩
end
theorem FrR.mono {f : Fr} {σ : L2.St} (x : Ext g g') (r : FrR S g f σ) : FrR S g' f σ :=
  ⟨r.1, fun i d e => let ⟨v, q, z⟩ := r.2 i d e; ⟨v, q, VD.mono x d v z⟩⟩
theorem VDs.length : ∀ {ds : List D} {vs : List V}, VDs S g ds vs → ds.length = vs.length
  | [], _, h => by cases h; rfl
  | d :: ds, _, ⟨v, vr, e, _, h⟩ => by subst e; simp [VDs.length h]
theorem VDs.get : ∀ {ds : List D} {vs : List V} {i : Nat} {d : D}, VDs S g ds vs → ds[i]? = some d → ∃ v, vs[i]? = some v ∧ VD S g d v
  | [], _, _, _, _, e => by simp at e
  | d :: ds, _, 0, _, ⟨v, vr, e, h, _⟩, q => by
    subst e
    simp at q
    subst q
    exact ⟨v, rfl, h⟩
  | d :: ds, _, i + 1, _, ⟨v, vr, e, _, h⟩, q => by
    subst e
    obtain ⟨w, e1, e2⟩ := VDs.get (i := i) h (by simpa using q)
    exact ⟨w, by simpa using e1, e2⟩
theorem VDs.append : ∀ {ds es : List D} {vs ws : List V}, VDs S g ds vs → VDs S g es ws → VDs S g (ds ++ es) (vs ++ ws)
  | [], _, _, _, h, k => by cases h; exact k
  | d :: ds, _, _, _, ⟨v, vr, e, h1, h2⟩, k => by
    subst e
    exact ⟨v, vr ++ _, rfl, h1, VDs.append h2 k⟩
theorem VDs.cons (h1 : VD S g d v) (h2 : VDs S g ds vs) : VDs S g (d :: ds) (v :: vs) := ⟨v, vs, rfl, h1, h2⟩
theorem VDs.one (h1 : VD S g d v) : VDs S g [d] [v] := ⟨v, [], rfl, h1, rfl⟩
theorem VDs.drop : ∀ {ds : List D} {vs : List V} (k : Nat), VDs S g ds vs → VDs S g (ds.drop k) (vs.drop k)
  | _, _, 0, h => by simpa using h
  | [], _, k + 1, h => by cases h; exact rfl
  | d :: ds, _, k + 1, ⟨v, vr, e, _, h⟩ => by
    subst e
    simpa using VDs.drop k h
theorem VDs.take : ∀ {ds : List D} {vs : List V} (k : Nat), VDs S g ds vs → VDs S g (ds.take k) (vs.take k)
  | _, _, 0, h => by simp; exact rfl
  | [], _, k + 1, h => by cases h; exact rfl
  | d :: ds, _, k + 1, ⟨v, vr, e, h1, h⟩ => by
    subst e
    simpa using VDs.cons h1 (VDs.take k h)
theorem VDs.reverse : ∀ {ds : List D} {vs : List V}, VDs S g ds vs → VDs S g ds.reverse vs.reverse
  | [], _, h => by cases h; exact rfl
  | d :: ds, _, ⟨v, vr, e, h1, h⟩ => by
    subst e
    simp only [List.reverse_cons]
    exact VDs.append (VDs.reverse h) (VDs.one h1)
theorem VDs.set (h1 : VD S g d v) : ∀ {ds : List D} {vs : List V} (k : Nat), VDs S g ds vs → VDs S g (ds.set k d) (vs.set k v)
  | [], _, _, h => by cases h; exact rfl
  | e :: ds, _, 0, ⟨w, vr, q, _, h⟩ => by
    subst q
    exact VDs.cons h1 h
  | e :: ds, _, k + 1, ⟨w, vr, q, h2, h⟩ => by
    subst q
    exact VDs.cons h2 (VDs.set h1 k h)
theorem VDs.erase : ∀ {ds : List D} {vs : List V} (k : Nat), VDs S g ds vs → VDs S g (ds.eraseIdx k) (vs.eraseIdx k)
  | [], _, _, h => by cases h; exact rfl
  | e :: ds, _, 0, ⟨w, vr, q, _, h⟩ => by
    subst q
    simpa using h
  | e :: ds, _, k + 1, ⟨w, vr, q, h2, h⟩ => by
    subst q
    simpa using VDs.cons h2 (VDs.erase k h)
theorem VDs.dropLast {ds : List D} {vs : List V} (h : VDs S g ds vs) : VDs S g ds.dropLast vs.dropLast := by
  rw [List.dropLast_eq_take, List.dropLast_eq_take, ← VDs.length h]
  exact VDs.take _ h
theorem VDs.rep (k : Nat) {ds : List D} {vs : List V} (h : VDs S g ds vs) : VDs S g (List.replicate k ds).flatten (List.replicate k vs).flatten := by
  induction k with
  | zero => exact rfl
  | succ k ih => simpa [List.replicate_succ] using VDs.append h ih
mutual
/-- places in what stands are places of the heap -/
theorem VD.okB : ∀ (d : D) (v : V), VD S g d v → d.okB g.μ.length = true
  | .non, _, _ => rfl
  | .bl _, _, _ => rfl
  | .int _, _, _ => rfl
  | .str _, _, _ => rfl
  | .tup ds, _, ⟨_, vs, _, _, r⟩ => by rw [D.okB]; exact VDs.okB ds vs r
  | .lst ds, _, ⟨_, vs, _, _, r⟩ => by rw [D.okB]; exact VDs.okB ds vs r
  | .scr ds, _, ⟨_, vs, _, _, r⟩ => by rw [D.okB]; exact VDs.okB ds vs r
  | .loc n, _, ⟨_, _, q⟩ => by
    rw [D.okB]
    exact decide_eq_true (List.getElem?_eq_some_iff.mp q).1
  | .fn _, _, _ => rfl
  | .rep _, _, _ => rfl
theorem VDs.okB : ∀ (ds : List D) (vs : List V), VDs S g ds vs → D.okBs g.μ.length ds = true
  | [], _, _ => rfl
  | d :: ds, _, ⟨v, vr, _, h1, h2⟩ => by rw [D.okBs, VD.okB d v h1, VDs.okB ds vr h2]; rfl
end
mutual
/-- a shorter row of places does for what stays below -/
theorem VD.cutμ {k : Nat} : ∀ (d : D) (v : V), d.okB k = true → VD S g d v → VD S ⟨g.F, g.μ.take k⟩ d v
  | .non, _, _, h => h
  | .bl _, _, _, h => h
  | .int _, _, _, h => h
  | .str _, _, _, h => h
  | .tup ds, _, o, ⟨a, vs, e, q, r⟩ => ⟨a, vs, e, q, VDs.cutμ ds vs (by rw [D.okB] at o; exact o) r⟩
  | .lst ds, _, o, ⟨a, vs, e, q, r⟩ => ⟨a, vs, e, q, VDs.cutμ ds vs (by rw [D.okB] at o; exact o) r⟩
  | .scr ds, _, o, ⟨a, vs, e, q, r⟩ => ⟨a, vs, e, q, VDs.cutμ ds vs (by rw [D.okB] at o; exact o) r⟩
  | .loc n, _, o, ⟨a, e, q⟩ => ⟨a, e, by
      rw [D.okB] at o
      rw [List.getElem?_take_of_lt (of_decide_eq_true o)]
      exact q⟩
  | .fn _, _, _, h => h
  | .rep _, _, _, h => h
theorem VDs.cutμ {k : Nat} : ∀ (ds : List D) (vs : List V), D.okBs k ds = true → VDs S g ds vs → VDs S ⟨g.F, g.μ.take k⟩ ds vs
  | [], _, _, h => h
  | d :: ds, _, o, ⟨v, vr, e, h1, h2⟩ => by
    rw [D.okBs, Bool.and_eq_true] at o
    exact ⟨v, vr, e, VD.cutμ d v o.1 h1, VDs.cutμ ds vr o.2 h2⟩
end

/-! ### steps of the heap -/
theorem Rel.free (r : Rel S g h H) (hp : H p = none) : g.F p = none := by
  cases q : g.F p with
  | none => rfl
  | some o => rw [r.fz p o q] at hp; cases hp
theorem OD.tracked {o : Ob} (x : OD S g H a o) (l : o ≠ .gone) : ∃ u, H a = some u := by
  cases o with
  | gone => exact absurd rfl l
  | ins c fs => exact False.elim x
  | box d =>
    cases d with
    | lst ds => obtain ⟨vs, e, _⟩ := x; exact ⟨_, e⟩
    | _ => exact False.elim x
theorem Rel.notBox (r : Rel S g h H) (hp : H p = none) (e : g.μ[n]? = some p) : ¬ live h n := by
  rintro ⟨o, q, l⟩
  obtain ⟨u, z⟩ := (r.ob n p o e q).tracked l
  rw [hp] at z; cases z
/-- a new object, tracked, of no concern -/
theorem Rel.new {o : HO} (r : Rel S g h H) (hp : H p = none) : Rel S g h (upd H p o) := by
  have ne : ∀ b u, H b = some u → b ≠ p := fun b u e z => by rw [z, hp] at e; cases e
  refine ⟨fun a u e => ?_, r.len, fun n a u e q => ?_, r.sep, r.inj⟩
  · rw [upd_ne (ne a u (r.fz a u e))]; exact r.fz a u e
  · have x := r.ob n a u e q
    cases u with
    | gone => exact trivial
    | ins c fs => exact False.elim x
    | box d =>
      cases d with
      | lst ds =>
        obtain ⟨vs, e1, e2⟩ := x
        exact ⟨vs, by rw [upd_ne (ne a _ e1)]; exact e1, e2⟩
      | _ => exact False.elim x
/-- what is tracked and no box is frozen -/
theorem Rel.freeze {o : HO} (r : Rel S g h H) (hp : H p = some o) (nb : ∀ n, g.μ[n]? = some p → ¬ live h n) : Rel S ⟨upd g.F p o, g.μ⟩ h H ∧ (g.F p = none → Ext g ⟨upd g.F p o, g.μ⟩) := by
  have ex : g.F p = none → Ext g ⟨upd g.F p o, g.μ⟩ := fun hn => ⟨fun a u e => by
    show upd g.F p o a = _
    rw [upd_ne (fun z => by rw [z, hn] at e; cases e)]; exact e, [], by simp⟩
  have ex' : ∀ a u, g.F a = some u → upd g.F p o a = some u := fun a u e => by
    by_cases q : a = p
    · subst q
      rw [upd_same]
      have := r.fz a u e
      rw [hp] at this
      exact this
    · rw [upd_ne q]; exact e
  have E : Ext g ⟨upd g.F p o, g.μ⟩ := ⟨ex', [], by simp⟩
  refine ⟨⟨fun a u e => ?_, r.len, fun n a u e q => ?_, fun n a e l => ?_, r.inj⟩, ex⟩
  · by_cases q : a = p
    · subst q
      have e' : upd g.F a o a = some u := e
      rw [upd_same] at e'
      rw [hp]; exact e'
    · have e' : upd g.F p o a = some u := e
      rw [upd_ne q] at e'
      exact r.fz a u e'
  · have x := r.ob n a u e q
    cases u with
    | gone => exact trivial
    | ins c fs => exact False.elim x
    | box d =>
      cases d with
      | lst ds =>
        obtain ⟨vs, e1, e2⟩ := x
        exact ⟨vs, e1, VDs.mono E ds vs e2⟩
      | _ => exact False.elim x
  · show upd g.F p o a = none
    rw [upd_ne (fun z => nb n (by rw [← z]; exact e) l)]
    exact r.sep n a e l
/-- what is tracked, frozen nowhere and no box becomes a box -/
theorem Rel.box (r : Rel S g h H) (hp : H p = some (.lst vs)) (hf : g.F p = none) (nb : ∀ n, g.μ[n]? = some p → ¬ live h n) (x : VDs S g ds vs) :
    Rel S ⟨g.F, g.μ ++ [p]⟩ (h ++ [.box (.lst ds)]) H ∧ Ext g ⟨g.F, g.μ ++ [p]⟩ := by
  have E : Ext g ⟨g.F, g.μ ++ [p]⟩ := ⟨fun _ _ e => e, [p], rfl⟩
  have lv : ∀ n, n < h.length → live (h ++ [Ob.box (.lst ds)]) n → live h n := fun n l ⟨o, e, k⟩ => ⟨o, by rw [List.getElem?_append_left l] at e; exact e, k⟩
  have cs : ∀ (n : Nat) a, (g.μ ++ [p])[n]? = some a → (n < h.length ∧ g.μ[n]? = some a) ∨ (n = h.length ∧ a = p) := fun n a e => by
    by_cases l : n < h.length
    · rw [List.getElem?_append_left (by rw [r.len]; exact l)] at e
      exact .inl ⟨l, e⟩
    · rw [List.getElem?_append_right (by rw [r.len]; omega), r.len] at e
      have : n - h.length = 0 := by
        have := (List.getElem?_eq_some_iff.mp e).1
        simp at this; omega
      rw [this] at e
      simp at e
      exact .inr ⟨by omega, e.symm⟩
  refine ⟨⟨r.fz, by simp [r.len], fun n a u e q => ?_, fun n a e l => ?_, fun n m a e1 e2 l1 l2 => ?_⟩, E⟩
  · rcases cs n a e with ⟨l, e'⟩ | ⟨l, e'⟩
    · rw [List.getElem?_append_left l] at q
      have x := r.ob n a u e' q
      cases u with
      | gone => exact trivial
      | ins c fs => exact False.elim x
      | box d =>
        cases d with
        | lst ds =>
          obtain ⟨vs, e1, e2⟩ := x
          exact ⟨vs, e1, VDs.mono E ds vs e2⟩
        | _ => exact False.elim x
    · subst l; subst e'
      rw [List.getElem?_append_right (Nat.le_refl _)] at q
      simp at q
      subst q
      exact ⟨vs, hp, VDs.mono E ds vs x⟩
  · rcases cs n a e with ⟨k, e'⟩ | ⟨k, e'⟩
    · exact r.sep n a e' (lv n k l)
    · subst e'; exact hf
  · rcases cs n a e1 with ⟨k1, f1⟩ | ⟨k1, f1⟩ <;> rcases cs m a e2 with ⟨k2, f2⟩ | ⟨k2, f2⟩
    · exact r.inj n m a f1 f2 (lv n k1 l1) (lv m k2 l2)
    · subst f2; exact absurd (lv n k1 l1) (nb n f1)
    · subst f1; exact absurd (lv m k2 l2) (nb m f2)
    · omega
/-- a box is written -/
theorem Rel.write (r : Rel S g h H) (e : g.μ[n]? = some a) (l : live h n) (x : VDs S g ds vs) : Rel S g (h.set n (.box (.lst ds))) (upd H a (.lst vs)) := by
  have hn : n < h.length := by rw [← r.len]; exact (List.getElem?_eq_some_iff.mp e).1
  have lv : ∀ m, live (h.set n (Ob.box (.lst ds))) m → live h m := fun m ⟨o, q, k⟩ => by
    by_cases z : n = m
    · subst z; exact l
    · rw [List.getElem?_set_ne z] at q; exact ⟨o, q, k⟩
  refine ⟨fun b u q => ?_, by simp [r.len], fun m b u q1 q2 => ?_, fun m b q1 q2 => r.sep m b q1 (lv m q2), fun m m' b q1 q2 l1 l2 => r.inj m m' b q1 q2 (lv m l1) (lv m' l2)⟩
  · rw [upd_ne (fun z => by rw [z, r.sep n a e l] at q; cases q)]
    exact r.fz b u q
  · by_cases z : n = m
    · subst z
      rw [e] at q1; cases q1
      rw [List.getElem?_set_self hn] at q2; cases q2
      exact ⟨vs, upd_same, x⟩
    · rw [List.getElem?_set_ne z] at q2
      have y := r.ob m b u q1 q2
      cases u with
      | gone => exact trivial
      | ins c fs => exact False.elim y
      | box d =>
        cases d with
        | lst es =>
          obtain ⟨ws, e1, e2⟩ := y
          refine ⟨ws, ?_, e2⟩
          have : b ≠ a := fun w => by
            subst w
            exact z (r.inj n m b e q1 l ⟨_, q2, by intro k; cases k⟩)
          rw [upd_ne this]; exact e1
        | _ => exact False.elim y
/-- a box is frozen -/
theorem Rel.gone (r : Rel S g h H) (e : h[n]? = some (.box (.lst ds))) : ∃ a vs, g.μ[n]? = some a ∧ H a = some (.lst vs) ∧ VDs S g ds vs ∧
    Rel S ⟨upd g.F a (.lst vs), g.μ⟩ (h.set n .gone) H ∧ Ext g ⟨upd g.F a (.lst vs), g.μ⟩ ∧ VD S ⟨upd g.F a (.lst vs), g.μ⟩ (.lst ds) (.ref a) := by
  have hn : n < h.length := (List.getElem?_eq_some_iff.mp e).1
  obtain ⟨a, ea⟩ : ∃ a, g.μ[n]? = some a := ⟨g.μ[n]'(by rw [r.len]; exact hn), by rw [List.getElem?_eq_getElem]⟩
  obtain ⟨vs, e1, e2⟩ := r.ob n a _ ea e
  have lvn : live h n := ⟨_, e, by intro k; cases k⟩
  have lv : ∀ m, live (h.set n Ob.gone) m → live h m ∧ m ≠ n := fun m ⟨o, q, k⟩ => by
    by_cases z : n = m
    · subst z
      rw [List.getElem?_set_self hn] at q; cases q
      exact absurd rfl k
    · rw [List.getElem?_set_ne z] at q; exact ⟨⟨o, q, k⟩, fun w => z w.symm⟩
  have r1 : Rel S g (h.set n .gone) H := ⟨r.fz, by simp [r.len], fun m b u q1 q2 => by
    by_cases z : n = m
    · subst z
      rw [List.getElem?_set_self hn] at q2; cases q2
      exact trivial
    · rw [List.getElem?_set_ne z] at q2; exact r.ob m b u q1 q2, fun m b q1 q2 => r.sep m b q1 (lv m q2).1, fun m m' b q1 q2 l1 l2 => r.inj m m' b q1 q2 (lv m l1).1 (lv m' l2).1⟩
  obtain ⟨r2, E⟩ := r1.freeze e1 (fun m q l => by
    obtain ⟨l1, l2⟩ := lv m l
    exact l2 (r.inj m n a q ea l1 lvn))
  have E := E (r.sep n a ea lvn)
  refine ⟨a, vs, ea, e1, e2, r2, E, a, vs, rfl, ?_, VDs.mono E ds vs e2⟩
  exact upd_same
mutual
theorem beq_eq : ∀ (a b : D), D.beq a b = true → a = b
  | .non, b, h => by cases b <;> simp [D.beq] at h ⊢
  | .bl x, b, h => by cases b <;> simp [D.beq] at h ⊢; exact h
  | .int x, b, h => by cases b <;> simp [D.beq] at h ⊢; exact h
  | .str x, b, h => by cases b <;> simp [D.beq] at h ⊢; exact h
  | .tup x, b, h => by
    cases b <;> simp [D.beq] at h ⊢
    exact beqs_eq _ _ h
  | .lst x, b, h => by
    cases b <;> simp [D.beq] at h ⊢
    exact beqs_eq _ _ h
  | .loc x, b, h => by cases b <;> simp [D.beq] at h ⊢; exact h
  | .fn x, b, h => by cases b <;> simp [D.beq] at h ⊢; exact h
  | .scr x, b, h => by
    cases b <;> simp [D.beq] at h ⊢
    exact beqs_eq _ _ h
  | .rep x, b, h => by
    cases b <;> simp [D.beq] at h ⊢
    exact beq_eq _ _ h
theorem beqs_eq : ∀ (a b : List D), D.beqs a b = true → a = b
  | [], b, h => by cases b <;> simp [D.beqs] at h ⊢
  | x :: xs, b, h => by
    cases b with
    | nil => simp [D.beqs] at h
    | cons y ys =>
      simp [D.beqs] at h
      rw [beq_eq x y h.1, beqs_eq xs ys h.2]
end
theorem obeq_eq (a b : Ob) (hb : b ≠ .gone → ∃ d, b = .box d) (h : Ob.beq a b = true) : a = b := by
  cases a <;> cases b <;> simp [Ob.beq] at h ⊢
  · exact beq_eq _ _ h
  · obtain ⟨d, e⟩ := hb (by intro k; cases k)
    cases e
/-- what is new is let go -/
theorem Rel.back {g0 : G} {h0 : Mem} {H0 : L2.Hp} (r0 : Rel S g0 h0 H0) (r : Rel S g h H) (E : Ext g0 g) (hg : Ev.gcOk h0 h d = true) (x : VD S g d v) :
    Rel S ⟨g.F, g0.μ⟩ (h.take h0.length) H ∧ Ext g0 ⟨g.F, g0.μ⟩ ∧ VD S ⟨g.F, g0.μ⟩ d v := by
  obtain ⟨t, et⟩ := E.pre
  have tk : g.μ.take h0.length = g0.μ := by rw [et, ← r0.len, List.take_left]
  unfold Ev.gcOk at hg
  rw [Bool.and_eq_true] at hg
  obtain ⟨hd, hs⟩ := hg
  have le : h0.length ≤ h.length := by
    have := r.len
    rw [et, List.length_append, r0.len] at this
    omega
  have all : ∀ (k : Nat) (as bs : Mem), Ev.sameOr k as bs = true → as.length = bs.length ∧ ∀ (i : Nat) o, bs[i]? = some o → (∃ o', as[i]? = some o' ∧ Ob.beq o' o = true) ∨ o.okB k = true := by
    intro k as
    induction as with
    | nil =>
      intro bs q
      cases bs with
      | nil => exact ⟨rfl, fun i o e => by simp at e⟩
      | cons b bs => simp [Ev.sameOr] at q
    | cons a as ih =>
      intro bs q
      cases bs with
      | nil => simp [Ev.sameOr] at q
      | cons b bs =>
        rw [Ev.sameOr, Bool.and_eq_true, Bool.or_eq_true] at q
        obtain ⟨l, z⟩ := ih bs q.2
        refine ⟨by simp [l], fun i o e => ?_⟩
        cases i with
        | zero =>
          simp at e
          subst e
          rcases q.1 with q | q
          · exact .inl ⟨a, rfl, q⟩
          · exact .inr q
        | succ i => simpa using z i o (by simpa using e)
  obtain ⟨_, hz⟩ := all _ _ _ hs
  have E' : Ext g0 ⟨g.F, g0.μ⟩ := ⟨E.fz, [], by simp⟩
  have lt : ∀ (n : Nat) o, (h.take h0.length)[n]? = some o → h[n]? = some o := fun n o e => by
    rw [List.getElem?_take] at e
    split at e
    · exact e
    · cases e
  have at' : ∀ (n : Nat) a, g0.μ[n]? = some a → g.μ[n]? = some a := fun n a e => E.at e
  have lv : ∀ n, live (h.take h0.length) n → live h n := fun n ⟨o, e, k⟩ => ⟨o, lt n o e, k⟩
  refine ⟨⟨r.fz, by rw [List.length_take, r0.len]; omega, fun n a o e q => ?_, fun n a e l => r.sep n a (at' n a e) (lv n l), fun n m a e1 e2 l1 l2 => r.inj n m a (at' n a e1) (at' m a e2) (lv n l1) (lv m l2)⟩, E', ?_⟩
  · have x := r.ob n a o (at' n a e) (lt n o q)
    cases o with
    | gone => exact trivial
    | ins c fs => exact False.elim x
    | box b =>
      cases b with
      | lst ds =>
        obtain ⟨vs, e1, e2⟩ := x
        refine ⟨vs, e1, ?_⟩
        have ok : D.okBs h0.length ds = true := by
          rcases hz n _ q with ⟨o', z1, z2⟩ | z
          · have z3 := obeq_eq o' _ (fun _ => ⟨_, rfl⟩) z2
            subst z3
            obtain ⟨ws, _, z4⟩ := r0.ob n a _ e z1
            have := VDs.okB ds ws z4
            rw [r0.len] at this
            exact this
          · simpa [Ob.okB, D.okB] using z
        have := VDs.cutμ (k := h0.length) ds vs ok e2
        rw [tk] at this
        exact this
      | _ => exact False.elim x
  · have := VD.cutμ (k := h0.length) d v hd x
    rw [tk] at this
    exact this
end
end So
end
section
set_option Elab.async false
set_option autoImplicit false
set_option linter.all false
/-! S1: steps of the whole, outcomes, readings. -/
namespace So
open PySem PySem.Spec PyProof.Rows L2
open Ev (D Ob Mem Fr R RS RL RB)

/-- from one state of all to a later one: what is frozen stays, boxes that are let go stay so, new boxes are new, all else that stood stands -/
structure Step (g : G) (h : Mem) (H : L2.Hp) (g' : G) (h' : Mem) (H' : L2.Hp) : Prop where
  ext : Ext g g'
  dead : ∀ n, n < h.length → live h' n → live h n
  fresh : ∀ (n : Nat) a, h.length ≤ n → g'.μ[n]? = some a → H a = none
  keep : ∀ b o, H b = some o → (∀ n, g.μ[n]? = some b → ¬ live h n) → H' b = some o
  there : ∀ b o, H b = some o → ∃ o', H' b = some o'
  frz : ∀ b o, H b = some o → (∀ n, g.μ[n]? = some b → ¬ live h n) → g.F b = none → g'.F b = none

section
variable {S : Sx} {g g' g'' : G} {h h' h'' : Mem} {H H' H'' : L2.Hp} {a p : Addr} {d : D} {ds : List D} {v : V} {vs : List V} {n : Nat}
theorem len_le (r : Rel S g h H) (r' : Rel S g' h' H') (e : Ext g g') : h.length ≤ h'.length := by
  obtain ⟨t, q⟩ := e.pre
  have := r'.len
  rw [q, List.length_append, r.len] at this
  omega
theorem Step.refl (r : Rel S g h H) : Step g h H g h H := ⟨Ext.refl, fun _ _ l => l, fun n a l e => by
  have := (List.getElem?_eq_some_iff.mp e).1
  rw [r.len] at this; omega, fun _ _ e _ => e, fun _ o e => ⟨o, e⟩, fun _ _ _ _ e => e⟩
/-- what was no box is none later -/
theorem Step.notBox (r : Rel S g h H) (x : Step g h H g' h' H') {b : Addr} {o : HO} (e : H b = some o) (nb : ∀ n, g.μ[n]? = some b → ¬ live h n) : ∀ n, g'.μ[n]? = some b → ¬ live h' n := fun n q l => by
  by_cases z : n < h.length
  · obtain ⟨t, w⟩ := x.ext.pre
    rw [w, List.getElem?_append_left (by rw [r.len]; exact z)] at q
    exact nb n q (x.dead n z l)
  · have := x.fresh n b (by omega) q
    rw [this] at e; cases e
theorem Step.trans (r : Rel S g h H) (r' : Rel S g' h' H') (x : Step g h H g' h' H') (y : Step g' h' H' g'' h'' H'') : Step g h H g'' h'' H'' := by
  have le := len_le r r' x.ext
  have tr : ∀ b o, H b = some o → (∀ n, g.μ[n]? = some b → ¬ live h n) → ∀ n, g'.μ[n]? = some b → ¬ live h' n := fun b o e nb n q l => by
    by_cases z : n < h.length
    · obtain ⟨t, w⟩ := x.ext.pre
      rw [w, List.getElem?_append_left (by rw [r.len]; exact z)] at q
      exact nb n q (x.dead n z l)
    · have := x.fresh n b (by omega) q
      rw [this] at e; cases e
  refine ⟨x.ext.trans y.ext, fun n l q => x.dead n l (y.dead n (by omega) q), fun n a l e => ?_, fun b o e nb => y.keep b o (x.keep b o e nb) (tr b o e nb), fun b o e => ?_, fun b o e nb f => y.frz b o (x.keep b o e nb) (tr b o e nb) (x.frz b o e nb f)⟩
  · by_cases z : n < h'.length
    · obtain ⟨t, w⟩ := y.ext.pre
      rw [w, List.getElem?_append_left (by rw [r'.len]; exact z)] at e
      exact x.fresh n a l e
    · have q := y.fresh n a (by omega) e
      cases c : H a with
      | none => rfl
      | some o =>
        obtain ⟨o', k⟩ := x.there a o c
        rw [q] at k; cases k
  · obtain ⟨o', k⟩ := x.there b o e
    exact y.there b o' k

/-- a new object is laid, of no concern -/
theorem Step.new {o : HO} (r : Rel S g h H) (hp : H p = none) : Step g h H g h (upd H p o) := by
  have ne : ∀ b u, H b = some u → b ≠ p := fun b u e z => by rw [z, hp] at e; cases e
  refine ⟨Ext.refl, fun _ _ l => l, (Step.refl r).fresh, fun b u e _ => ?_, fun b u e => ⟨u, ?_⟩, fun _ _ _ _ e => e⟩
  · rw [upd_ne (ne b u e)]; exact e
  · rw [upd_ne (ne b u e)]; exact e
/-- .. and frozen -/
theorem new_fr {o : HO} (r : Rel S g h H) (hp : H p = none) : Rel S ⟨upd g.F p o, g.μ⟩ h (upd H p o) ∧ Step g h H ⟨upd g.F p o, g.μ⟩ h (upd H p o) := by
  have st := Step.new (o := o) r hp
  obtain ⟨r2, E⟩ := (r.new (o := o) hp).freeze (p := p) (o := o) upd_same fun n e => r.notBox hp e
  exact ⟨r2, E (r.free hp), st.dead, fun n a l e => st.fresh n a l e, st.keep, st.there, fun b u e _ f => by
    show upd g.F p o b = none
    rw [upd_ne (fun z => by rw [z, hp] at e; cases e)]
    exact f⟩
/-- a new tuple -/
theorem new_tup (r : Rel S g h H) (hp : H p = none) (x : VDs S g ds vs) : ∃ g', Rel S g' h (upd H p (.tup vs)) ∧ Step g h H g' h (upd H p (.tup vs)) ∧ VD S g' (.tup ds) (.ref p) := by
  obtain ⟨r2, st⟩ := new_fr (o := .tup vs) r hp
  exact ⟨_, r2, st, p, vs, rfl, .inl (.inl upd_same), VDs.mono st.ext ds vs x⟩
/-- a new list, frozen -/
theorem new_lst (r : Rel S g h H) (hp : H p = none) (x : VDs S g ds vs) : ∃ g', Rel S g' h (upd H p (.lst vs)) ∧ Step g h H g' h (upd H p (.lst vs)) ∧ VD S g' (.lst ds) (.ref p) := by
  obtain ⟨r2, st⟩ := new_fr (o := .lst vs) r hp
  exact ⟨_, r2, st, p, vs, rfl, upd_same, VDs.mono st.ext ds vs x⟩
/-- a box is written -/
theorem Step.write (r : Rel S g h H) (e : g.μ[n]? = some a) (l : live h n) : Step g h H g (h.set n (.box (.lst ds))) (upd H a (.lst vs)) := by
  have hn : n < h.length := by rw [← r.len]; exact (List.getElem?_eq_some_iff.mp e).1
  refine ⟨Ext.refl, fun m hm ⟨o, q, k⟩ => ?_, (Step.refl r).fresh, fun b u q nb => ?_, fun b u q => ?_, fun _ _ _ _ e => e⟩
  · by_cases z : n = m
    · subst z; exact l
    · rw [List.getElem?_set_ne z] at q; exact ⟨o, q, k⟩
  · rw [upd_ne (fun z => nb n (by rw [z]; exact e) l)]; exact q
  · by_cases z : b = a
    · subst z; exact ⟨_, upd_same⟩
    · exact ⟨u, by rw [upd_ne z]; exact q⟩
/-- a frozen box -/
theorem Step.gone {o : HO} (r : Rel S g h H) (E : Ext g g') (m : g' = ⟨upd g.F a o, g.μ⟩) (ea : g.μ[n]? = some a) (lv : live h n) : Step g h H g' (h.set n .gone) H := by
  subst m
  refine ⟨E, fun k hk ⟨o, q, z⟩ => ?_, fun k a l e => (Step.refl r).fresh k a l e, fun _ _ e _ => e, fun b o e => ⟨o, e⟩, fun b u e nb f => by
    show upd g.F a o b = none
    rw [upd_ne (fun z => nb n (by rw [z]; exact ea) lv)]
    exact f⟩
  by_cases w : n = k
  · subst w
    rw [List.getElem?_set_self hk] at q; cases q
    exact absurd rfl z
  · rw [List.getElem?_set_ne w] at q; exact ⟨o, q, z⟩
/-- a new list becomes a box -/
theorem new_box (r : Rel S g h H) (hp : H p = some (.lst vs)) (hf : g.F p = none) (nb : ∀ n, g.μ[n]? = some p → ¬ live h n) (x : VDs S g ds vs) {g0 : G} {h0 : Mem} {H0 : L2.Hp} (r0 : Rel S g0 h0 H0) (st : Step g0 h0 H0 g h H) (h0p : H0 p = none) :
    ∃ g', Rel S g' (h ++ [.box (.lst ds)]) H ∧ Step g0 h0 H0 g' (h ++ [.box (.lst ds)]) H ∧ VD S g' (.loc h.length) (.ref p) := by
  obtain ⟨r2, E⟩ := r.box hp hf nb x
  refine ⟨_, r2, ⟨st.ext.trans E, fun n l ⟨o, q, k⟩ => st.dead n l ?_, fun n a l e => ?_, st.keep, st.there, st.frz⟩, p, rfl, ?_⟩
  · have le := len_le r0 r st.ext
    rw [List.getElem?_append_left (by omega)] at q
    exact ⟨o, q, k⟩
  · have e : (g.μ ++ [p])[n]? = some a := e
    by_cases z : n < g.μ.length
    · rw [List.getElem?_append_left z] at e
      exact st.fresh n a l e
    · rw [List.getElem?_append_right (by omega)] at e
      have hz : n - g.μ.length = 0 := by
        have := (List.getElem?_eq_some_iff.mp e).1
        simp at this; omega
      rw [hz] at e
      simp at e
      subst e
      exact h0p
  · show (g.μ ++ [p])[h.length]? = some p
    rw [← r.len]; simp

/-! ### outcomes -/
/-- where an error goes: its class, the frame -/
def OkW (S : Sx) (W : WX) (σ : L2.St) (g : G) (h : Mem) (H : L2.Hp) (c : Nat) (x : D) (h' : Mem) : Prop :=
  x = .non ∧ ∀ g' H', Step g h H g' h' H' → Rel S g' h' H' → W (.ref (S.ca c)) none σ H'
def OutE (S : Sx) (W : WX) (σ : L2.St) (g : G) (h : Mem) (H : L2.Hp) (Q : VK) : R → Prop
  | .ok d h' => ∀ v g' H', Step g h H g' h' H' → Rel S g' h' H' → VD S g' d v → Q v H'
  | .exc c x h' => OkW S W σ g h H c x h'
  | .stuck => False
def OutL (S : Sx) (W : WX) (σ : L2.St) (g : G) (h : Mem) (H : L2.Hp) (Q : List V → L2.Hp → Prop) : RL → Prop
  | .ok ds h' => ∀ vs g' H', Step g h H g' h' H' → Rel S g' h' H' → VDs S g' ds vs → Q vs H'
  | .exc c x h' => OkW S W σ g h H c x h'
  | .stuck => False
def OutB (S : Sx) (W : WX) (σ : L2.St) (g : G) (h : Mem) (H : L2.Hp) (Q : Bool → L2.Hp → Prop) : RB → Prop
  | .ok b h' => ∀ g' H', Step g h H g' h' H' → Rel S g' h' H' → Q b H'
  | .exc c x h' => OkW S W σ g h H c x h'
  | .stuck => False
/-- a new list, of no one else -/
def OutF (S : Sx) (W : WX) (σ : L2.St) (g : G) (h : Mem) (H : L2.Hp) (Q : VK) : R → Prop
  | .ok d h' => ∃ ds, d = .lst ds ∧ ∀ p vs g' H', H p = none → Step g h H g' h' H' → Rel S g' h' H' → H' p = some (.lst vs) → g'.F p = none → (∀ n, g'.μ[n]? = some p → ¬ live h' n) → VDs S g' ds vs → Q (.ref p) H'
  | .exc c x h' => OkW S W σ g h H c x h'
  | .stuck => False
variable {W : WX} {σ : L2.St}
theorem OkW.shift {c : Nat} {x : D} (r : Rel S g h H) (r' : Rel S g' h' H') (st : Step g h H g' h' H') (o : OkW S W σ g h H c x h'') : OkW S W σ g' h' H' c x h'' :=
  ⟨o.1, fun g2 H2 s2 r2 => o.2 g2 H2 (st.trans r r' s2) r2⟩
theorem OutE.shift {Q : VK} (r : Rel S g h H) (r' : Rel S g' h' H') (st : Step g h H g' h' H') : ∀ {x : R}, OutE S W σ g h H Q x → OutE S W σ g' h' H' Q x
  | .ok d h2, o => fun v g2 H2 s2 r2 z => o v g2 H2 (st.trans r r' s2) r2 z
  | .exc c x h2, o => OkW.shift r r' st o
  | .stuck, o => o
theorem OutL.shift {Q : List V → L2.Hp → Prop} (r : Rel S g h H) (r' : Rel S g' h' H') (st : Step g h H g' h' H') : ∀ {x : RL}, OutL S W σ g h H Q x → OutL S W σ g' h' H' Q x
  | .ok d h2, o => fun v g2 H2 s2 r2 z => o v g2 H2 (st.trans r r' s2) r2 z
  | .exc c x h2, o => OkW.shift r r' st o
  | .stuck, o => o
theorem OutB.shift {Q : Bool → L2.Hp → Prop} (r : Rel S g h H) (r' : Rel S g' h' H') (st : Step g h H g' h' H') : ∀ {x : RB}, OutB S W σ g h H Q x → OutB S W σ g' h' H' Q x
  | .ok d h2, o => fun g2 H2 s2 r2 => o g2 H2 (st.trans r r' s2) r2
  | .exc c x h2, o => OkW.shift r r' st o
  | .stuck, o => o
end

/-! ### readings -/
section
variable (S : Sx) (W : WX)
def tE (ev : Fr → Mem → R) : TE := fun σ H Q => ∃ g f h, Rel S g h H ∧ FrR S g f σ ∧ OutE S W σ g h H Q (ev f h)
def tF (ev : Fr → Mem → R) : TE := fun σ H Q => ∃ g f h, Rel S g h H ∧ FrR S g f σ ∧ OutF S W σ g h H Q (ev f h)
def tL (ev : Fr → Mem → RL) : TA := fun σ H Q => ∃ g f h, Rel S g h H ∧ FrR S g f σ ∧ OutL S W σ g h H Q (ev f h)
def tB (ev : Fr → Mem → RB) : TT := fun σ H Q => ∃ g f h, Rel S g h H ∧ FrR S g f σ ∧ OutB S W σ g h H Q (ev f h)
end
section
variable {X : Cx} {e : Expr}
theorem PE.imp {t t' : TE} (p : PE X e t) (k : ∀ σ H Q, t' σ H Q → t σ H Q) : PE X e t' := ⟨fun pins s σ H Q I h => p.run pins s σ H Q I (k σ H Q h)⟩
theorem PT.imp {t t' : TT} (p : PT X e t) (k : ∀ σ H Q, t' σ H Q → t σ H Q) : PT X e t' := ⟨fun pins s σ H Q I h => p.run pins s σ H Q I (k σ H Q h)⟩
theorem PW.imp {t t' : TT} (p : PW X e t) (k : ∀ σ H Q, t' σ H Q → t σ H Q) : PW X e t' := ⟨fun w pins s σ H Q I h => p.run w pins s σ H Q I (k σ H Q h)⟩
theorem PA.imp {es : List Expr} {t t' : TA} (p : PA X es t) (k : ∀ σ H Q, t' σ H Q → t σ H Q) : PA X es t' := ⟨fun pos pins s σ H Q I h => p.run pos pins s σ H Q I (k σ H Q h)⟩
theorem PS.imp {st : Stmt} {t t' : TS} (p : PS X st t) (k : ∀ D σ H, t' D σ H → t D σ H) : PS X st t' := ⟨fun pins s σ H D I h => p.run pins s σ H D I (k D σ H h)⟩
theorem PSs.imp {st : List Stmt} {t t' : TS} (p : PSs X st t) (k : ∀ D σ H, t' D σ H → t D σ H) : PSs X st t' := ⟨fun pins s σ H D I h => p.run pins s σ H D I (k D σ H h)⟩
theorem PI.imp {tg e : Expr} {t t' : TI} (p : PI X tg e t) (k : ∀ σ H R, t' σ H R → t σ H R) : PI X tg e t' := ⟨fun pins s σ H R I h => p.run pins s σ H R I (k σ H R h)⟩
end
section
variable {S : Sx} {W : WX} {g : G} {f : Fr} {h : Mem} {H : L2.Hp} {σ : L2.St}
/-- an expression first, then what comes -/
theorem tE_bind {ev : Fr → Mem → R} {Q : VK} (r : Rel S g h H) (fr : FrR S g f σ)
    (ho : match ev f h with
      | .ok d h1 => ∀ v g1 H1, Step g h H g1 h1 H1 → Rel S g1 h1 H1 → VD S g1 d v → FrR S g1 f σ → Q v H1
      | .exc c x h1 => OkW S W σ g h H c x h1
      | .stuck => False) : tE S W ev σ H Q := by
  refine ⟨g, f, h, r, fr, ?_⟩
  cases q : ev f h with
  | ok d h1 =>
    rw [q] at ho
    exact fun v g1 H1 st r1 z => ho v g1 H1 st r1 z (fr.mono st.ext)
  | exc c x h1 => rw [q] at ho; exact ho
  | stuck => rw [q] at ho; exact ho
theorem tL_bind {ev : Fr → Mem → RL} {Q : List V → L2.Hp → Prop} (r : Rel S g h H) (fr : FrR S g f σ)
    (ho : match ev f h with
      | .ok d h1 => ∀ v g1 H1, Step g h H g1 h1 H1 → Rel S g1 h1 H1 → VDs S g1 d v → FrR S g1 f σ → Q v H1
      | .exc c x h1 => OkW S W σ g h H c x h1
      | .stuck => False) : tL S W ev σ H Q := by
  refine ⟨g, f, h, r, fr, ?_⟩
  cases q : ev f h with
  | ok d h1 =>
    rw [q] at ho
    exact fun v g1 H1 st r1 z => ho v g1 H1 st r1 z (fr.mono st.ext)
  | exc c x h1 => rw [q] at ho; exact ho
  | stuck => rw [q] at ho; exact ho
theorem tB_bind {ev : Fr → Mem → RB} {Q : Bool → L2.Hp → Prop} (r : Rel S g h H) (fr : FrR S g f σ)
    (ho : match ev f h with
      | .ok d h1 => ∀ g1 H1, Step g h H g1 h1 H1 → Rel S g1 h1 H1 → FrR S g1 f σ → Q d H1
      | .exc c x h1 => OkW S W σ g h H c x h1
      | .stuck => False) : tB S W ev σ H Q := by
  refine ⟨g, f, h, r, fr, ?_⟩
  cases q : ev f h with
  | ok d h1 =>
    rw [q] at ho
    exact fun g1 H1 st r1 => ho g1 H1 st r1 (fr.mono st.ext)
  | exc c x h1 => rw [q] at ho; exact ho
  | stuck => rw [q] at ho; exact ho
end
end So
end
section
set_option Elab.async false
set_option autoImplicit false
set_option linter.all false
/-! S2: operations on values. -/
namespace So
open PySem PySem.Spec PyProof.Rows L2
open Ev (D Ob Mem Fr R RS RL RB Bop Cop)

section
variable {S : Sx} {g g' : G} {h h' : Mem} {H H' : L2.Hp} {a p : Addr} {d e : D} {ds : List D} {v x y : V} {vs : List V} {n : Nat}
/-- a value as it stands now: a list may be a box -/
def VH (S : Sx) (g : G) (H : L2.Hp) : D → V → Prop
  | .lst ds, v => ∃ a vs, v = .ref a ∧ H a = some (.lst vs) ∧ VDs S g ds vs
  | d, v => VD S g d v
theorem VD.vh (r : Rel S g h H) (z : VD S g d v) : VH S g H d v := by
  cases d with
  | lst ds =>
    obtain ⟨a, vs, e, q, w⟩ := z
    exact ⟨a, vs, e, r.fz _ _ q, w⟩
  | _ => exact z
theorem shal_vh (r : Rel S g h H) (z : VD S g d v) : VH S g H (Ev.shal h d) v := by
  cases d with
  | loc n =>
    obtain ⟨a, e, q⟩ := id z
    simp only [Ev.shal]
    cases w : h[n]? with
    | none => exact z
    | some o =>
      cases o with
      | box c =>
        have k := r.ob n a _ q w
        cases c with
        | lst ds => obtain ⟨vs, e1, e2⟩ := k; exact ⟨a, vs, e, e1, e2⟩
        | _ => exact False.elim k
      | ins c fs => exact z
      | gone => exact z
  | _ => exact VD.vh r z
theorem lim_line : Ev.LIM ≤ sizeLine := by rw [sizeLine_eq]; decide

/-! ### what it is for data (PyData) -/
theorem toPs_length : ∀ l : List D, (toPs l).length = l.length
  | [] => rfl
  | x :: xs => by simp [toPs, toPs_length xs]
theorem toPs_map : ∀ l : List D, toPs l = l.map toP
  | [] => rfl
  | x :: xs => by simp [toPs, toPs_map xs]
mutual
theorem VD.dp (fz : ∀ a o, g.F a = some o → H a = some o) : ∀ (d : D) (v : V), d.pure = true → VD S g d v → Dp S.K H v (toP d)
  | .non, _, _, e => by cases e; exact .non
  | .bl b, _, _, e => by cases e; exact .bl b
  | .int i, _, _, e => by cases e; exact .int i
  | .str s, _, _, e => by obtain ⟨e, _⟩ := e; cases e; exact .str _
  | .tup ds, _, p, ⟨a, vs, e, q, w⟩ => by
    subst e
    exact .tup (sqT_mono fz q) (VDs.dp fz ds vs (by rw [D.pure] at p; exact p) w)
  | .lst ds, _, p, ⟨a, vs, e, q, w⟩ => by
    subst e
    exact .lst (.of (fz _ _ q)) (VDs.dp fz ds vs (by rw [D.pure] at p; exact p) w)
  | .loc _, _, p, _ => by simp [D.pure] at p
  | .fn _, _, p, _ => by simp [D.pure] at p
  | .scr _, _, p, _ => by simp [D.pure] at p
  | .rep _, _, p, _ => by simp [D.pure] at p
theorem VDs.dp (fz : ∀ a o, g.F a = some o → H a = some o) : ∀ (ds : List D) (vs : List V), D.pures ds = true → VDs S g ds vs → DpAll S.K H vs (toPs ds)
  | [], _, _, e => by cases e; exact .nil
  | d :: ds, _, p, ⟨v, vr, e, h1, h2⟩ => by
    subst e
    rw [D.pures, Bool.and_eq_true] at p
    exact .cons (VD.dp fz d v p.1 h1) (VDs.dp fz ds vr p.2 h2)
end
theorem VH.dp (r : Rel S g h H) (p : d.pure = true) (z : VH S g H d v) : Dp S.K H v (toP d) := by
  cases d with
  | lst ds =>
    obtain ⟨a, vs, e, q, w⟩ := z
    subst e
    exact .lst (.of q) (VDs.dp r.fz ds vs (by rw [D.pure] at p; exact p) w)
  | _ => exact VD.dp r.fz _ v p z
mutual
/-- data with boxes in it, looked through -/
theorem fullW_dp (r : Rel S g h H) (G1 : Nat → Option D) (hg : ∀ n c a, G1 n = some c → g.μ[n]? = some a → Dp S.K H (.ref a) (toP c)) : ∀ (d : D) (v : V) (x : D), D.fullW G1 d = some x → VD S g d v → Dp S.K H v (toP x)
  | .non, _, _, q, e => by cases e; cases q; exact .non
  | .bl b, _, _, q, e => by cases e; cases q; exact .bl b
  | .int i, _, _, q, e => by cases e; cases q; exact .int i
  | .str s, _, _, q, e => by obtain ⟨e, _⟩ := e; cases e; cases q; exact .str _
  | .tup ds, _, x, q, ⟨a, vs, e, w, z⟩ => by
    subst e
    rw [D.fullW] at q
    obtain ⟨ys, e1, e2⟩ := Option.map_eq_some_iff.mp q
    subst e2
    exact .tup (sqT_mono r.fz w) (fullWs_dp r G1 hg ds vs ys e1 z)
  | .lst ds, _, x, q, ⟨a, vs, e, w, z⟩ => by
    subst e
    rw [D.fullW] at q
    obtain ⟨ys, e1, e2⟩ := Option.map_eq_some_iff.mp q
    subst e2
    exact .lst (.of (r.fz _ _ w)) (fullWs_dp r G1 hg ds vs ys e1 z)
  | .loc n, _, x, q, ⟨a, e, w⟩ => by
    subst e
    rw [D.fullW] at q
    exact hg n x a q w
  | .fn _, _, _, q, _ => by simp [D.fullW] at q
  | .scr _, _, _, q, _ => by simp [D.fullW] at q
  | .rep _, _, _, q, _ => by simp [D.fullW] at q
theorem fullWs_dp (r : Rel S g h H) (G1 : Nat → Option D) (hg : ∀ n c a, G1 n = some c → g.μ[n]? = some a → Dp S.K H (.ref a) (toP c)) : ∀ (ds : List D) (vs : List V) (xs : List D), D.fullWs G1 ds = some xs → VDs S g ds vs → DpAll S.K H vs (toPs xs)
  | [], _, _, q, e => by cases e; cases q; exact .nil
  | d :: ds, _, xs, q, ⟨v, vr, e, h1, h2⟩ => by
    subst e
    rw [D.fullWs] at q
    cases q1 : D.fullW G1 d with
    | none => rw [q1] at q; simp at q
    | some y =>
      cases q2 : D.fullWs G1 ds with
      | none => rw [q1, q2] at q; simp at q
      | some ys =>
        rw [q1, q2] at q
        cases q
        exact .cons (fullW_dp r G1 hg d v y q1 h1) (fullWs_dp r G1 hg ds vr ys q2 h2)
end
theorem fullW_vh (r : Rel S g h H) (G1 : Nat → Option D) (hg : ∀ n c a, G1 n = some c → g.μ[n]? = some a → Dp S.K H (.ref a) (toP c)) {x : D} (q : D.fullW G1 d = some x) (z : VH S g H d v) : Dp S.K H v (toP x) := by
  cases d with
  | lst ds =>
    obtain ⟨a, vs, e, w, z⟩ := z
    subst e
    rw [D.fullW] at q
    obtain ⟨ys, e1, e2⟩ := Option.map_eq_some_iff.mp q
    subst e2
    exact .lst (.of w) (fullWs_dp r G1 hg ds vs ys e1 z)
  | _ => exact fullW_dp r G1 hg _ v x q z
theorem full_vh (r : Rel S g h H) : ∀ (k : Nat) {d : D} {v : V} {x : D}, Ev.full h k d = some x → VH S g H d v → Dp S.K H v (toP x)
  | 0, d, v, x, q, z => fullW_vh r _ (fun n c a e _ => by cases e) q z
  | k + 1, d, v, x, q, z => fullW_vh r _ (fun n c a e w => by
      cases q1 : h[n]? with
      | none => rw [q1] at e; cases e
      | some o =>
        rw [q1] at e
        cases o with
        | box b =>
          have k1 := r.ob n a _ w q1
          cases b with
          | lst ds =>
            obtain ⟨vs, e1, e2⟩ := k1
            exact full_vh r k e (v := .ref a) ⟨a, vs, rfl, e1, e2⟩
          | _ => exact False.elim k1
        | _ => cases e) q z

mutual
theorem eqv_p : ∀ (a b : D), a.pure = true → b.pure = true → D.eqv a b = PyData.eqv (toP a) (toP b)
  | .non, b, _, q => by cases b <;> first | rfl | simp [D.pure] at q
  | .bl x, b, _, q => by cases b <;> first | rfl | (simp [D.eqv, toP, PyData.eqv]; done) | simp [D.pure] at q
  | .int x, b, _, q => by cases b <;> first | rfl | (simp [D.eqv, toP, PyData.eqv]; done) | simp [D.pure] at q
  | .str x, b, _, q => by
    cases b with
    | str y =>
      simp only [D.eqv, toP, PyData.eqv]
      by_cases w : x = y
      · subst w; simp
      · have : tx x ≠ tx y := fun z => w (tx_inj z)
        simp [w, this]
    | _ => first | rfl | simp [D.pure] at q
  | .tup x, b, p, q => by
    cases b with
    | tup y =>
      rw [D.pure] at p q
      simp only [D.eqv, toP, PyData.eqv]
      exact eqvs_p x y p q
    | _ => first | rfl | simp [D.pure] at q
  | .lst x, b, p, q => by
    cases b with
    | lst y =>
      rw [D.pure] at p q
      simp only [D.eqv, toP, PyData.eqv]
      exact eqvs_p x y p q
    | _ => first | rfl | simp [D.pure] at q
  | .loc _, b, p, _ => by simp [D.pure] at p
  | .fn _, b, p, _ => by simp [D.pure] at p
  | .scr _, b, p, _ => by simp [D.pure] at p
  | .rep _, b, p, _ => by simp [D.pure] at p
theorem eqvs_p : ∀ (a b : List D), D.pures a = true → D.pures b = true → D.eqvs a b = PyData.eqvAll (toPs a) (toPs b)
  | [], b, _, _ => by cases b <;> rfl
  | x :: xs, b, p, q => by
    cases b with
    | nil => rfl
    | cons y ys =>
      rw [D.pures, Bool.and_eq_true] at p q
      simp only [D.eqvs, toPs, PyData.eqvAll]
      rw [eqv_p x y p.1 q.1, eqvs_p xs ys p.2 q.2]
end
mutual
/-- what is looked through is pure -/
theorem fullW_pure (G1 : Nat → Option D) (hg : ∀ n c, G1 n = some c → c.pure = true) : ∀ (d x : D), D.fullW G1 d = some x → x.pure = true
  | .non, _, q => by cases q; rfl
  | .bl b, _, q => by cases q; rfl
  | .int i, _, q => by cases q; rfl
  | .str s, _, q => by cases q; rfl
  | .tup ds, x, q => by
    rw [D.fullW] at q
    obtain ⟨ys, e1, e2⟩ := Option.map_eq_some_iff.mp q
    subst e2
    rw [D.pure]
    exact fullWs_pure G1 hg ds ys e1
  | .lst ds, x, q => by
    rw [D.fullW] at q
    obtain ⟨ys, e1, e2⟩ := Option.map_eq_some_iff.mp q
    subst e2
    rw [D.pure]
    exact fullWs_pure G1 hg ds ys e1
  | .loc n, x, q => hg n x (by rw [D.fullW] at q; exact q)
  | .fn _, _, q => by simp [D.fullW] at q
  | .scr _, _, q => by simp [D.fullW] at q
  | .rep _, _, q => by simp [D.fullW] at q
theorem fullWs_pure (G1 : Nat → Option D) (hg : ∀ n c, G1 n = some c → c.pure = true) : ∀ (ds xs : List D), D.fullWs G1 ds = some xs → D.pures xs = true
  | [], _, q => by cases q; rfl
  | d :: ds, xs, q => by
    rw [D.fullWs] at q
    cases q1 : D.fullW G1 d with
    | none => rw [q1] at q; simp at q
    | some y =>
      cases q2 : D.fullWs G1 ds with
      | none => rw [q1, q2] at q; simp at q
      | some ys =>
        rw [q1, q2] at q
        cases q
        rw [D.pures, fullW_pure G1 hg d y q1, fullWs_pure G1 hg ds ys q2]
        rfl
end
theorem full_pure : ∀ (k : Nat) {d x : D}, Ev.full h k d = some x → x.pure = true
  | 0, d, x, q => fullW_pure _ (fun n c e => by cases e) d x q
  | k + 1, d, x, q => fullW_pure _ (fun n c e => by
      split at e
      · exact full_pure k e
      · cases e) d x q
mutual
theorem dep_p : ∀ (d : D), d.pure = true → PyData.depth (toP d) ≤ d.dep
  | .non, _ => by simp [toP, PyData.depth]
  | .bl _, _ => by simp [toP, PyData.depth]
  | .int _, _ => by simp [toP, PyData.depth]
  | .str _, _ => by simp [toP, PyData.depth]
  | .tup xs, p => by
    rw [D.pure] at p
    simp only [toP, PyData.depth, D.dep]
    have := deps_p xs p
    omega
  | .lst xs, p => by
    rw [D.pure] at p
    simp only [toP, PyData.depth, D.dep]
    have := deps_p xs p
    omega
  | .loc _, p => by simp [D.pure] at p
  | .fn _, p => by simp [D.pure] at p
  | .scr _, p => by simp [D.pure] at p
  | .rep _, p => by simp [D.pure] at p
theorem deps_p : ∀ (ds : List D), D.pures ds = true → PyData.depthAll (toPs ds) ≤ D.deps ds
  | [], _ => by simp [toPs, PyData.depthAll]
  | x :: xs, p => by
    rw [D.pures, Bool.and_eq_true] at p
    simp only [toPs, PyData.depthAll, D.deps]
    have h1 := dep_p x p.1
    have h2 := deps_p xs p.2
    omega
end
mutual
/-- all texts in it are fit -/
def okT : D → Prop
  | .str s => OkS s
  | .tup xs => okTs xs
  | .lst xs => okTs xs
  | _ => True
def okTs : List D → Prop
  | [] => True
  | x :: xs => okT x ∧ okTs xs
end
mutual
theorem VD.okT : ∀ (d : D) (v : V), VD S g d v → So.okT d
  | .non, _, _ => trivial
  | .bl _, _, _ => trivial
  | .int _, _, _ => trivial
  | .str s, _, h => h.2
  | .tup ds, _, ⟨_, vs, _, _, r⟩ => VDs.okT ds vs r
  | .lst ds, _, ⟨_, vs, _, _, r⟩ => VDs.okT ds vs r
  | .scr ds, _, _ => trivial
  | .loc n, _, _ => trivial
  | .fn _, _, _ => trivial
  | .rep _, _, _ => trivial
theorem VDs.okT : ∀ (ds : List D) (vs : List V), VDs S g ds vs → So.okTs ds
  | [], _, _ => trivial
  | d :: ds, _, ⟨v, vr, _, h1, h2⟩ => ⟨VD.okT d v h1, VDs.okT ds vr h2⟩
end
theorem VH.okT (z : VH S g H d v) : So.okT d := by
  cases d with
  | lst ds => obtain ⟨a, vs, _, _, w⟩ := z; exact VDs.okT ds vs w
  | _ => exact VD.okT (S := S) (g := g) _ v z
mutual
theorem fullW_okT (r : Rel S g h H) (G1 : Nat → Option D) (hg : ∀ n c, G1 n = some c → So.okT c) : ∀ (d x : D), D.fullW G1 d = some x → So.okT d → So.okT x
  | .non, _, q, _ => by cases q; trivial
  | .bl b, _, q, _ => by cases q; trivial
  | .int i, _, q, _ => by cases q; trivial
  | .str s, _, q, h => by cases q; exact h
  | .tup ds, x, q, h => by
    rw [D.fullW] at q
    obtain ⟨ys, e1, e2⟩ := Option.map_eq_some_iff.mp q
    subst e2
    exact fullWs_okT r G1 hg ds ys e1 h
  | .lst ds, x, q, h => by
    rw [D.fullW] at q
    obtain ⟨ys, e1, e2⟩ := Option.map_eq_some_iff.mp q
    subst e2
    exact fullWs_okT r G1 hg ds ys e1 h
  | .loc n, x, q, _ => hg n x (by rw [D.fullW] at q; exact q)
  | .fn _, _, q, _ => by simp [D.fullW] at q
  | .scr _, _, q, _ => by simp [D.fullW] at q
  | .rep _, _, q, _ => by simp [D.fullW] at q
theorem fullWs_okT (r : Rel S g h H) (G1 : Nat → Option D) (hg : ∀ n c, G1 n = some c → So.okT c) : ∀ (ds xs : List D), D.fullWs G1 ds = some xs → So.okTs ds → So.okTs xs
  | [], _, q, _ => by cases q; trivial
  | d :: ds, xs, q, h => by
    rw [D.fullWs] at q
    cases q1 : D.fullW G1 d with
    | none => rw [q1] at q; simp at q
    | some y =>
      cases q2 : D.fullWs G1 ds with
      | none => rw [q1, q2] at q; simp at q
      | some ys =>
        rw [q1, q2] at q
        cases q
        exact ⟨fullW_okT r G1 hg d y q1 h.1, fullWs_okT r G1 hg ds ys q2 h.2⟩
end
theorem full_okT (r : Rel S g h H) : ∀ (k : Nat) {d x : D}, Ev.full h k d = some x → So.okT d → So.okT x
  | 0, d, x, q, z => fullW_okT r _ (fun n c e => by cases e) d x q z
  | k + 1, d, x, q, z => fullW_okT r _ (fun n c e => by
      split at e
      · rename_i b q1
        have hn : n < h.length := (List.getElem?_eq_some_iff.mp q1).1
        have ea : g.μ[n]? = some (g.μ[n]'(by rw [r.len]; exact hn)) := List.getElem?_eq_getElem _
        have k1 := r.ob n _ _ ea q1
        cases b with
        | lst ds =>
          obtain ⟨vs, e1, e2⟩ := k1
          exact full_okT r k e (VDs.okT ds vs e2)
        | _ => exact False.elim k1
      · cases e) d x q z
mutual
theorem lay_p : ∀ (d : D), d.pure = true → So.okT d → PyData.canLay0 (toP d) = true
  | .non, _, _ => by simp [toP, PyData.canLay0]
  | .bl _, _, _ => by simp [toP, PyData.canLay0]
  | .int _, _, _ => by simp [toP, PyData.canLay0]
  | .str _, _, h => by simp only [toP, PyData.canLay0]; exact OkS.ok h
  | .tup xs, p, h => by
    rw [D.pure] at p
    simp only [toP, PyData.canLay0]
    exact lays_p xs p h
  | .lst xs, p, h => by
    rw [D.pure] at p
    simp only [toP, PyData.canLay0]
    exact lays_p xs p h
  | .loc _, p, _ => by simp [D.pure] at p
  | .fn _, p, _ => by simp [D.pure] at p
  | .scr _, p, _ => by simp [D.pure] at p
  | .rep _, p, _ => by simp [D.pure] at p
theorem lays_p : ∀ (ds : List D), D.pures ds = true → So.okTs ds → PyData.canLayAll0 (toPs ds) = true
  | [], _, _ => by simp [toPs, PyData.canLayAll0]
  | x :: xs, p, h => by
    rw [D.pures, Bool.and_eq_true] at p
    simp only [toPs, PyData.canLayAll0]
    rw [lay_p x p.1 h.1, lays_p xs p.2 h.2]
    rfl
end
theorem shaped_p (p : d.pure = true) (w : So.okT d) (q : d.dep ≤ 64) : SeqAt.shaped (toP d) = true := by
  unfold SeqAt.shaped
  rw [lay_p d p w, Bool.true_and]
  exact decide_eq_true (Nat.le_trans (dep_p d p) q)
end
end So
end
section
set_option Elab.async false
set_option autoImplicit false
set_option linter.all false
/-! S3: operators by values. -/
namespace So
open PySem PySem.Spec PyProof.Rows L2
open Ev (D Ob Mem Fr R RS RL RB Bop Cop)

def bo : Bop → Operator
  | .add => .Add | .sub => .Sub | .mul => .Mult | .fdiv => .FloorDiv | .mod => .Mod | .pow => .Pow
def co : Cop → CmpOp
  | .lt => .Lt | .le => .LtE | .gt => .Gt | .ge => .GtE | .eq => .Eq | .ne => .NotEq | .is_ => .Is | .isnot => .IsNot | .in_ => .In | .notin => .NotIn

section
variable {S : Sx} {g g' : G} {h h' : Mem} {H H' : L2.Hp} {a p : Addr} {d e : D} {ds : List D} {v x y : V} {vs : List V} {n : Nat} {X : Cx}
theorem tx_app (a b : List Nat) : tx a ++ tx b = tx (a ++ b) := by
  rw [← tx_of (tx a ++ tx b)]
  congr 1
  show ((tx a).cps ++ (tx b).cps).toList = a ++ b
  simp [tx]
theorem OkS.app {a b : List Nat} (x : OkS a) (y : OkS b) : OkS (a ++ b) := fun c hc => (List.mem_append.mp hc).elim (x c) (y c)
theorem lim_of {k : Nat} (h : k ≤ Ev.LIM) : k ≤ sizeLine := Nat.le_trans h lim_line

def rBop (S : Sx) (o : Bop) : R2 := fun x y H Q => ∃ g h d e z, Rel S g h H ∧ VH S g H d x ∧ VH S g H e y ∧ Ev.binop o d e = some z ∧ ∀ v g' H', Step g h H g' h H' → Rel S g' h H' → VD S g' z v → Q v H'
theorem op_bop (hK : X.K = S.K) (o : Bop) : OpR X (binaryOp (bo o)) (rBop S o) := by
  intro pins s σ H x y v u Q I rx ry hq
  obtain ⟨g, h, d, e, z, R, vd, ve, hz, k⟩ := hq
  unfold Ev.binop at hz
  split at hz
  · cases vd; cases ve; cases hz
    exact op_add pins s σ H _ _ v u Q I rx ry ⟨_, _, rfl, rfl, k _ g H (Step.refl R) R rfl⟩
  · split at hz
    · rename_i hl
      obtain ⟨vd, o1⟩ := vd
      obtain ⟨ve, o2⟩ := ve
      cases vd; cases ve; cases hz
      refine op_add_str pins s σ H _ _ v u Q I rx ry ⟨_, _, rfl, rfl, by simpa using lim_of hl, ?_⟩
      rw [tx_app]
      exact k _ g H (Step.refl R) R ⟨rfl, o1.app o2⟩
    · cases hz
  · split at hz
    · rename_i ta tb hl
      obtain ⟨a, vs, e1, q1, w1⟩ := id vd
      obtain ⟨b, ws, e2, q2, w2⟩ := id ve
      subst e1; subst e2
      cases hz
      have l1 := VDs.length w1
      have l2 := VDs.length w2
      refine op_catA pins s σ H _ _ v u Q I rx ry ⟨a, b, vs, ws, rfl, rfl, by rw [hK]; exact sqT_mono R.fz q1, by rw [hK]; exact sqT_mono R.fz q2, by rw [← l1, ← l2]; exact lim_of hl, fun q => ?_, fun _ q => ?_, fun _ _ p hp => ?_⟩
      · subst q
        have : ta = [] := List.length_eq_zero_iff.mp (by simpa using l1)
        subst this
        exact k _ g H (Step.refl R) R ve
      · subst q
        have : tb = [] := List.length_eq_zero_iff.mp (by simpa using l2)
        subst this
        rw [List.append_nil] at k
        exact k _ g H (Step.refl R) R vd
      · obtain ⟨g', r', st, vd'⟩ := new_tup R hp (w1.append w2)
        exact k _ g' _ st r' vd'
    · cases hz
  · split at hz
    · rename_i ta tb hl
      obtain ⟨a, vs, e1, q1, w1⟩ := id vd
      obtain ⟨b, ws, e2, q2, w2⟩ := id ve
      subst e1; subst e2
      cases hz
      refine op_cat pins s σ H _ _ v u Q I rx ry ⟨a, b, vs, ws, rfl, rfl, q1, q2, by rw [← VDs.length w1, ← VDs.length w2]; exact lim_of hl, fun p hp => ?_⟩
      obtain ⟨g', r', st, vd'⟩ := new_lst R hp (w1.append w2)
      exact k _ g' _ st r' vd'
    · cases hz
  · cases vd; cases ve; cases hz
    exact op_sub pins s σ H _ _ v u Q I rx ry ⟨_, _, rfl, rfl, k _ g H (Step.refl R) R rfl⟩
  · split at hz
    · rename_i hl
      cases vd; cases ve; cases hz
      exact op_mul pins s σ H _ _ v u Q I rx ry ⟨_, _, rfl, rfl, hl, k _ g H (Step.refl R) R rfl⟩
    · cases hz
  · split at hz
    · rename_i hl
      cases vd; cases ve; cases hz
      exact op_fdiv pins s σ H _ _ v u Q I rx ry ⟨_, _, rfl, rfl, hl, k _ g H (Step.refl R) R rfl⟩
    · cases hz
  · split at hz
    · rename_i hl
      cases vd; cases ve; cases hz
      exact op_mod pins s σ H _ _ v u Q I rx ry ⟨_, _, rfl, rfl, hl, k _ g H (Step.refl R) R rfl⟩
    · cases hz
  · split at hz
    · rename_i hl
      cases vd; cases ve; cases hz
      exact op_pow pins s σ H _ _ v u Q I rx ry ⟨_, _, rfl, rfl, ⟨hl.1, by have := hl.2.1; omega, hl.2.2⟩, k _ g H (Step.refl R) R rfl⟩
    · cases hz
  · cases hz

/-! ### comparisons -/
theorem lexNat_lt : ∀ (a b : List Nat), Ev.lexNat a b = decide (a < b)
  | [], [] => by simp [Ev.lexNat]
  | [], y :: ys => by simp [Ev.lexNat]
  | x :: xs, [] => by simp [Ev.lexNat]
  | x :: xs, y :: ys => by
    rw [Ev.lexNat]
    by_cases q : x = y
    · subst q
      rw [if_pos rfl, lexNat_lt xs ys]
      congr 1
      simp [List.cons_lt_cons_iff]
    · rw [if_neg q]
      congr 1
      simp [List.cons_lt_cons_iff, q]
theorem op_inT (hu : X.A.units + 65 < cLine) (neg : Bool) : OpR X (compareOp (if neg then .NotIn else .In)) (fun x y H Q => ∃ d ds, Dp X.K H x d ∧ Dp X.K H y (.tuple ds) ∧ SeqAt.shaped d = true ∧ SeqAt.shaped (.tuple ds) = true ∧
    Q (.bl (if neg then !(ds.any fun z => PyData.eqv z d) else ds.any fun z => PyData.eqv z d)) H) := by
  intro pins s σ H x y v u Q I rx ry hq
  obtain ⟨d, ds, hd, he, sd, se, q⟩ := hq
  obtain ⟨as, r1⟩ := Dp.reads I d x v hd rx
  obtain ⟨bs, r2⟩ := Dp.reads I (.tuple ds) y u he ry
  cases neg with
  | false => exact SeqAt.in_tuple_reads r2 r1 (SeqAt.canLay_of_shaped se) (SeqAt.canLay_of_shaped sd) (room_in_shaped sd hu) ⟨.bl _, H, I, rfl, q⟩
  | true => exact SeqAt.notIn_tuple_reads r2 r1 (SeqAt.canLay_of_shaped se) (SeqAt.canLay_of_shaped sd) (room_in_shaped sd hu) ⟨.bl _, H, I, rfl, q⟩
theorem any_p {a : D} (pa : a.pure = true) : ∀ (ds : List D), D.pures ds = true → (ds.any fun z => z.eqv a) = ((toPs ds).any fun z => PyData.eqv z (toP a))
  | [], _ => rfl
  | x :: xs, p => by
    rw [D.pures, Bool.and_eq_true] at p
    simp only [List.any_cons, toPs]
    rw [eqv_p x a p.1 pa, any_p pa xs p.2]
theorem VH.notNone (p : d.pure = true) (ne : d ≠ .non) (z : VH S g H d v) : decide (v = V.non) = false := by
  cases d with
  | non => exact absurd rfl ne
  | bl b => cases z; rfl
  | int i => cases z; rfl
  | str s => obtain ⟨z, _⟩ := z; cases z; rfl
  | tup ds => obtain ⟨a, vs, e, _⟩ := z; cases e; rfl
  | lst ds => obtain ⟨a, vs, e, _⟩ := z; cases e; rfl
  | loc n => simp [D.pure] at p
  | fn n => simp [D.pure] at p
  | scr n => simp [D.pure] at p
  | rep n => simp [D.pure] at p
def rCop (S : Sx) (o : Cop) : R2 := fun x y H Q => ∃ g h d e b, Rel S g h H ∧ VD S g d x ∧ VD S g e y ∧ Ev.cmpop h o d e = some b ∧ Q (.bl b) H
theorem op_cop (hK : X.K = S.K) (hu : X.A.units + 65 < cLine) (o : Cop) : OpR X (compareOp (co o)) (rCop S o) := by
  intro pins s σ H x y v u Q I rx ry hq
  obtain ⟨g, h, d, e, b, R, vd, ve, hz, k⟩ := hq
  have eqn : ∀ (x1 y1 : D), Ev.full h 3 d = some x1 → Ev.full h 3 e = some y1 → (x1.dep ≤ 64 ∧ y1.dep ≤ 64) →
      Dp X.K H x (toP x1) ∧ Dp X.K H y (toP y1) ∧ SeqAt.shaped (toP x1) = true ∧ SeqAt.shaped (toP y1) = true ∧ PyData.eqv (toP x1) (toP y1) = x1.eqv y1 := fun x1 y1 q1 q2 hl => by
    have p1 := full_pure 3 q1
    have p2 := full_pure 3 q2
    rw [hK]
    exact ⟨full_vh R 3 q1 (VD.vh R vd), full_vh R 3 q2 (VD.vh R ve), shaped_p p1 (full_okT R 3 q1 (VD.okT _ _ vd)) hl.1, shaped_p p2 (full_okT R 3 q2 (VD.okT _ _ ve)) hl.2, (eqv_p x1 y1 p1 p2).symm⟩
  have inn : ∀ (neg : Bool) (ds : List D), (Ev.shal h e = .tup ds ∨ Ev.shal h e = .lst ds) → (d.pure && D.pures ds && decide (d.dep ≤ 60) && decide (D.deps ds ≤ 60)) = true →
      Q (.bl (if neg then !(ds.any fun z => z.eqv d) else ds.any fun z => z.eqv d)) H → wpAny (model X.prog X.w) X.A (compareOp (if neg then .NotIn else .In) v u) (EP X pins σ Q) X.xe s := fun neg ds q1 q2 k => by
    simp only [Bool.and_eq_true, decide_eq_true_eq] at q2
    obtain ⟨⟨⟨p1, p2⟩, l1⟩, l2⟩ := q2
    have ve' := shal_vh R ve
    have sd := shaped_p p1 (VD.okT d x vd) (by omega)
    rw [any_p p1 ds p2] at k
    rcases q1 with q1 | q1
    · rw [q1] at ve'
      have dp := VH.dp (d := .tup ds) R (by rw [D.pure]; exact p2) ve'
      exact op_inT hu neg pins s σ H x y v u Q I rx ry ⟨toP d, toPs ds, by rw [hK]; exact VD.dp R.fz d x p1 vd, by rw [hK]; exact dp, sd,
        shaped_p (d := .tup ds) (by rw [D.pure]; exact p2) (VH.okT ve') (by rw [D.dep]; omega), k⟩
    · rw [q1] at ve'
      have dp := VH.dp (d := .lst ds) R (by rw [D.pure]; exact p2) ve'
      have hh : ∃ d1 ds1, Dp X.K H x d1 ∧ Dp X.K H y (.list ds1) ∧ SeqAt.shaped d1 = true ∧ SeqAt.shaped (.list ds1) = true ∧ Q (.bl (if neg then !(ds1.any fun z => PyData.eqv z d1) else ds1.any fun z => PyData.eqv z d1)) H :=
        ⟨toP d, toPs ds, by rw [hK]; exact VD.dp R.fz d x p1 vd, by rw [hK]; exact dp, sd,
          shaped_p (d := .lst ds) (by rw [D.pure]; exact p2) (VH.okT ve') (by rw [D.dep]; omega), k⟩
      cases neg with
      | false => exact op_inD hu pins s σ H x y v u Q I rx ry hh
      | true => exact op_notInD hu pins s σ H x y v u Q I rx ry hh
  unfold Ev.cmpop at hz
  split at hz
  · cases vd; cases ve; cases hz; exact op_lt pins s σ H _ _ v u Q I rx ry ⟨_, _, rfl, rfl, k⟩
  · cases vd; cases ve; cases hz; exact op_le pins s σ H _ _ v u Q I rx ry ⟨_, _, rfl, rfl, k⟩
  · cases vd; cases ve; cases hz; exact op_gt pins s σ H _ _ v u Q I rx ry ⟨_, _, rfl, rfl, k⟩
  · cases vd; cases ve; cases hz; exact op_ge pins s σ H _ _ v u Q I rx ry ⟨_, _, rfl, rfl, k⟩
  · obtain ⟨vd, o1⟩ := vd
    obtain ⟨ve, o2⟩ := ve
    cases vd; cases ve; cases hz
    refine op_lt_str pins s σ H _ _ v u Q I rx ry ⟨_, _, rfl, rfl, ?_⟩
    rw [lexNat_lt] at k
    simpa using k
  · split at hz
    · rename_i hb
      cases hz
      have := beq_eq _ _ hb
      subst this
      cases vd; cases ve
      exact op_eq pins s σ H _ _ v u Q I rx ry ⟨rfl, by simpa using k⟩
    · cases hz
  · split at hz
    · rename_i hb
      cases hz
      have := beq_eq _ _ hb
      subst this
      cases vd; cases ve
      exact op_ne pins s σ H _ _ v u Q I rx ry ⟨rfl, by simpa using k⟩
    · cases hz
  · split at hz
    · rename_i x1 y1 q1 q2
      split at hz
      · rename_i hl
        cases hz
        obtain ⟨a1, a2, a3, a4, a5⟩ := eqn x1 y1 q1 q2 hl
        exact op_eqD (by omega) pins s σ H x y v u Q I rx ry ⟨_, _, a1, a2, a3, a4, by rw [a5]; exact k⟩
      · cases hz
    · cases hz
  · split at hz
    · rename_i x1 y1 q1 q2
      split at hz
      · rename_i hl
        cases hz
        obtain ⟨a1, a2, a3, a4, a5⟩ := eqn x1 y1 q1 q2 hl
        exact op_neD (by omega) pins s σ H x y v u Q I rx ry ⟨_, _, a1, a2, a3, a4, by rw [a5]; exact k⟩
      · cases hz
    · cases hz
  · cases vd; cases ve; cases hz; exact op_isN pins s σ H _ _ v u Q I rx ry ⟨rfl, k⟩
  · obtain ⟨a, e1, _⟩ := vd
    subst e1
    cases ve; cases hz; exact op_isN pins s σ H _ _ v u Q I rx ry ⟨rfl, k⟩
  · split at hz
    · rename_i n1 n2 hp
      cases ve; cases hz
      refine op_isN pins s σ H _ _ v u Q I rx ry ⟨rfl, ?_⟩
      rw [VH.notNone hp (fun z => n1 z) (VD.vh R vd)]
      exact k
    · cases hz
  · cases vd; cases ve; cases hz; exact op_notN pins s σ H _ _ v u Q I rx ry ⟨rfl, k⟩
  · obtain ⟨a, e1, _⟩ := vd
    subst e1
    cases ve; cases hz; exact op_notN pins s σ H _ _ v u Q I rx ry ⟨rfl, k⟩
  · split at hz
    · rename_i n1 n2 hp
      cases ve; cases hz
      refine op_notN pins s σ H _ _ v u Q I rx ry ⟨rfl, ?_⟩
      rw [VH.notNone hp (fun z => n1 z) (VD.vh R vd)]
      exact k
    · cases hz
  · split at hz
    · obtain ⟨vd, o1⟩ := vd
      obtain ⟨ve, o2⟩ := ve
      cases vd; cases ve; cases hz
      exact op_in_sign pins s σ H _ _ v u Q I rx ry ⟨_, _, rfl, rfl, by simpa using k⟩
    · cases hz
  · split at hz
    · obtain ⟨vd, o1⟩ := vd
      obtain ⟨ve, o2⟩ := ve
      cases vd; cases ve; cases hz
      exact op_notIn_sign pins s σ H _ _ v u Q I rx ry ⟨_, _, rfl, rfl, by simpa using k⟩
    · cases hz
  · split at hz
    · rename_i ds q
      split at hz
      · rename_i hl
        cases hz
        exact inn false ds (.inl q) hl k
      · cases hz
    · rename_i ds q
      split at hz
      · rename_i hl
        cases hz
        exact inn false ds (.inr q) hl k
      · cases hz
    · cases hz
  · split at hz
    · rename_i ds q
      split at hz
      · rename_i hl
        cases hz
        exact inn true ds (.inl q) hl k
      · cases hz
    · rename_i ds q
      split at hz
      · rename_i hl
        cases hz
        exact inn true ds (.inr q) hl k
      · cases hz
    · cases hz
  · cases hz
end
end So
end
section
set_option Elab.async false
set_option autoImplicit false
set_option linter.all false
/-! S4: subscripts, slices, built-in functions. -/
namespace So
open PySem PySem.Spec PyProof.Rows L2
open Ev (D Ob Mem Fr R RS RL RB Bop Cop Bi)

section
variable {S : Sx} {g g' : G} {h h' : Mem} {H H' : L2.Hp} {a p : Addr} {d e : D} {ds : List D} {v x y : V} {vs : List V} {n : Nat} {X : Cx}

theorem atI_eq {α : Type} (xs : List α) (i : Int) : Ev.atI xs i = L2.atI xs i := rfl
theorem sIx_eq (n k : Nat) (o : Option Int) : Ev.sIx n k o = HT.sIx n k o := by
  cases o with
  | none => rfl
  | some i =>
    show (if 0 ≤ i then min i.toNat n else (i + n).toNat) = (if i < 0 then (i + n).toNat else min i.toNat n)
    by_cases q : 0 ≤ i
    · rw [if_pos q, if_neg (by omega)]
    · rw [if_neg q, if_pos (by omega)]
theorem VDs.atI {i : Int} (w : VDs S g ds vs) (q : Ev.atI ds i = some d) : ∃ v, L2.atI vs i = some v ∧ VD S g d v := by
  unfold Ev.atI at q
  unfold L2.atI
  rw [← VDs.length w]
  have e1 : Ev.ixN ds.length i = L2.ixN ds.length i := rfl
  rw [e1] at q
  cases k : L2.ixN ds.length i with
  | none => rw [k] at q; cases q
  | some j =>
    rw [k] at q
    exact VDs.get w q
theorem VDs.cut {lo hi : Option Int} (w : VDs S g ds vs) : VDs S g (Ev.cut ds lo hi) (cutV vs lo hi) := by
  unfold Ev.cut cutV
  rw [sIx_eq, sIx_eq, VDs.length w]
  exact VDs.take _ (VDs.drop _ w)

def rItem (S : Sx) : R2 := fun x y H Q => ∃ g h d e z, Rel S g h H ∧ VH S g H d x ∧ VD S g e y ∧ Ev.item d e = some z ∧ ∀ v, VD S g z v → Q v H
theorem ix_all (hK : X.K = S.K) : IxR X (rItem S) := by
  intro value slice pins s σ H x y v u Q I rx ry hq hs
  obtain ⟨g, h, d, e, z, R, vd, ve, hz, k⟩ := hq
  unfold Ev.item at hz
  split at hz
  · obtain ⟨a, vs, e1, q1, w1⟩ := vd
    cases ve
    obtain ⟨w, e2, e3⟩ := VDs.atI w1 hz
    exact ix_tup value slice pins s σ H _ _ v u Q I rx ry ⟨a, vs, _, w, e1, rfl, by rw [hK]; exact sqT_mono R.fz q1, e2, k w e3⟩ hs
  · obtain ⟨a, vs, e1, q1, w1⟩ := vd
    cases ve
    obtain ⟨w, e2, e3⟩ := VDs.atI w1 hz
    exact ix_list value slice pins s σ H _ _ v u Q I rx ry ⟨a, vs, _, w, e1, rfl, .of q1, e2, k w e3⟩ hs
  · split at hz
    · rename_i t i hl
      obtain ⟨vd, o1⟩ := vd
      cases ve
      subst vd
      obtain ⟨c, e1, e2⟩ := Option.map_eq_some_iff.mp hz
      subst e2
      refine ix_str value slice pins s σ H _ _ v u Q I rx ry ⟨tx t, i, c, rfl, rfl, by simpa using lim_of hl, by rw [tx_list]; exact e1, k _ ⟨rfl, fun c' hc => ?_⟩⟩ hs
      simp at hc
      subst hc
      unfold Ev.atI at e1
      obtain ⟨j, _, e3⟩ := Option.bind_eq_some_iff.mp e1
      exact o1 _ (List.mem_of_getElem? e3)
    · cases hz
  · cases hz

def rSlc (S : Sx) : V → Option Int → Option Int → L2.Hp → VK → Prop := fun x lo hi H Q => ∃ g h d z, Rel S g h H ∧ VH S g H d x ∧ Ev.slice d lo hi = some z ∧ ∀ v g' H', Step g h H g' h H' → Rel S g' h H' → VD S g' z v → Q v H'
theorem OkS.sub {s t : List Nat} (o : OkS s) (q : ∀ c ∈ t, c ∈ s) : OkS t := fun c hc => o c (q c hc)
theorem sl_all (hK : X.K = S.K) : SlR X (rSlc S) := by
  intro pins s σ H x v vl vu lo hi sl Q I rx hs pl pu hq
  obtain ⟨g, h, d, z, R, vd, hz, k⟩ := hq
  unfold Ev.slice at hz
  split at hz
  · rename_i t
    cases hz
    obtain ⟨a, vs, e1, q1, w1⟩ := id vd
    subst e1
    refine sl_tupA pins s σ H _ v vl vu lo hi sl Q I rx hs pl pu ⟨a, vs, rfl, by rw [hK]; exact sqT_mono R.fz q1, fun hw => ?_, fun _ p hp => ?_⟩
    · have : Ev.cut t lo hi = t := by
        unfold Ev.cut
        rw [sIx_eq, sIx_eq, VDs.length w1, hw.1, hw.2, ← VDs.length w1]
        simp
      rw [this] at k
      exact k _ g H (Step.refl R) R vd
    · obtain ⟨g', r', st, vd'⟩ := new_tup R hp (VDs.cut (lo := lo) (hi := hi) w1)
      exact k _ g' _ st r' vd'
  · rename_i t
    cases hz
    obtain ⟨a, vs, e1, q1, w1⟩ := id vd
    subst e1
    refine sl_list pins s σ H _ v vl vu lo hi sl Q I rx hs pl pu ⟨a, vs, rfl, .of q1, fun p hp => ?_⟩
    obtain ⟨g', r', st, vd'⟩ := new_lst R hp (VDs.cut (lo := lo) (hi := hi) w1)
    exact k _ g' _ st r' vd'
  · rename_i t
    cases hz
    obtain ⟨a, vs, e1, q1, w1⟩ := id vd
    subst e1
    refine sl_list pins s σ H _ v vl vu lo hi sl Q I rx hs pl pu ⟨a, vs, rfl, by rw [hK]; exact sqL_mono R.fz q1, fun p hp => ?_⟩
    obtain ⟨g', r', st, vd'⟩ := new_lst R hp (VDs.cut (lo := lo) (hi := hi) w1)
    exact k _ g' _ st r' vd'
  · split at hz
    · rename_i t hl
      cases hz
      obtain ⟨vd, o1⟩ := vd
      subst vd
      refine C8.sl_txt pins s σ H _ v vl vu lo hi sl Q I rx hs pl pu ⟨tx t, rfl, by simpa using lim_of hl, ?_⟩
      have e1 : Txt.slice (tx t) lo hi = tx (Ev.cut t lo hi) := by
        rw [← C8.cutS_slice]
        unfold cutS Ev.cut
        rw [sIx_eq, sIx_eq, tx_list, tx_len]
        rfl
      rw [e1]
      exact k _ g H (Step.refl R) R ⟨rfl, o1.sub fun c hc => List.mem_of_mem_drop (List.mem_of_mem_take hc)⟩
    · cases hz
  · cases hz

/-! ### built-in functions -/
theorem VDs.intsD : ∀ {ds : List D} {vs : List V} {l : List Int}, Ev.intsD ds = some l → VDs S g ds vs → vs = l.map V.int
  | [], _, l, q, w => by cases w; cases q; rfl
  | d :: ds, _, l, q, ⟨v, vr, e, h1, h2⟩ => by
    subst e
    cases d with
    | int i =>
      rw [Ev.intsD] at q
      obtain ⟨l', e1, e2⟩ := Option.map_eq_some_iff.mp q
      subst e2
      cases h1
      rw [VDs.intsD e1 h2]
      rfl
    | _ => simp [Ev.intsD] at q
theorem VDs.bools : ∀ {ds : List D} {vs : List V} {l : List Bool}, Ev.bools ds = some l → VDs S g ds vs → vs = l.map V.bl
  | [], _, l, q, w => by cases w; cases q; rfl
  | d :: ds, _, l, q, ⟨v, vr, e, h1, h2⟩ => by
    subst e
    cases d with
    | bl i =>
      rw [Ev.bools] at q
      obtain ⟨l', e1, e2⟩ := Option.map_eq_some_iff.mp q
      subst e2
      cases h1
      rw [VDs.bools e1 h2]
      rfl
    | _ => simp [Ev.bools] at q
theorem VDs.strsD : ∀ {ds : List D} {vs : List V} {l : List (List Nat)}, Ev.strsD ds = some l → VDs S g ds vs → vs = l.map (fun s => V.str (tx s)) ∧ ∀ s ∈ l, OkS s
  | [], _, l, q, w => by cases w; cases q; exact ⟨rfl, fun _ h => by simp at h⟩
  | d :: ds, _, l, q, ⟨v, vr, e, h1, h2⟩ => by
    subst e
    cases d with
    | str t =>
      rw [Ev.strsD] at q
      obtain ⟨l', e1, e2⟩ := Option.map_eq_some_iff.mp q
      subst e2
      obtain ⟨h1, o⟩ := h1
      cases h1
      obtain ⟨k1, k2⟩ := VDs.strsD e1 h2
      rw [k1]
      refine ⟨rfl, fun s hs => ?_⟩
      rcases List.mem_cons.mp hs with z | z
      · subst z; exact o
      · exact k2 s z
    | _ => simp [Ev.strsD] at q
theorem maxI_is : ∀ (l : List Int), l ≠ [] → Ev.maxI l ∈ l ∧ ∀ y ∈ l, y ≤ Ev.maxI l
  | [], h => absurd rfl h
  | [a], _ => ⟨by simp [Ev.maxI], fun y hy => by simp at hy; subst hy; simp [Ev.maxI]⟩
  | a :: b :: r, _ => by
    obtain ⟨h1, h2⟩ := maxI_is (b :: r) (by simp)
    rw [Ev.maxI.eq_3 _ _ (by simp)]
    refine ⟨?_, fun y hy => ?_⟩
    · by_cases q : a ≤ Ev.maxI (b :: r)
      · rw [Int.max_eq_right q]; exact List.mem_cons_of_mem _ h1
      · rw [Int.max_eq_left (by omega)]; exact List.mem_cons_self
    · rcases List.mem_cons.mp hy with z | z
      · subst z; exact Int.le_max_left ..
      · exact Int.le_trans (h2 y z) (Int.le_max_right ..)
theorem minI_is : ∀ (l : List Int), l ≠ [] → Ev.minI l ∈ l ∧ ∀ y ∈ l, Ev.minI l ≤ y
  | [], h => absurd rfl h
  | [a], _ => ⟨by simp [Ev.minI], fun y hy => by simp at hy; subst hy; simp [Ev.minI]⟩
  | a :: b :: r, _ => by
    obtain ⟨h1, h2⟩ := minI_is (b :: r) (by simp)
    rw [Ev.minI.eq_3 _ _ (by simp)]
    refine ⟨?_, fun y hy => ?_⟩
    · by_cases q : a ≤ Ev.minI (b :: r)
      · rw [Int.min_eq_left q]; exact List.mem_cons_self
      · rw [Int.min_eq_right (by omega)]; exact List.mem_cons_of_mem _ h1
    · rcases List.mem_cons.mp hy with z | z
      · subst z; exact Int.min_le_left ..
      · exact Int.le_trans (Int.min_le_right ..) (h2 y z)
theorem max_uniq {l : List Int} {m : Int} (h1 : m ∈ l) (h2 : ∀ y ∈ l, y ≤ m) : m = Ev.maxI l := by
  obtain ⟨k1, k2⟩ := maxI_is l (by intro z; subst z; simp at h1)
  have a1 := h2 _ k1
  have a2 := k2 _ h1
  omega
theorem min_uniq {l : List Int} {m : Int} (h1 : m ∈ l) (h2 : ∀ y ∈ l, m ≤ y) : m = Ev.minI l := by
  obtain ⟨k1, k2⟩ := minI_is l (by intro z; subst z; simp at h1)
  have a1 := h2 _ k1
  have a2 := k2 _ h1
  omega
theorem digits_tx (i : Int) : (toString i : Str) = tx (Ev.digits i) := by
  rw [← tx_of (toString i : Str)]
  congr 1
  exact signs_ofString (toString i)
theorem digits_ok (i : Int) : OkS (Ev.digits i) := fun c hc => by
  unfold Ev.digits at hc
  obtain ⟨ch, _, e⟩ := List.mem_map.mp hc
  subst e
  have := ch.valid
  simp only [UInt32.isValidChar, Nat.isValidChar] at this
  show ch.val.toNat < 1114112
  omega
theorem digits_len (i : Int) (h : i.natAbs.log2 < 1900) : (toString i : String).length ≤ 1901 := int_text_length_le (by decide) h

theorem shownAll_len : ∀ xs : List PyData, (PyData.shownAll xs).length = xs.length
  | [] => by simp [PyData.shownAll]
  | x :: xs => by simp [PyData.shownAll, shownAll_len xs]
mutual
theorem shown_wt : ∀ (d : D), d.pure = true → d.fine = true → So.okT d → (toP d).shown.length ≤ d.wt
  | .non, _, _, _ => by simp only [toP, PyData.shown, D.wt]; decide
  | .bl true, _, _, _ => by simp only [toP, PyData.shown, D.wt]; decide
  | .bl false, _, _, _ => by simp only [toP, PyData.shown, D.wt]; decide
  | .int i, _, f, _ => by
    rw [D.fine] at f
    simp only [toP, PyData.shown, D.wt]
    show (Str.ofString (toString i)).length ≤ _
    rw [PySem.ofString_length]
    have := int_text_length_le (a := i) (k := i.natAbs.log2 + 1) (by omega) (by omega)
    omega
  | .str s, _, _, o => by
    simp only [toP, PyData.shown, D.wt]
    have := StrLaws.reprText_len (tx s) (fun c hc => by
      rw [tx_list] at hc
      have := o c hc
      omega)
    rw [tx_len] at this
    omega
  | .tup xs, p, f, o => by
    rw [D.pure] at p
    rw [D.fine] at f
    simp only [toP, PyData.shown, D.wt]
    have h1 := tupleText_len_le (PyData.shownAll (toPs xs))
    have h2 := shows_wt xs p f o
    rw [shownAll_len] at h1
    omega
  | .lst xs, p, f, o => by
    rw [D.pure] at p
    rw [D.fine] at f
    simp only [toP, PyData.shown, D.wt]
    have h1 := listText_len_le (PyData.shownAll (toPs xs))
    have h2 := shows_wt xs p f o
    rw [shownAll_len] at h1
    omega
  | .loc _, p, _, _ => by simp [D.pure] at p
  | .fn _, p, _, _ => by simp [D.pure] at p
  | .scr _, p, _, _ => by simp [D.pure] at p
  | .rep _, p, _, _ => by simp [D.pure] at p
theorem shows_wt : ∀ (ds : List D), D.pures ds = true → D.fines ds = true → So.okTs ds → ((PyData.shownAll (toPs ds)).map (·.length)).sum + 2 * (toPs ds).length ≤ D.wts ds
  | [], _, _, _ => by simp [toPs, PyData.shownAll, D.wts]
  | x :: xs, p, f, o => by
    rw [D.pures, Bool.and_eq_true] at p
    rw [D.fines, Bool.and_eq_true] at f
    have h1 := shown_wt x p.1 f.1 o.1
    have h2 := shows_wt xs p.2 f.2 o.2
    simp only [toPs, PyData.shownAll, D.wts, List.map_cons, List.sum_cons, List.length_cons]
    omega
end
mutual
theorem showable_p : ∀ (d : D), d.pure = true → d.fine = true → PyData.showable (toP d) = true
  | .non, _, _ => by simp [toP, PyData.showable]
  | .bl _, _, _ => by simp [toP, PyData.showable]
  | .int i, _, f => by
    rw [D.fine] at f
    simp only [toP, PyData.showable]
    have := of_decide_eq_true f
    exact decide_eq_true (by omega)
  | .str s, _, _ => by simp [toP, PyData.showable]
  | .tup xs, p, f => by
    rw [D.pure] at p
    rw [D.fine] at f
    simp only [toP, PyData.showable]
    exact showables_p xs p f
  | .lst xs, p, f => by
    rw [D.pure] at p
    rw [D.fine] at f
    simp only [toP, PyData.showable]
    exact showables_p xs p f
  | .loc _, p, _ => by simp [D.pure] at p
  | .fn _, p, _ => by simp [D.pure] at p
  | .scr _, p, _ => by simp [D.pure] at p
  | .rep _, p, _ => by simp [D.pure] at p
theorem showables_p : ∀ (ds : List D), D.pures ds = true → D.fines ds = true → PyData.showableAll (toPs ds) = true
  | [], _, _ => by simp [toPs, PyData.showableAll]
  | x :: xs, p, f => by
    rw [D.pures, Bool.and_eq_true] at p
    rw [D.fines, Bool.and_eq_true] at f
    simp only [toPs, PyData.showableAll]
    rw [showable_p x p.1 f.1, showables_p xs p.2 f.2]
    rfl
end
mutual
theorem hasDict_p : ∀ (d : D), PyData.hasDict (toP d) = false
  | .non => by simp [toP, PyData.hasDict]
  | .bl _ => by simp [toP, PyData.hasDict]
  | .int i => by simp [toP, PyData.hasDict]
  | .str s => by simp [toP, PyData.hasDict]
  | .tup xs => by simp only [toP, PyData.hasDict]; exact hasDicts_p xs
  | .lst xs => by simp only [toP, PyData.hasDict]; exact hasDicts_p xs
  | .loc _ => by simp [toP, PyData.hasDict]
  | .fn _ => by simp [toP, PyData.hasDict]
  | .scr _ => by simp [toP, PyData.hasDict]
  | .rep _ => by simp [toP, PyData.hasDict]
theorem hasDicts_p : ∀ (ds : List D), PyData.hasDictAll (toPs ds) = false
  | [] => by simp [toPs, PyData.hasDictAll]
  | x :: xs => by
    simp only [toPs, PyData.hasDictAll]
    rw [hasDict_p x, hasDicts_p xs]
    rfl
end
theorem call_repr (hg : X.A.guards = some []) (hu : X.A.units + 70 < cLine) : CallR X (.builtin "repr") (fun xs H Q => ∃ a d, xs = [.ref a] ∧ Dp X.K H (.ref a) d ∧ d.showable = true ∧ d.hasDict = false ∧ d.depth ≤ 64 ∧ d.shown.length ≤ sizeLine ∧ Q (.str d.shown) H) := by
  intro pins s σ H xs us Q I r hq
  obtain ⟨a, d, rfl, dp, h1, h2, h3, h4, k⟩ := hq
  obtain ⟨u, rfl, ru⟩ := vals1 r
  cases ru
  obtain ⟨as, rd⟩ := Dp.reads I d _ _ dp rfl
  exact repr_of_reads' rd h1 (fun z => by rw [h2] at z; cases z) hg (by omega) (fun _ _ e => e) (fun h' t tk hk => ⟨.str d.shown, H, I.kept hk, ⟨_, rfl⟩, k⟩) h4
end
end So
end
section
set_option Elab.async false
set_option autoImplicit false
set_option linter.all false
/-! S5: calls of built-in functions and methods by values. -/
namespace So
open PySem PySem.Spec PyProof.Rows L2
open Ev (D Ob Mem Fr R RS RL RB Bop Cop Bi Mt)

section
variable {S : Sx} {g g' : G} {h h' : Mem} {H H' : L2.Hp} {a p : Addr} {d e : D} {ds : List D} {v x y : V} {vs : List V} {n : Nat} {X : Cx}

def rBi (S : Sx) (b : Bi) : List V → L2.Hp → VK → Prop := fun xs H Q => ∃ g h ds z, Rel S g h H ∧ VDs S g ds xs ∧ Ev.biF b ds h = some z ∧ ∀ v g' H', Step g h H g' h H' → Rel S g' h H' → VD S g' z v → Q v H'
theorem VDs.one_of {xs : List V} (w : VDs S g [d] xs) : ∃ v, xs = [v] ∧ VD S g d v := by
  obtain ⟨v, vr, e, h1, h2⟩ := w
  cases h2
  exact ⟨v, e, h1⟩
theorem VDs.two_of {xs : List V} (w : VDs S g [d, e] xs) : ∃ v u, xs = [v, u] ∧ VD S g d v ∧ VD S g e u := by
  obtain ⟨v, vr, e1, h1, u, ur, e2, h2, h3⟩ := w
  cases h3
  subst e2
  exact ⟨v, u, e1, h1, h2⟩
theorem cr_len (hK : X.K = S.K) : CallR X (.builtin "len") (rBi S .len) := by
  intro pins s σ H xs us Q I r hq
  obtain ⟨g, h, ds, z, R, w, hz, k⟩ := hq
  unfold Ev.biF at hz
  split at hz <;> rename_i hb <;> try (first | (cases hb; done) | (cases hz; done))
  rename_i d
  obtain ⟨v, rfl, vd⟩ := VDs.one_of w
  have vh := shal_vh R vd
  split at hz
  · rename_i t q1
    rw [q1] at vh
    obtain ⟨a, vs, e1, q2, w2⟩ := vh
    cases hz
    exact call_len_seq pins s σ H _ us Q I r ⟨a, vs, by rw [e1], .inr (by rw [hK]; exact sqT_mono R.fz q2), by rw [← VDs.length w2]; exact k _ g H (Step.refl R) R rfl⟩
  · rename_i t q1
    rw [q1] at vh
    obtain ⟨a, vs, e1, q2, w2⟩ := vh
    cases hz
    exact call_len_seq pins s σ H _ us Q I r ⟨a, vs, by rw [e1], .inl (.of q2), by rw [← VDs.length w2]; exact k _ g H (Step.refl R) R rfl⟩
  · rename_i t q1
    rw [q1] at vh
    split at hz
    · rename_i hl
      obtain ⟨vh, o1⟩ := vh
      cases hz
      exact call_len_str pins s σ H _ us Q I r ⟨tx t, by rw [vh], by simpa using lim_of hl, by rw [tx_len]; exact k _ g H (Step.refl R) R rfl⟩
    · cases hz
  · cases hz
theorem cr_abs : CallR X (.builtin "abs") (rBi S .abs) := by
  intro pins s σ H xs us Q I r hq
  obtain ⟨g, h, ds, z, R, w, hz, k⟩ := hq
  unfold Ev.biF at hz
  split at hz <;> rename_i hb <;> try (first | (cases hb; done) | (cases hz; done))
  rename_i i
  obtain ⟨v, rfl, vd⟩ := VDs.one_of w
  cases vd; cases hz
  exact call_abs pins s σ H _ us Q I r ⟨i, rfl, k _ g H (Step.refl R) R rfl⟩
theorem cr_int : CallR X (.type "int") (rBi S .int_) := by
  intro pins s σ H xs us Q I r hq
  obtain ⟨g, h, ds, z, R, w, hz, k⟩ := hq
  unfold Ev.biF at hz
  split at hz <;> rename_i hb <;> try (first | (cases hb; done) | (cases hz; done))
  · rename_i i
    obtain ⟨v, rfl, vd⟩ := VDs.one_of w
    cases vd; cases hz
    exact call_int1 pins s σ H _ us Q I r (.inl ⟨i, rfl, k _ g H (Step.refl R) R rfl⟩)
  · rename_i i
    obtain ⟨v, rfl, vd⟩ := VDs.one_of w
    cases vd; cases hz
    exact call_int1 pins s σ H _ us Q I r (.inr ⟨i, rfl, k _ g H (Step.refl R) R rfl⟩)
theorem cr_str : CallR X (.type "str") (rBi S .str_) := by
  intro pins s σ H xs us Q I r hq
  obtain ⟨g, h, ds, z, R, w, hz, k⟩ := hq
  unfold Ev.biF at hz
  split at hz <;> rename_i hb <;> try (first | (cases hb; done) | (cases hz; done))
  rename_i i
  obtain ⟨v, rfl, vd⟩ := VDs.one_of w
  cases vd
  split at hz
  · rename_i hl
    cases hz
    refine call_str_int pins s σ H _ us Q I r ⟨i, rfl, by omega, ?_⟩
    rw [digits_tx]
    exact k _ g H (Step.refl R) R ⟨rfl, digits_ok i⟩
  · cases hz
theorem cr_repr (hK : X.K = S.K) (hg : X.A.guards = some []) (hu : X.A.units + 70 < cLine) : CallR X (.builtin "repr") (rBi S .repr) := by
  intro pins s σ H xs us Q I r hq
  obtain ⟨g, h, ds, z, R, w, hz, k⟩ := hq
  unfold Ev.biF at hz
  split at hz <;> rename_i hb <;> try (first | (cases hb; done) | (cases hz; done))
  rename_i d
  obtain ⟨v, rfl, vd⟩ := VDs.one_of w
  have go : ∀ x1 : D, Ev.full h 3 d = some x1 → (∃ a, v = .ref a) → (x1.dep ≤ 64 ∧ x1.wt ≤ 1000000 ∧ x1.fine = true) → Q (.str (toP x1).shown) H → wpAny (model X.prog X.w) X.A (call (.builtin "repr") us) (EP X pins σ Q) X.xe s := fun x1 q1 hv hl k => by
    obtain ⟨a, rfl⟩ := hv
    have p1 := full_pure 3 q1
    have o1 := full_okT R 3 q1 (VD.okT _ _ vd)
    refine call_repr hg hu pins s σ H _ us Q I r ⟨a, toP x1, rfl, by rw [hK]; exact full_vh R 3 q1 (VD.vh R vd), showable_p x1 p1 hl.2.2, hasDict_p x1, Nat.le_trans (dep_p x1 p1) hl.1, ?_, k⟩
    have h1 := shown_wt x1 p1 hl.2.2 o1
    have h2 : (1000000 : Nat) ≤ sizeLine := by rw [sizeLine_eq]; decide
    omega
  split at hz
  · rename_i t q1
    split at hz
    · rename_i hl
      cases hz
      have dp := full_vh R 3 q1 (VD.vh R vd)
      exact go _ q1 (by cases dp; exact ⟨_, rfl⟩) hl (k _ g H (Step.refl R) R rfl)
    · cases hz
  · rename_i t q1
    split at hz
    · rename_i hl
      cases hz
      have dp := full_vh R 3 q1 (VD.vh R vd)
      exact go _ q1 (by cases dp; exact ⟨_, rfl⟩) hl (k _ g H (Step.refl R) R rfl)
    · cases hz
  · cases hz
theorem cr_sum' (hK : X.K = S.K) (hc : X.calm = true) : CallR X (.builtin "sum") (rBi S .sum) := by
  intro pins s σ H xs us Q I r hq
  obtain ⟨g, h, ds, z, R, w, hz, k⟩ := hq
  unfold Ev.biF at hz
  split at hz <;> rename_i hb <;> try (first | (cases hb; done) | (cases hz; done))
  rename_i d
  obtain ⟨v, rfl, vd⟩ := VDs.one_of w
  have vh := shal_vh R vd
  split at hz
  · rename_i t q1
    rw [q1] at vh
    obtain ⟨a, vs, e1, q2, w2⟩ := vh
    obtain ⟨l, e2, e3⟩ := Option.map_eq_some_iff.mp hz
    subst e3
    have := VDs.intsD e2 w2
    subst this
    exact cr_sum hc pins s σ H _ us Q I r ⟨a, l, by rw [e1], .of q2, k _ g H (Step.refl R) R rfl⟩
  · cases hz
theorem cr_all' (hK : X.K = S.K) (hc : X.calm = true) : CallR X (.builtin "all") (rBi S .all) := by
  intro pins s σ H xs us Q I r hq
  obtain ⟨g, h, ds, z, R, w, hz, k⟩ := hq
  unfold Ev.biF at hz
  split at hz <;> rename_i hb <;> try (first | (cases hb; done) | (cases hz; done))
  rename_i d
  obtain ⟨v, rfl, vd⟩ := VDs.one_of w
  have vh := shal_vh R vd
  split at hz
  · rename_i t q1
    rw [q1] at vh
    obtain ⟨a, vs, e1, q2, w2⟩ := vh
    obtain ⟨l, e2, e3⟩ := Option.map_eq_some_iff.mp hz
    subst e3
    have := VDs.bools e2 w2
    subst this
    exact cr_all hc pins s σ H _ us Q I r ⟨a, l, by rw [e1], .of q2, k _ g H (Step.refl R) R rfl⟩
  · cases hz
theorem cr_any' (hK : X.K = S.K) (hc : X.calm = true) : CallR X (.builtin "any") (rBi S .any) := by
  intro pins s σ H xs us Q I r hq
  obtain ⟨g, h, ds, z, R, w, hz, k⟩ := hq
  unfold Ev.biF at hz
  split at hz <;> rename_i hb <;> try (first | (cases hb; done) | (cases hz; done))
  rename_i d
  obtain ⟨v, rfl, vd⟩ := VDs.one_of w
  have vh := shal_vh R vd
  split at hz
  · rename_i t q1
    rw [q1] at vh
    obtain ⟨a, vs, e1, q2, w2⟩ := vh
    obtain ⟨l, e2, e3⟩ := Option.map_eq_some_iff.mp hz
    subst e3
    have := VDs.bools e2 w2
    subst this
    exact cr_any hc pins s σ H _ us Q I r ⟨a, l, by rw [e1], .of q2, k _ g H (Step.refl R) R rfl⟩
  · cases hz
theorem ints_cons {t : List D} {x : D} {l : List Int} (h : Ev.intsD (x :: t) = some l) : 0 < l.length := by
  cases x with
  | int i =>
    rw [Ev.intsD] at h
    obtain ⟨l', _, e⟩ := Option.map_eq_some_iff.mp h
    subst e; simp
  | _ => simp [Ev.intsD] at h
theorem cr_max1 (hK : X.K = S.K) (hc : X.calm = true) : CallR X (.builtin "max") (rBi S .max1) := by
  intro pins s σ H xs us Q I r hq
  obtain ⟨g, h, ds, z, R, w, hz, k⟩ := hq
  unfold Ev.biF at hz
  split at hz <;> rename_i hb <;> try (first | (cases hb; done) | (cases hz; done))
  rename_i d
  obtain ⟨v, rfl, vd⟩ := VDs.one_of w
  have vh := shal_vh R vd
  split at hz
  · rename_i x t q1
    rw [q1] at vh
    obtain ⟨a, vs, e1, q2, w2⟩ := vh
    obtain ⟨l, e2, e3⟩ := Option.map_eq_some_iff.mp hz
    subst e3
    have := VDs.intsD e2 w2
    subst this
    exact cr_max hc pins s σ H _ us Q I r ⟨a, l, by rw [e1], .of q2, ints_cons e2, fun m m1 m2 => by rw [max_uniq m1 m2]; exact k _ g H (Step.refl R) R rfl⟩
  · cases hz
theorem cr_min1 (hK : X.K = S.K) (hc : X.calm = true) : CallR X (.builtin "min") (rBi S .min1) := by
  intro pins s σ H xs us Q I r hq
  obtain ⟨g, h, ds, z, R, w, hz, k⟩ := hq
  unfold Ev.biF at hz
  split at hz <;> rename_i hb <;> try (first | (cases hb; done) | (cases hz; done))
  rename_i d
  obtain ⟨v, rfl, vd⟩ := VDs.one_of w
  have vh := shal_vh R vd
  split at hz
  · rename_i x t q1
    rw [q1] at vh
    obtain ⟨a, vs, e1, q2, w2⟩ := vh
    obtain ⟨l, e2, e3⟩ := Option.map_eq_some_iff.mp hz
    subst e3
    have := VDs.intsD e2 w2
    subst this
    exact cr_min hc pins s σ H _ us Q I r ⟨a, l, by rw [e1], .of q2, ints_cons e2, fun m m1 m2 => by rw [min_uniq m1 m2]; exact k _ g H (Step.refl R) R rfl⟩
  · cases hz
theorem cr_max2 (hc : X.calm = true) : CallR X (.builtin "max") (rBi S .max2) := by
  intro pins s σ H xs us Q I r hq
  obtain ⟨g, h, ds, z, R, w, hz, k⟩ := hq
  unfold Ev.biF at hz
  split at hz <;> rename_i hb <;> try (first | (cases hb; done) | (cases hz; done))
  rename_i i j
  obtain ⟨v, u, rfl, v1, v2⟩ := VDs.two_of w
  cases v1; cases v2; cases hz
  exact call_max2 hc pins s σ H _ us Q I r ⟨i, j, rfl, k _ g H (Step.refl R) R rfl⟩
theorem cr_min2 (hc : X.calm = true) : CallR X (.builtin "min") (rBi S .min2) := by
  intro pins s σ H xs us Q I r hq
  obtain ⟨g, h, ds, z, R, w, hz, k⟩ := hq
  unfold Ev.biF at hz
  split at hz <;> rename_i hb <;> try (first | (cases hb; done) | (cases hz; done))
  rename_i i j
  obtain ⟨v, u, rfl, v1, v2⟩ := VDs.two_of w
  cases v1; cases v2; cases hz
  exact call_min2 hc pins s σ H _ us Q I r ⟨i, j, rfl, k _ g H (Step.refl R) R rfl⟩
theorem cr_tuple (hK : X.K = S.K) : CallR X (.type "tuple") (rBi S .tuple_) := by
  intro pins s σ H xs us Q I r hq
  obtain ⟨g, h, ds, z, R, w, hz, k⟩ := hq
  unfold Ev.biF at hz
  split at hz <;> rename_i hb <;> try (first | (cases hb; done) | (cases hz; done))
  rename_i d
  obtain ⟨v, rfl, vd⟩ := VDs.one_of w
  have vh := shal_vh R vd
  split at hz
  · rename_i t q1
    rw [q1] at vh
    obtain ⟨a, vs, e1, q2, w2⟩ := id vh
    subst e1
    cases hz
    exact call_tuple_of pins s σ H _ us Q I r ⟨a, vs, rfl, .inr ⟨by rw [hK]; exact sqT_mono R.fz q2, k _ g H (Step.refl R) R vh⟩⟩
  · rename_i t q1
    rw [q1] at vh
    obtain ⟨a, vs, e1, q2, w2⟩ := vh
    subst e1
    cases hz
    refine call_tuple_of pins s σ H _ us Q I r ⟨a, vs, rfl, .inl ⟨.of q2, fun p hp => ?_⟩⟩
    obtain ⟨g', r', st, vd'⟩ := new_tup R hp w2
    exact k _ g' _ st r' vd'
  · cases hz

/-! ### methods of lists -/
def rMt (S : Sx) (m : Mt) : V → List V → L2.Hp → VK → Prop := fun x xs H Q => ∃ g h d ds z h2, Rel S g h H ∧ VD S g d x ∧ VDs S g ds xs ∧ Ev.mtb m d ds h = some (z, h2) ∧ ∀ v g' H', Step g h H g' h2 H' → Rel S g' h2 H' → VD S g' z v → Q v H'
/-- a box that is changed -/
theorem mtf_box {m : Mt} {z : D} {h2 : Mem} (hz : Ev.mtb m d ds h = some (z, h2)) : ∃ n xs, d = .loc n ∧ h[n]? = some (.box (.lst xs)) := by
  unfold Ev.mtb at hz
  split at hz
  · split at hz
    · exact ⟨_, _, rfl, by assumption⟩
    · cases hz
  · cases hz
theorem box_at {t : List D} (R : Rel S g h H) (vd : VD S g (.loc n) x) (q : h[n]? = some (.box (.lst t))) : ∃ a vs, x = .ref a ∧ g.μ[n]? = some a ∧ H a = some (.lst vs) ∧ VDs S g t vs ∧ live h n := by
  obtain ⟨a, e, q1⟩ := vd
  obtain ⟨vs, e1, e2⟩ := R.ob n a _ q1 q
  exact ⟨a, vs, e, q1, e1, e2, _, q, by intro z; cases z⟩
theorem mt_append' : MtM X "list.append" (rMt S .append) := by
  intro pins s σ H x xs v us Q I rx rxs hq
  obtain ⟨g, h, d, ds, z, h2, R, vd, w, hz, k⟩ := hq
  obtain ⟨n, t, rfl, q1⟩ := mtf_box hz
  obtain ⟨a, vs, rfl, q2, q3, w2, lv⟩ := box_at R vd q1
  simp only [Ev.mtb, q1] at hz
  split at hz <;> rename_i hb <;> try (first | (cases hb; done) | (cases hz; done))
  rename_i e
  split at hz
  · rename_i hl
    cases hz
    obtain ⟨y, rfl, vy⟩ := VDs.one_of w
    have w3 := w2.append (VDs.one vy)
    exact mt_append pins s σ H _ _ v us Q I rx rxs ⟨a, vs, y, rfl, rfl, q3, by rw [← VDs.length w2]; exact Nat.lt_of_lt_of_le hl lim_line,
      k _ g _ (Step.write R q2 lv) (R.write q2 lv w3) rfl⟩
  · cases hz
theorem mt_extend' (hK : X.K = S.K) : MtM X "list.extend" (rMt S .extend) := by
  intro pins s σ H x xs v us Q I rx rxs hq
  obtain ⟨g, h, d, ds, z, h2, R, vd, w, hz, k⟩ := hq
  obtain ⟨n, t, rfl, q1⟩ := mtf_box hz
  obtain ⟨a, vs, rfl, q2, q3, w2, lv⟩ := box_at R vd q1
  simp only [Ev.mtb, q1] at hz
  split at hz <;> rename_i hb <;> try (first | (cases hb; done) | (cases hz; done))
  rename_i e
  obtain ⟨y, rfl, vy⟩ := VDs.one_of w
  have vh := shal_vh R vy
  split at hz
  · rename_i t2 q4
    rw [q4] at vh
    obtain ⟨b, ws, rfl, q5, w4⟩ := vh
    split at hz
    · rename_i hl
      cases hz
      have w3 := w2.append w4
      exact mt_extend pins s σ H _ _ v us Q I rx rxs ⟨a, b, vs, ws, rfl, rfl, q3, q5, by rw [← VDs.length w2, ← VDs.length w4]; exact lim_of hl,
        k _ g _ (Step.write R q2 lv) (R.write q2 lv w3) rfl⟩
    · cases hz
  · cases hz
theorem mt_pop' : MtM X "list.pop" (rMt S .pop0) := by
  intro pins s σ H x xs v us Q I rx rxs hq
  obtain ⟨g, h, d, ds, z, h2, R, vd, w, hz, k⟩ := hq
  obtain ⟨n, t, rfl, q1⟩ := mtf_box hz
  obtain ⟨a, vs, rfl, q2, q3, w2, lv⟩ := box_at R vd q1
  simp only [Ev.mtb, q1] at hz
  split at hz <;> rename_i hb <;> try (first | (cases hb; done) | (cases hz; done))
  split at hz
  · rename_i y q4
    cases hz
    cases w
    rw [List.getLast?_eq_getElem?] at q4
    obtain ⟨u, e1, e2⟩ := VDs.get w2 q4
    rw [VDs.length w2] at e1
    exact mt_pop pins s σ H _ _ v us Q I rx rxs ⟨a, vs, u, rfl, rfl, q3, e1, k _ g _ (Step.write R q2 lv) (R.write q2 lv w2.dropLast) e2⟩
  · cases hz
theorem ixN_seq (n : Nat) (i : Int) (k : Nat) (h : Ev.ixN n i = some k) : seqIndex? i n = some k := by
  have e : atI (List.range n) i = some k := by
    unfold atI
    have e1 : L2.ixN (List.range n).length i = some k := by rw [List.length_range]; exact h
    rw [e1]
    show (List.range n)[k]? = some k
    have hk : k < n := by
      unfold Ev.ixN at h
      split at h
      · split at h
        · cases h; omega
        · cases h
      · split at h
        · cases h; omega
        · cases h
    simp [hk]
  obtain ⟨j, q1, q2, _⟩ := atI_get e
  rw [List.length_range] at q1
  have : j = k := by
    rw [List.getElem?_range] at q2
    · exact Option.some.inj q2
    · have := (List.getElem?_eq_some_iff.mp q2).1
      simpa using this
  rw [q1, this]
theorem ixN_small {n : Nat} {i : Int} {k : Nat} (hn : n ≤ sizeLine) (h : Ev.ixN n i = some k) : -(2 ^ 63) ≤ i ∧ i < 2 ^ 63 := by
  have hs : (sizeLine : Int) < 2 ^ 62 := by rw [sizeLine_eq]; decide
  unfold Ev.ixN at h
  split at h
  · split at h
    · omega
    · cases h
  · split at h
    · omega
    · cases h
theorem mt_popAt' : MtM X "list.pop" (rMt S .pop1) := by
  intro pins s σ H x xs v us Q I rx rxs hq
  obtain ⟨g, h, d, ds, z, h2, R, vd, w, hz, k⟩ := hq
  obtain ⟨n, t, rfl, q1⟩ := mtf_box hz
  obtain ⟨a, vs, rfl, q2, q3, w2, lv⟩ := box_at R vd q1
  simp only [Ev.mtb, q1] at hz
  split at hz <;> rename_i hb <;> try (first | (cases hb; done) | (cases hz; done))
  rename_i i
  split at hz
  · rename_i j q4
    split at hz
    · rename_i y q5
      cases hz
      obtain ⟨yv, rfl, vy⟩ := VDs.one_of w
      cases vy
      obtain ⟨u, e1, e2⟩ := VDs.get w2 q5
      rw [VDs.length w2] at q4
      have hl : vs.length ≤ sizeLine := by
        obtain ⟨z, _⟩ := I.hok a _ q3
        exact z
      obtain ⟨s1, s2⟩ := ixN_small hl q4
      exact mt_popAt pins s σ H _ _ v us Q I rx rxs ⟨a, vs, i, j, u, rfl, rfl, q3, s1, s2, ixN_seq _ _ _ q4, e1, k _ g _ (Step.write R q2 lv) (R.write q2 lv (w2.erase j)) e2⟩
    · cases hz
  · cases hz
end
end So
end
section
set_option Elab.async false
set_option autoImplicit false
set_option linter.all false
/-! S6: sorted, list(..), rows backwards, repeated. -/
namespace So
open PySem PySem.Spec PyProof.Rows L2 PySem.W
open Ev (D Ob Mem Fr R RS RL RB Bop Cop Bi Mt)

section
variable {S : Sx} {g g' : G} {h h' : Mem} {H H' : L2.Hp} {a p : Addr} {d e : D} {ds : List D} {v x y : V} {vs : List V} {n : Nat} {X : Cx}

mutual
theorem toks_p : ∀ (d : D), d.pure = true → d.toks = keyToks (toP d)
  | .non, _ => by simp [D.toks, toP, keyToks]
  | .bl b, _ => by simp [D.toks, toP, keyToks]
  | .int i, _ => by simp [D.toks, toP, keyToks]
  | .str s, _ => by simp [D.toks, toP, keyToks]
  | .tup xs, p => by
    rw [D.pure] at p
    simp only [D.toks, toP, keyToks]
    exact tokss_p xs p
  | .lst xs, p => by
    rw [D.pure] at p
    simp only [D.toks, toP, keyToks]
    exact tokss_p xs p
  | .loc _, p => by simp [D.pure] at p
  | .fn _, p => by simp [D.pure] at p
  | .scr _, p => by simp [D.pure] at p
  | .rep _, p => by simp [D.pure] at p
theorem tokss_p : ∀ (ds : List D), D.pures ds = true → D.tokss ds = keyToksAll (toPs ds)
  | [], _ => by simp [D.tokss, toPs, keyToksAll]
  | x :: xs, p => by
    rw [D.pures, Bool.and_eq_true] at p
    simp only [D.tokss, toPs, keyToksAll]
    rw [toks_p x p.1, tokss_p xs p.2]
end
mutual
theorem alike_p : ∀ (a b : D), a.pure = true → b.pure = true → a.alike b = true → PySem.W.alike (toP a) (toP b) = true
  | .non, b, _, q, k => by cases b <;> first | (simp [D.alike] at k; done) | (simp [toP, PySem.W.alike]; done)
  | .bl x, b, _, q, k => by cases b <;> first | (simp [D.alike] at k; done) | (simp [toP, PySem.W.alike]; done)
  | .int x, b, _, q, k => by cases b <;> first | (simp [D.alike] at k; done) | (simp [toP, PySem.W.alike]; done)
  | .str x, b, _, q, k => by cases b <;> first | (simp [D.alike] at k; done) | (simp [toP, PySem.W.alike]; done)
  | .tup x, b, p, q, k => by
    cases b with
    | tup y =>
      rw [D.pure] at p q
      rw [D.alike] at k
      simp only [toP, PySem.W.alike]
      exact alikes_p x y p q k
    | _ => simp [D.alike] at k
  | .lst x, b, p, q, k => by
    cases b with
    | lst y =>
      rw [D.pure] at p q
      rw [D.alike] at k
      simp only [toP, PySem.W.alike]
      exact alikes_p x y p q k
    | _ => simp [D.alike] at k
  | .loc _, b, p, _, _ => by simp [D.pure] at p
  | .fn _, b, p, _, _ => by simp [D.pure] at p
  | .scr _, b, p, _, _ => by simp [D.pure] at p
  | .rep _, b, p, _, _ => by simp [D.pure] at p
theorem alikes_p : ∀ (a b : List D), D.pures a = true → D.pures b = true → D.alikes a b = true → PySem.W.alikeAll (toPs a) (toPs b) = true
  | [], b, _, _, _ => by simp [toPs, PySem.W.alikeAll]
  | x :: xs, b, p, q, k => by
    cases b with
    | nil => simp [toPs, PySem.W.alikeAll]
    | cons y ys =>
      rw [D.pures, Bool.and_eq_true] at p q
      rw [D.alikes, Bool.and_eq_true] at k
      simp only [toPs, PySem.W.alikeAll]
      rw [alike_p x y p.1 q.1 k.1, alikes_p xs ys p.2 q.2 k.2]
      rfl
end
theorem tokLt_is (a b : Int ⊕ List Nat) : Ev.tokLt a b = itemOrd.blt a b := by
  cases a <;> cases b <;> first | rfl | exact lexNat_lt _ _
theorem tokEq_is (a b : Int ⊕ List Nat) : Ev.tokEq a b = decide (a = b) := by
  cases a <;> cases b <;> simp [Ev.tokEq]
theorem lexTok_is : ∀ (a b : List (Int ⊕ List Nat)), Ev.lexTok a b = lexLt itemOrd a b
  | [], [] => rfl
  | [], _ :: _ => rfl
  | _ :: _, [] => rfl
  | x :: r, y :: t => by
    rw [Ev.lexTok, tokEq_is]
    by_cases q : x = y
    · subst q
      rw [if_pos (by simp), lexTok_is r t]
      exact (lex_self (O := itemOrd) x r t).symm
    · rw [if_neg (by simpa using q), tokLt_is]
      cases k : itemOrd.blt x y with
      | true => exact (lex_true.mpr (.inl k)).symm
      | false =>
        symm
        cases k2 : itemOrd.blt y x with
        | true =>
          cases k3 : lexLt itemOrd (x :: r) (y :: t) with
          | false => rfl
          | true =>
            rcases lex_true.mp k3 with z | ⟨z, _⟩
            · rw [k] at z; cases z
            · rw [k2] at z; cases z
        | false => exact absurd (itemOrd.total x y k k2) q
theorem lt_p {a b : D} (p : a.pure = true) (q : b.pure = true) : a.lt b = dataLt (toP a) (toP b) := by
  unfold D.lt dataLt
  rw [lexTok_is, toks_p a p, toks_p b q]
theorem each_vd : ∀ {ds : List D} {vs : List V} {us : List Value}, VDs S g ds vs → Vals vs us → EachIs (fun u d => ∃ v, RelV v u ∧ VD S g d v) us ds
  | [], _, _, w, r => by cases w; cases r; exact .nil
  | d :: ds, _, _, ⟨v, vr, e, h1, h2⟩, r => by
    subst e
    cases r with
    | cons r1 r2 => exact .cons ⟨v, r1, h1⟩ (each_vd h2 r2)
theorem vd_each : ∀ {ds : List D} {us : List Value}, EachIs (fun u d => ∃ v, RelV v u ∧ VD S g d v) us ds → ∃ vs, VDs S g ds vs ∧ Vals vs us
  | _, _, .nil => ⟨[], rfl, .nil⟩
  | _, _, .cons ⟨v, r, h1⟩ t => by
    obtain ⟨vs, w, rs⟩ := vd_each t
    exact ⟨v :: vs, VDs.cons h1 w, .cons r rs⟩
theorem pures_mem : ∀ {ds : List D}, D.pures ds = true → ∀ d ∈ ds, d.pure = true
  | [], _, d, h => by simp at h
  | x :: xs, p, d, h => by
    rw [D.pures, Bool.and_eq_true] at p
    rcases List.mem_cons.mp h with z | z
    · subst z; exact p.1
    · exact pures_mem p.2 d z
theorem deps_mem : ∀ {ds : List D}, ∀ d ∈ ds, d.dep ≤ D.deps ds
  | x :: xs, d, h => by
    rw [D.deps]
    rcases List.mem_cons.mp h with z | z
    · subst z; exact Nat.le_max_left ..
    · exact Nat.le_trans (deps_mem d z) (Nat.le_max_right ..)
theorem EachIs.weak {α β : Type} {R R' : α → β → Prop} {as : List α} {bs : List β} (e : EachIs R as bs) (k : ∀ a b, b ∈ bs → R a b → R' a b) : EachIs R' as bs := by
  induction e with
  | nil => exact .nil
  | cons h t ih => exact .cons (k _ _ List.mem_cons_self h) (ih fun a b hb => k a b (List.mem_cons_of_mem _ hb))

theorem call_sorted (hK : X.K = S.K) (hu : X.A.units + 70 < cLine) : CallR X (.builtin "sorted") (fun xs H Q => ∃ g h a vs ds, Rel S g h H ∧ xs = [.ref a] ∧ H a = some (.lst vs) ∧ VDs S g ds vs ∧ Ev.canSort ds = true ∧ ds.length ≤ Ev.LIM ∧
    ∀ p ws, H p = none → VDs S g (Ev.sortD ds) ws → Q (.ref p) (upd H p (.lst ws))) := by
  intro pins s σ H xs us Q I r hq
  obtain ⟨g, h, a, vs, ds, R, rfl, hA, w, hs, hl, k⟩ := hq
  obtain ⟨u, rfl, ru⟩ := vals1 r
  cases ru
  unfold Ev.canSort at hs
  simp only [Bool.and_eq_true, Bool.or_eq_true, decide_eq_true_eq] at hs
  obtain ⟨⟨⟨p1, p2⟩, p3⟩, p4⟩ := hs
  have pm := pures_mem p1
  obtain ⟨its, rv, pl, hz⟩ := I.list (.of hA)
  have e := each_vd w rv
  refine sorted_data (enc := toP) pl.isList e (EachIs.weak e fun u d hd ⟨v, rv, vd⟩ => Dp.reads I (toP d) v u (by rw [hK]; exact VD.dp R.fz d v (pm d hd) vd) rv) (fun x hx y hy => ?_) ?_ (lim_of hl) (fun b hb => ?_) fun out hlen ho => ?_
  · obtain ⟨x, h1, rfl⟩ := List.mem_map.mp hx
    obtain ⟨y, h2, rfl⟩ := List.mem_map.mp hy
    exact alike_p x y (pm x h1) (pm y h2) (List.all_eq_true.mp (List.all_eq_true.mp p3 x h1) y h2)
  · rcases p4 with p4 | p4
    · refine .inl fun x hx => ?_
      obtain ⟨x, h1, rfl⟩ := List.mem_map.mp hx
      have := List.all_eq_true.mp p4 x h1
      cases x with
      | tup l =>
        cases l with
        | nil => simp at this
        | cons b l => exact ⟨toP b, toPs l, by simp [toP, toPs]⟩
      | _ => simp at this
    · refine .inr fun x hx => ?_
      obtain ⟨x, h1, rfl⟩ := List.mem_map.mp hx
      have := List.all_eq_true.mp p4 x h1
      cases x with
      | int i => exact ⟨by simp [toP], fun l => by simp [toP]⟩
      | str i => exact ⟨by simp [toP], fun l => by simp [toP]⟩
      | _ => simp at this
  · have h1 := dep_p b (pm b hb)
    have h2 := deps_mem b hb
    omega
  · have es : ds.mergeSort (dataLe false toP) = Ev.sortD ds := by
      unfold Ev.sortD
      have : ∀ x ∈ ds, ∀ y ∈ ds, dataLe false toP x y = !(y.lt x) := fun x hx y hy => by
        rw [lt_p (pm y hy) (pm x hx)]
        rfl
      -- both orders agree on the items
      exact sort_congr this
    rw [es] at ho
    obtain ⟨ws, w2, r2⟩ := vd_each ho
    obtain ⟨c, hc⟩ := sortedAll_at s.heap its out.toArray
    refine ⟨.ref (s.heap.objs.size + 1), upd H (s.heap.objs.size + 1) (.lst ws), I.laid (t' := s.toks) (fun b o q => sortedAll_old q) (Nat.le_succ _) ?_, rfl, k _ ws (I.hok.fresh (Nat.le_succ _)) w2⟩
    refine ⟨?_, out, c, r2, hc⟩
    rw [← VDs.length w2]
    have : (Ev.sortD ds).length = ds.length := by unfold Ev.sortD; exact List.length_mergeSort _
    rw [this]
    exact lim_of hl
end
end So
end
section
set_option Elab.async false
set_option autoImplicit false
set_option linter.all false
/-! S7: that a core text is the given text: Boolean checks; the context. -/
namespace So
open PySem PySem.Spec PyProof.Rows L2
open Ev (D Ob Mem Fr R RS RL RB Bop Cop Bi Mt CE CEs CT CTs FE Src CO Tg Tgs)

structure Sc where
  N : List Str
  nm : List (Str × NameKind)
  oc : List (Str × NameKind)
  gl : List Str
  fs : List Str
  /-- the classes' names; for each the places of its subclasses; those that may be raised with a text -/
  xs : List Str
  sub : List (List Nat)
  rz : List Nat
def visB (sc : Sc) (x : Str) : Bool := match sc.nm.lookup x with | some .local => true | some .cell => true | some .free => true | _ => false
def locB (sc : Sc) (x : Str) : Bool := match sc.oc.lookup x with | some .local => true | some .cell => true | _ => false
def glB (sc : Sc) (x : Str) : Bool := decide (sc.nm.lookup x = some .globalImplicit) && !(x == ("__debug__" : Str))
def varB (sc : Sc) (i : Nat) (x : Str) : Bool := decide (sc.N[i]? = some x) && visB sc x && !(x == ("__debug__" : Str)) && !(x == ("__classdict__" : Str))
def ckC : D → Const → Bool
  | .non, .none => true
  | .bl a, .bool b => a == b
  | .int a, .int b => decide (a = b)
  | .str s, .str x => decide (tx s = x) && s.all fun c => decide (c < 1114112)
  | _, _ => false
def biN : Bi → Str
  | .len => "len" | .abs => "abs" | .int_ => "int" | .str_ => "str" | .repr => "repr" | .sum => "sum" | .max1 => "max" | .max2 => "max" | .min1 => "min" | .min2 => "min" | .all => "all" | .any => "any" | .tuple_ => "tuple" | .lenset => "" | .join => ""
def mtN : Mt → Str
  | .append => "append" | .extend => "extend" | .pop0 => "pop" | .pop1 => "pop" | .index => "" | .count => ""
def mtArgs (m : Mt) (vs : List Expr) : Bool := match m with | .pop0 => vs.isEmpty | _ => !vs.isEmpty
def noStar : List Expr → Bool
  | [] => true
  | .Starred _ _ :: _ => false
  | _ :: r => noStar r
def plainE : Expr → Bool
  | .BoolOp .. => false
  | .UnaryOp .Not _ _ => false
  | .IfExp .. => false
  | .Compare .. => false
  | _ => true
def isSlice : Expr → Bool | .Slice .. => true | _ => false
def isSet : Expr → Bool | .Set .. => true | _ => false
def isSub : Expr → Bool | .Subscript .. => true | _ => false
def plainO : Expr → Bool | .Call .. => false | _ => true
/-- the names of a comprehension, with their slots -/
def tgOwn : Tg → Expr → List (Str × Nat)
  | .nm i, .Name x _ => [(x, i)]
  | .tp ts, .Tuple es _ _ => tgsOwn ts es
  | _, _ => []
where tgsOwn : Tgs → List Expr → List (Str × Nat)
  | .cons t ts, e :: es => (match t, e with | .nm i, .Name x _ => [(x, i)] | _, _ => []) ++ tgsOwn ts es
  | _, _ => []
mutual
def tslots : Tg → List Nat
  | .nm i => [i]
  | .tp ts => tsslots ts
def tsslots : Tgs → List Nat
  | .nil => []
  | .cons t ts => tslots t ++ tsslots ts
end
def blkSc (sc : Sc) (scope : Scope) : Sc := { sc with oc := scope.names, nm := scope.names.map fun (n, k) => if (k == .free && sc.nm.lookup n == some .cell) then (n, .cell) else (n, k) }
def scScope (sc : Sc) : Scope := { kind := .function, names := sc.nm, isGenerator := false, isCoroutine := false }

mutual
def ckTg (sc : Sc) : Tg → Expr → Bool
  | .nm i, .Name x _ => decide (sc.N[i]? = some x) && locB sc x
  | .tp ts, .Tuple es _ _ => ckTgs sc ts es
  | _, _ => false
def ckTgs (sc : Sc) : Tgs → List Expr → Bool
  | .nil, [] => true
  | .cons t ts, e :: es => ckTg sc t e && noStar [e] && ckTgs sc ts es
  | _, _ => false
end
mutual
def ckE (sc : Sc) : CE → Expr → Bool
  | .c d, .Constant c _ _ => ckC d c
  | .v i, .Name x _ => varB sc i x
  | .g i, .Name x _ => decide (sc.gl[i]? = some x) && glB sc x
  | .f i, .Name x _ => decide (sc.fs[i]? = some x) && glB sc x
  | .bin o a b, .BinOp x o' y _ => decide (bo o = o') && ckE sc a x && ckE sc b y
  | .neg a, .UnaryOp .USub x _ => ckE sc a x
  | .cmp o a b, .Compare x [o'] [y] _ => decide (co o = o') && !isSet y && ckE sc a x && ckE sc b y
  | .chn o p a b c, .Compare x [o', p'] [y, z] _ => decide (co o = o') && decide (co p = p') && !isSet y && !isSet z && ckE sc a x && ckE sc b y && ckE sc c z
  | .and es, .BoolOp .And vs _ => ckB sc es vs
  | .or es, .BoolOp .Or vs _ => ckB sc es vs
  | .not a, .UnaryOp .Not x _ => ckE sc a x
  | .ite t a b, .IfExp x y z _ => ckT sc t x && ckE sc a y && ckE sc b z
  | .tup es, .Tuple vs _ _ => ckL sc es vs
  | .fr e, x => ckF sc e x
  | .nw e, x => ckF sc e x
  | .ix a b, .Subscript x y _ => !isSlice y && ckE sc a x && ckE sc b y
  | .sl a lo hi, .Subscript x (.Slice l u none _) _ => ckE sc a x && ckO sc lo l && ckO sc hi u
  | .call f es, .Call (.Name x _) vs [] _ => decide (sc.fs[f]? = some x) && glB sc x && noStar vs && ckL sc es vs
  | .callv g es, .Call x vs [] _ => isSub x && noStar vs && !vs.isEmpty && ckE sc g x && ckL sc es vs
  | .bi .lenset (.cons a .nil), .Call (.Name x _) [.Call (.Name y _) [v] [] _] [] _ => decide (x = "len") && glB sc x && decide (y = "set") && glB sc y && noStar [v] && ckE sc a v
  | .bi b es, .Call (.Name x _) vs [] _ => decide (biN b = x) && glB sc x && !(x == ("" : Str)) && noStar vs && !vs.isEmpty && ckL sc es vs
  | .mt m o es, .Call (.Attribute x n ap) vs [] p => decide (mtN m = n) && !(n == ("" : Str)) && plainO x && noStar vs && (ap.endLine == p.line) && decide (vs.length ≤ 1) && mtArgs m vs && ckE sc o x && ckL sc es vs
  | .frz a, x => ckE sc a x
  | _, _ => false
def ckO (sc : Sc) : CO → Option Expr → Bool
  | .no, none => true
  | .so a, some x => ckE sc a x
  | _, _ => false
def ckB (sc : Sc) : CEs → List Expr → Bool
  | .cons e .nil, [x] => ckE sc e x
  | .cons e es, x :: y :: xs => ckE sc e x && ckB sc es (y :: xs)
  | _, _ => false
def ckL (sc : Sc) : CEs → List Expr → Bool
  | .nil, [] => true
  | .cons e es, x :: xs => noStar [x] && ckE sc e x && ckL sc es xs
  | .star e es, .Starred x _ :: xs => ckE sc e x && ckL sc es xs
  | _, _ => false
def ckT (sc : Sc) : CT → Expr → Bool
  | .e (.cmp o a b), .Compare x [o'] [y] _ => decide (co o = o') && !isSet y && ckE sc a x && ckE sc b y
  | .e (.chn o p a b c), .Compare x [o', p'] [y, z] _ => decide (co o = o') && decide (co p = p') && !isSet y && !isSet z && ckE sc a x && ckE sc b y && ckE sc c z
  | .e a, x => plainE x && ckE sc a x
  | .and ts, .BoolOp .And vs _ => ckTB sc ts vs
  | .or ts, .BoolOp .Or vs _ => ckTB sc ts vs
  | .not t, .UnaryOp .Not x _ => ckT sc t x
  | _, _ => false
def ckTB (sc : Sc) : CTs → List Expr → Bool
  | .cons e .nil, [x] => ckT sc e x
  | .cons e es, x :: y :: xs => ckT sc e x && ckTB sc es (y :: xs)
  | _, _ => false
def ckF (sc : Sc) : FE → Expr → Bool
  | .lst es, .List vs _ => ckL sc es vs
  | .lc e t s c, .ListComp x [⟨tg, it, ifs, a⟩] scope _ => decide (a = 0) && blkC sc.N (scScope sc) scope (tgOwn t tg) && decide ((tgOwn t tg).map (·.2) = tslots t) && ckTg (blkSc sc scope) t tg && ckSrc sc s it && ckE (blkSc sc scope) e x && (match ifs with | [] => (match c with | .yes => true | _ => false) | [i] => ckT (blkSc sc scope) c i | _ => false)
  | .sorted a, .Call (.Name x _) [y] [] _ => decide (x = "sorted") && glB sc x && noStar [y] && ckE sc a y
  | .list_ a, .Call (.Name x _) [y] [] _ => decide (x = "list") && glB sc x && noStar [y] && ckE sc a y
  | .rev a, .Subscript x (.Slice none none (some (.UnaryOp .USub (.Constant (.int 1) _ _) _)) _) _ => ckE sc a x
  | .rep a b, .BinOp x .Mult y _ => ckE sc a x && ckE sc b y
  | _, _ => false
def ckSrc (sc : Sc) : Src → Expr → Bool
  | .it e, x => !isSet x && ckE sc e x
  | .rng es, .Call (.Name x _) vs [] _ => decide (x = "range") && glB sc x && noStar vs && !vs.isEmpty && decide (vs.length ≤ 3) && ckL sc es vs
  | _, _ => false
end

/-! ### the context -/
/-- what is fixed for the whole run -/
structure Tx where
  P : Program
  w : World
  mg : Str → Option Value
  base : Heap
  S : Sx
  Pg : Ev.Prog
  gl : List Str
  fs : List Str
  xs : List Str
  sub : List (List Nat)
  rz : List Nat
/-- a def's promise at a level -/
def RunOk (T : Tx) (k f : Nat) : Prop := ∀ (A : Around) (outer : List Env) (s : Shared) (H : L2.Hp) (us : List Value) (vs : List V) (g : G) (h : Mem) (ds : List D) (Q : VK) (E : XK),
  Room k A → A.guards = some [] → Env0 T.P T.w T.S.K T.mg T.base A outer s H → Vals vs us → Rel T.S g h H → VDs T.S g ds vs → OutE T.S (fun c d _ H => E c d H) [] g h H Q (Ev.callF T.Pg k f ds h) →
  codeAny (model T.P T.w) A (.call (.ref (T.S.fa f)) ⟨us, []⟩) (CR (L2N.CX T.P T.w) outer T.P T.w H s Q E) s
/-- what a def of the suites promises, called with the exception that is handled -/
def ErrOk (T : Tx) : Prop := ∀ (f c : Nat) (d : D), T.Pg.errT f c = some d → ∀ (A : Around) (outer : List Env) (s : Shared) (H : L2.Hp) (p : Addr × Obj) (g : G) (h : Mem) (Q : VK) (E : XK),
  L2H.RoomH 1 A → A.guards = some [] → L2H.Hot1 A p → L2H.PinOk outer H s p → Env0 T.P T.w T.S.K T.mg T.base A outer s H → p.2.cls = .ref (T.S.ca c) → p.2.dict = none → Rel T.S g h H →
  (∀ v g' H', Step g h H g' h H' → Rel T.S g' h H' → VD T.S g' d v → Q v H') →
  codeAny (model T.P T.w) A (.call (.ref (T.S.fa f)) ⟨[.ref p.1], []⟩) (CR (L2N.CX T.P T.w) outer T.P T.w H s Q E) s
/-- a class that a raise names -/
structure RzOk (T : Tx) (c : Nat) (x : Str) : Prop where
  mg : T.mg x = some (.ref (T.S.ca c))
  kp : PySem.W.keepIn T.S.K (.ref (T.S.ca c)) = true
  ex : ∃ B newId initId bmB, ExcBaseFacts B newId initId bmB ∧ PySem.W.excIn T.S.K (T.S.ca c) bmB newId = true
  sub : PySem.W.subIn T.S.K (.ref (T.S.ca c)) (.type "BaseException") = some true
  ty : PySem.W.typeIn T.S.K (.ref (T.S.ca c)) = some (.type "type")
def used : List Str := ["len", "abs", "int", "str", "repr", "sum", "max", "min", "all", "any", "tuple", "list", "sorted", "range", "set"]
structure TOk (T : Tx) (k : Nat) : Prop where
  glob : ∀ (i : Nat) x d, T.gl[i]? = some x → T.Pg.glob[i]? = some d → ∃ u v, T.mg x = some u ∧ RelV v u ∧ ∀ g, VD T.S g d v
  defs : ∀ (f : Nat) x, T.fs[f]? = some x → T.mg x = some (.ref (T.S.fa f)) ∧ PySem.W.keepIn T.S.K (.ref (T.S.fa f)) = true
  kp : ∀ f : Nat, PySem.W.keepIn T.S.K (.ref (T.S.fa f)) = true
  blt : ∀ x ∈ used, T.mg x = none
  run : ∀ f, RunOk T k f
  nx : T.Pg.nx = T.xs.length
  rz : ∀ c ∈ T.rz, ∀ x, T.xs[c]? = some x → RzOk T c x
  xn : ∀ (j : Nat) x, T.xs[j]? = some x → T.mg x = some (.ref (T.S.ca j))
  exm : ∀ (j c : Nat) cs, T.sub[j]? = some cs → c < T.xs.length → PySem.W.exmOne T.S.K (.ref (T.S.ca c)) (.ref (T.S.ca j)) = some (cs.contains c)
  sbl : ∀ (j c : Nat) cs, T.sub[j]? = some cs → cs.contains c = true → c < T.xs.length
  err : ErrOk T
structure Cxt (T : Tx) (k : Nat) (X : Cx) (W : WX) (sc : Sc) : Prop where
  ok : TOk T k
  prog : X.prog = T.P
  w : X.w = T.w
  K : X.K = T.S.K
  mg : X.mg = T.mg
  base : X.base = T.base
  N : X.N = sc.N
  nd : sc.N.Nodup
  nm : X.env.scope.names = sc.nm
  kind : X.env.scope.kind = .function
  oc : ∀ x, locB sc x = true → Loc X.env.scope x ∧ (X.fn x = true ∨ X.env.scope.names.lookup x = some .local)
  gl : sc.gl = T.gl
  fs : sc.fs = T.fs
  xs : sc.xs = T.xs
  sub : sc.sub = T.sub
  rz : sc.rz = T.rz
  calm : X.calm = true
  tk : L2N.Takes X W
  po : PassesOwn (model X.prog X.w) X.A X.env X.xe
  gd : X.A.guards = some []
  rm : Room k X.A
/-- the evaluator's context at a level -/
def Tx.cx (T : Tx) (k : Nat) : Ev.Cx := T.Pg.cx k (Ev.callF T.Pg k)

section
variable {T : Tx} {k : Nat} {X : Cx} {W : WX} {sc : Sc}
theorem Cxt.gl_of (c : Cxt T k X W sc) {x : Str} (h : glB sc x = true) : Gl X x ∧ (x == ("__debug__" : Str)) = false := by
  unfold glB at h
  simp only [Bool.and_eq_true, decide_eq_true_eq, Bool.not_eq_true'] at h
  refine ⟨?_, h.2⟩
  show X.env.scope.names.lookup x = _
  rw [c.nm]; exact h.1
theorem Cxt.units (c : Cxt T k X W sc) : X.A.units + 200 < cLine := by
  have := c.rm.un
  omega
theorem noStar_any : ∀ {vs : List Expr} {env : Env} {pos : Pos}, noStar vs = true → (backTo pos (starEach vs env)).any (·.1) = false
  | [], _, _, _ => rfl
  | v :: r, env, pos, h => by
    have ih : noStar r = true := by cases v <;> first | exact h | (simp [noStar] at h)
    have := noStar_any (env := env) (pos := pos) ih
    cases v <;> first | exact this | (simp [noStar] at h)
theorem noStar_cons {v : Expr} {r : List Expr} {env : Env} (h : noStar [v] = true) : starEach (v :: r) env = (false, eval v env) :: starEach r env := by
  cases v <;> first | rfl | (simp [noStar] at h)
theorem noStar_head {v : Expr} {r : List Expr} (h : noStar (v :: r) = true) : noStar [v] = true ∧ noStar r = true := by
  cases v <;> first | exact ⟨rfl, h⟩ | (simp [noStar] at h)
end
end So
end
section
set_option Elab.async false
set_option autoImplicit false
set_option linter.all false
/-! S8: one lemma a construct of expressions. -/
namespace So
open PySem PySem.Spec PyProof.Rows L2
open Ev (D Ob Mem Fr R RS RL RB Bop Cop Bi Mt CE CEs CT CTs FE Src CO Tg Tgs evE evL evT evF evO evAnd evOr evTA evTO evSrc)

section
variable {T : Tx} {k : Nat} {X : Cx} {W : WX} {sc : Sc} {C : Ev.Cx} {x y z : Expr} {a b c : CE} {pos : Pos} {e e' : Expr}

theorem nd_bin (cx : Cxt T k X W sc) {o : Bop} (ha : PE X x (tE T.S W (evE C a))) (hb : PE X y (tE T.S W (evE C b))) : PE X (.BinOp x (bo o) y pos) (tE T.S W (evE C (.bin o a b))) := by
  refine PE.imp (pe_op (op_bop (S := T.S) cx.K o) ha hb) ?_
  rintro σ H Q ⟨g, f, h, R, Fr, out⟩
  rw [Ev.evE] at out
  refine tE_bind R Fr ?_
  cases qa : evE C a f h with
  | ok d1 h1 =>
    rw [qa] at out
    intro v g1 H1 s1 R1 V1 F1
    refine tE_bind R1 F1 ?_
    dsimp only at out
    cases qb : evE C b f h1 with
    | ok d2 h2 =>
      rw [qb] at out
      intro u g2 H2 s2 R2 V2 F2
      dsimp only at out
      cases qz : Ev.binop o (Ev.shal h2 d1) (Ev.shal h2 d2) with
      | none => rw [qz] at out; exact False.elim out
      | some z =>
        rw [qz] at out
        exact ⟨g2, h2, _, _, z, R2, shal_vh R2 (VD.mono s2.ext _ _ V1), shal_vh R2 V2, qz, fun w g' H' s' R' V' => out w g' H' ((s1.trans R R1 s2).trans R R2 s') R' V'⟩
    | exc c1 x1 h2 => rw [qb] at out; exact OkW.shift R R1 s1 out
    | stuck => rw [qb] at out; exact out
  | exc c1 x1 h1 => rw [qa] at out; exact out
  | stuck => rw [qa] at out; exact out
theorem nd_cmpR (cx : Cxt T k X W sc) {o : Cop} : OpR X (compareOp (co o)) (rCop T.S o) := op_cop cx.K (by have := cx.units; omega) o
theorem mark_of (h : isSet y = false) (op : CmpOp) : behindInMarks op y = false := by
  cases y <;> first | rfl | (simp [isSet] at h)
/-- a comparison: the reading of both sides, then the outcome -/
theorem cmp_read {o : Cop} {σ : L2.St} {H : L2.Hp} {Q : VK} (hq : tE T.S W (evE C (.cmp o a b)) σ H Q) : tOp (rCop T.S o) (tE T.S W (evE C a)) (tE T.S W (evE C b)) σ H Q := by
  obtain ⟨g, f, h, R, Fr, out⟩ := hq
  rw [Ev.evE] at out
  refine tE_bind R Fr ?_
  cases qa : evE C a f h with
  | ok d1 h1 =>
    rw [qa] at out
    intro v g1 H1 s1 R1 V1 F1
    refine tE_bind R1 F1 ?_
    dsimp only at out
    cases qb : evE C b f h1 with
    | ok d2 h2 =>
      rw [qb] at out
      intro u g2 H2 s2 R2 V2 F2
      dsimp only at out
      cases qz : Ev.cmpop h2 o d1 d2 with
      | none => rw [qz] at out; exact False.elim out
      | some z =>
        rw [qz] at out
        exact ⟨g2, h2, _, _, z, R2, VD.mono s2.ext _ _ V1, V2, qz, out (.bl z) g2 H2 (s1.trans R R1 s2) R2 rfl⟩
    | exc c1 x1 h2 => rw [qb] at out; exact OkW.shift R R1 s1 out
    | stuck => rw [qb] at out; exact out
  | exc c1 x1 h1 => rw [qa] at out; exact out
  | stuck => rw [qa] at out; exact out
theorem nd_cmp (cx : Cxt T k X W sc) {o : Cop} (hs : isSet y = false) (ha : PE X x (tE T.S W (evE C a))) (hb : PE X y (tE T.S W (evE C b))) : PE X (.Compare x [co o] [y] pos) (tE T.S W (evE C (.cmp o a b))) :=
  PE.imp (pe_cmpR (nd_cmpR cx) ha hb (mark_of hs _)) fun σ H Q hq => cmp_read hq
/-- from a value that is a truth value to a test -/
theorem tE_test {t : TE} (hq : ∀ σ H Q, tE T.S W (evE C a) σ H Q → t σ H Q) {σ : L2.St} {H : L2.Hp} {Q : Bool → L2.Hp → Prop}
    (h : So.tB T.S W (evT C (.e a)) σ H Q) : tTest t σ H Q := by
  obtain ⟨g, f, h, R, Fr, out⟩ := h
  refine hq σ H _ ⟨g, f, h, R, Fr, ?_⟩
  rw [Ev.evT] at out
  cases q : evE C a f h with
  | ok d h1 =>
    rw [q] at out
    intro v g1 H1 s1 R1 V1
    cases d with
    | bl b => cases V1; exact ⟨b, rfl, out g1 H1 s1 R1⟩
    | _ => exact False.elim out
  | exc c x h1 => rw [q] at out; exact out
  | stuck => rw [q] at out; exact out
theorem nd_cmpT (cx : Cxt T k X W sc) {o : Cop} (hs : isSet y = false) (ha : PE X x (tE T.S W (evE C a))) (hb : PE X y (tE T.S W (evE C b))) : PT X (.Compare x [co o] [y] pos) (So.tB T.S W (evT C (.e (.cmp o a b)))) :=
  PT.imp (pt_cmpR (nd_cmpR cx) ha hb (mark_of hs _)) fun σ H Q hq => tE_test (fun _ _ _ => cmp_read) hq
theorem chn_read {o p : Cop} {σ : L2.St} {H : L2.Hp} {Q : VK} (hq : tE T.S W (evE C (.chn o p a b c)) σ H Q) : tChain (rCop T.S o) (rCop T.S p) (tE T.S W (evE C a)) (tE T.S W (evE C b)) (tE T.S W (evE C c)) σ H Q := by
  obtain ⟨g, f, h, R, Fr, out⟩ := hq
  rw [Ev.evE] at out
  refine tE_bind R Fr ?_
  cases qa : evE C a f h with
  | ok d1 h1 =>
    rw [qa] at out
    intro v g1 H1 s1 R1 V1 F1
    refine tE_bind R1 F1 ?_
    dsimp only at out
    cases qb : evE C b f h1 with
    | ok d2 h2 =>
      rw [qb] at out
      intro u g2 H2 s2 R2 V2 F2
      have s12 := s1.trans R R1 s2
      dsimp only at out
      cases qz : Ev.cmpop h2 o d1 d2 with
      | none => rw [qz] at out; exact False.elim out
      | some t =>
        rw [qz] at out
        refine ⟨g2, h2, _, _, t, R2, VD.mono s2.ext _ _ V1, V2, qz, t, rfl, ?_⟩
        cases t with
        | false =>
          dsimp only at out
          rw [if_neg (by decide)]
          exact out (.bl false) g2 H2 s12 R2 rfl
        | true =>
          dsimp only at out
          rw [if_pos rfl]
          refine tE_bind R2 F2 ?_
          cases qc : evE C c f h2 with
          | ok d3 h3 =>
            rw [qc] at out
            intro w g3 H3 s3 R3 V3 F3
            dsimp only at out
            cases qy : Ev.cmpop h3 p d2 d3 with
            | none => rw [qy] at out; exact False.elim out
            | some t2 =>
              rw [qy] at out
              exact ⟨g3, h3, _, _, t2, R3, VD.mono s3.ext _ _ V2, V3, qy, out (.bl t2) g3 H3 (s12.trans R R2 s3) R3 rfl⟩
          | exc c1 x1 h2 => rw [qc] at out; exact OkW.shift R R2 s12 out
          | stuck => rw [qc] at out; exact out
    | exc c1 x1 h2 => rw [qb] at out; exact OkW.shift R R1 s1 out
    | stuck => rw [qb] at out; exact out
  | exc c1 x1 h1 => rw [qa] at out; exact out
  | stuck => rw [qa] at out; exact out
theorem nd_neg (cx : Cxt T k X W sc) (ha : PE X x (tE T.S W (evE C a))) : PE X (.UnaryOp .USub x pos) (tE T.S W (evE C (.neg a))) := by
  refine PE.imp (pe_un un_neg ha) ?_
  rintro σ H Q ⟨g, f, h, R, Fr, out⟩
  rw [Ev.evE] at out
  refine tE_bind R Fr ?_
  cases qa : evE C a f h with
  | ok d1 h1 =>
    rw [qa] at out
    intro v g1 H1 s1 R1 V1 F1
    cases d1 with
    | int i => cases V1; exact ⟨i, rfl, out _ g1 H1 s1 R1 rfl⟩
    | _ => exact False.elim out
  | exc c1 x1 h1 => rw [qa] at out; exact out
  | stuck => rw [qa] at out; exact out
theorem nd_not (cx : Cxt T k X W sc) (ha : PE X x (tE T.S W (evE C a))) : PE X (.UnaryOp .Not x pos) (tE T.S W (evE C (.not a))) := by
  refine PE.imp (pe_not ha) ?_
  rintro σ H Q ⟨g, f, h, R, Fr, out⟩
  rw [Ev.evE] at out
  refine tE_bind R Fr ?_
  cases qa : evE C a f h with
  | ok d1 h1 =>
    rw [qa] at out
    intro v g1 H1 s1 R1 V1 F1
    cases d1 with
    | bl i => cases V1; exact ⟨i, rfl, out _ g1 H1 s1 R1 rfl⟩
    | _ => exact False.elim out
  | exc c1 x1 h1 => rw [qa] at out; exact out
  | stuck => rw [qa] at out; exact out
theorem nd_ite (cx : Cxt T k X W sc) {t : CT} (ht : PT X x (So.tB T.S W (evT C t))) (ha : PE X y (tE T.S W (evE C a))) (hb : PE X z (tE T.S W (evE C b))) : PE X (.IfExp x y z pos) (tE T.S W (evE C (.ite t a b))) := by
  refine PE.imp (pe_ifExp ht ha hb) ?_
  rintro σ H Q ⟨g, f, h, R, Fr, out⟩
  rw [Ev.evE] at out
  refine tB_bind R Fr ?_
  cases qa : evT C t f h with
  | ok d1 h1 =>
    rw [qa] at out
    intro g1 H1 s1 R1 F1
    cases d1 with
    | true => rw [if_pos rfl]; exact ⟨g1, f, h1, R1, F1, OutE.shift R R1 s1 out⟩
    | false => rw [if_neg (by decide)]; exact ⟨g1, f, h1, R1, F1, OutE.shift R R1 s1 out⟩
  | exc c1 x1 h1 => rw [qa] at out; exact out
  | stuck => rw [qa] at out; exact out
theorem nd_and {es : CEs} {e1 : CE} {ys : List Expr} (hn : es ≠ .nil) (ha : PE X x (tE T.S W (evE C e1))) (hb : PE X (.BoolOp .And (y :: ys) pos) (tE T.S W (evAnd C es))) : PE X (.BoolOp .And (x :: y :: ys) pos) (tE T.S W (evAnd C (.cons e1 es))) := by
  refine PE.imp (pe_and ha hb) ?_
  rintro σ H Q ⟨g, f, h, R, Fr, out⟩
  rw [Ev.evAnd.eq_2 _ _ _ _ _ (fun z => hn z)] at out
  refine tE_bind R Fr ?_
  cases qa : evE C e1 f h with
  | ok d1 h1 =>
    rw [qa] at out
    intro v g1 H1 s1 R1 V1 F1
    cases d1 with
    | bl i =>
      cases V1
      refine ⟨i, rfl, ?_⟩
      cases i with
      | true => rw [if_pos rfl]; exact ⟨g1, f, h1, R1, F1, OutE.shift R R1 s1 out⟩
      | false => rw [if_neg (by decide)]; exact out _ g1 H1 s1 R1 rfl
    | _ => exact False.elim out
  | exc c1 x1 h1 => rw [qa] at out; exact out
  | stuck => rw [qa] at out; exact out
theorem nd_or {es : CEs} {e1 : CE} {ys : List Expr} (hn : es ≠ .nil) (ha : PE X x (tE T.S W (evE C e1))) (hb : PE X (.BoolOp .Or (y :: ys) pos) (tE T.S W (evOr C es))) : PE X (.BoolOp .Or (x :: y :: ys) pos) (tE T.S W (evOr C (.cons e1 es))) := by
  refine PE.imp (pe_or ha hb) ?_
  rintro σ H Q ⟨g, f, h, R, Fr, out⟩
  rw [Ev.evOr.eq_2 _ _ _ _ _ (fun z => hn z)] at out
  refine tE_bind R Fr ?_
  cases qa : evE C e1 f h with
  | ok d1 h1 =>
    rw [qa] at out
    intro v g1 H1 s1 R1 V1 F1
    cases d1 with
    | bl i =>
      cases V1
      refine ⟨i, rfl, ?_⟩
      cases i with
      | true => rw [if_pos rfl]; exact out _ g1 H1 s1 R1 rfl
      | false => rw [if_neg (by decide)]; exact ⟨g1, f, h1, R1, F1, OutE.shift R R1 s1 out⟩
    | _ => exact False.elim out
  | exc c1 x1 h1 => rw [qa] at out; exact out
  | stuck => rw [qa] at out; exact out
theorem nd_tup (cx : Cxt T k X W sc) {es : CEs} {vs : List Expr} {j : Nat} (ha : PA X vs (tL T.S W (evL C es))) : PE X (.Tuple vs j pos) (tE T.S W (evE C (.tup es))) := by
  refine PE.imp (pe_tup ha) ?_
  rintro σ H Q ⟨g, f, h, R, Fr, out⟩
  rw [Ev.evE] at out
  refine tL_bind R Fr ?_
  cases qa : evL C es f h with
  | ok ds h1 =>
    rw [qa] at out
    intro vs g1 H1 s1 R1 V1 F1
    dsimp only at out
    split at out
    · rename_i hl
      refine ⟨by rw [← VDs.length V1]; exact lim_of hl, fun p hp => ?_⟩
      obtain ⟨g2, R2, s2, V2⟩ := new_tup R1 hp V1
      exact out _ g2 _ (s1.trans R R1 s2) R2 V2
    · exact False.elim out
  | exc c1 x1 h1 => rw [qa] at out; exact out
  | stuck => rw [qa] at out; exact out
theorem nd_ix (cx : Cxt T k X W sc) (hs : isSlice y = false) (ha : PE X x (tE T.S W (evE C a))) (hb : PE X y (tE T.S W (evE C b))) : PE X (.Subscript x y pos) (tE T.S W (evE C (.ix a b))) := by
  refine PE.imp (pe_ix (ix_all (S := T.S) cx.K) ha hb (fun o i => by cases y <;> first | rfl | (simp [isSlice] at hs))) ?_
  rintro σ H Q ⟨g, f, h, R, Fr, out⟩
  rw [Ev.evE] at out
  refine tE_bind R Fr ?_
  cases qa : evE C a f h with
  | ok d1 h1 =>
    rw [qa] at out
    intro v g1 H1 s1 R1 V1 F1
    refine tE_bind R1 F1 ?_
    dsimp only at out
    cases qb : evE C b f h1 with
    | ok d2 h2 =>
      rw [qb] at out
      intro u g2 H2 s2 R2 V2 F2
      dsimp only at out
      cases qz : Ev.item (Ev.shal h2 d1) d2 with
      | none => rw [qz] at out; exact False.elim out
      | some z =>
        rw [qz] at out
        exact ⟨g2, h2, _, _, z, R2, shal_vh R2 (VD.mono s2.ext _ _ V1), V2, qz, fun w V' => out w g2 H2 (s1.trans R R1 s2) R2 V'⟩
    | exc c1 x1 h2 => rw [qb] at out; exact OkW.shift R R1 s1 out
    | stuck => rw [qb] at out; exact out
  | exc c1 x1 h1 => rw [qa] at out; exact out
  | stuck => rw [qa] at out; exact out
/-- a part of a slice -/
def tO (S : Sx) (W : WX) (ev : Ev.Fr → Mem → Option (Option Int × Mem)) : TO := fun σ H Q => ∃ g f h, Rel S g h H ∧ FrR S g f σ ∧ ∃ o h1, ev f h = some (o, h1) ∧ ∀ g1 H1, Step g h H g1 h1 H1 → Rel S g1 h1 H1 → Q o H1
theorem PO.imp {o : Option Expr} {t t' : TO} (p : PO X o t) (k : ∀ σ H Q, t' σ H Q → t σ H Q) : PO X o t' := ⟨fun pins s σ H Q I h => p.run pins s σ H Q I (k σ H Q h)⟩
theorem nd_no : PO X none (tO T.S W (evO C .no)) := PO.imp po_none fun σ H Q ⟨g, f, h, R, F0, o, h1, e, q⟩ => by
  rw [Ev.evO] at e
  cases e
  exact q g H (Step.refl R) R
theorem nd_so (ha : PE X x (tE T.S W (evE C a))) : PO X (some x) (tO T.S W (evO C (.so a))) := by
  refine PO.imp (po_some ha) ?_
  rintro σ H Q ⟨g, f, h, R, Fr, o, h1, e, q⟩
  rw [Ev.evO] at e
  refine tE_bind R Fr ?_
  cases qa : evE C a f h with
  | ok d1 h2 =>
    rw [qa] at e
    intro v g1 H1 s1 R1 V1 F1
    cases d1 with
    | int i =>
      cases e
      cases V1
      exact ⟨i, rfl, q g1 H1 s1 R1⟩
    | _ => cases e
  | exc c1 x1 h1 => rw [qa] at e; cases e
  | stuck => rw [qa] at e; cases e
theorem nd_sl (cx : Cxt T k X W sc) {l u : Option Expr} {lo hi : CO} {p2 : Pos} (ha : PE X x (tE T.S W (evE C a))) (hl : PO X l (tO T.S W (evO C lo))) (hu : PO X u (tO T.S W (evO C hi))) :
    PE X (.Subscript x (.Slice l u none p2) pos) (tE T.S W (evE C (.sl a lo hi))) := by
  refine PE.imp (pe_slice (sl_all (S := T.S) cx.K) ha hl hu) ?_
  rintro σ H Q ⟨g, f, h, R, Fr, out⟩
  rw [Ev.evE] at out
  refine tE_bind R Fr ?_
  cases qa : evE C a f h with
  | ok d1 h1 =>
    rw [qa] at out
    intro v g1 H1 s1 R1 V1 F1
    dsimp only at out
    cases qb : evO C lo f h1 with
    | none => rw [qb] at out; exact False.elim out
    | some r1 =>
      obtain ⟨o1, h2⟩ := r1
      rw [qb] at out
      refine ⟨g1, f, h1, R1, F1, o1, h2, qb, fun g2 H2 s2 R2 => ?_⟩
      dsimp only at out
      cases qc : evO C hi f h2 with
      | none => rw [qc] at out; exact False.elim out
      | some r2 =>
        obtain ⟨o2, h3⟩ := r2
        rw [qc] at out
        refine ⟨g2, f, h2, R2, F1.mono s2.ext, o2, h3, qc, fun g3 H3 s3 R3 => ?_⟩
        dsimp only at out
        cases qz : Ev.slice (Ev.shal h3 d1) o1 o2 with
        | none => rw [qz] at out; exact False.elim out
        | some z =>
          rw [qz] at out
          have s13 := (s1.trans R R1 s2).trans R R2 s3
          exact ⟨g3, h3, _, z, R3, shal_vh R3 (VD.mono s3.ext _ _ (VD.mono s2.ext _ _ V1)), qz, fun w g' H' s' R' V' => out w g' H' (s13.trans R R3 s') R' V'⟩
  | exc c1 x1 h1 => rw [qa] at out; exact out
  | stuck => rw [qa] at out; exact out
theorem nd_frz (cx : Cxt T k X W sc) (ha : PE X x (tE T.S W (evE C a))) : PE X x (tE T.S W (evE C (.frz a))) := by
  refine PE.imp ha ?_
  rintro σ H Q ⟨g, f, h, R, Fr, out⟩
  rw [Ev.evE] at out
  refine tE_bind R Fr ?_
  cases qa : evE C a f h with
  | ok d1 h1 =>
    rw [qa] at out
    intro v g1 H1 s1 R1 V1 F1
    cases d1 with
    | loc n =>
      dsimp only at out
      cases qb : h1[n]? with
      | none => rw [qb] at out; exact False.elim out
      | some ob =>
        rw [qb] at out
        cases ob with
        | box d =>
          obtain ⟨a1, e1, e2⟩ := V1
          subst e1
          cases d with
          | lst ds =>
            obtain ⟨a2, vs, f1, f2, f3, R2, E2, V2⟩ := R1.gone qb
            have f0 := f1
            rw [e2] at f0
            cases f0
            exact out _ _ H1 (s1.trans R R1 (Step.gone R1 E2 rfl f1 ⟨_, qb, by intro z; cases z⟩)) R2 V2
          | _ => exact False.elim (R1.ob n _ _ e2 qb)
        | _ => exact False.elim out
    | _ => exact False.elim out
  | exc c1 x1 h1 => rw [qa] at out; exact out
  | stuck => rw [qa] at out; exact out
end
end So
end
section
set_option Elab.async false
set_option autoImplicit false
set_option linter.all false
/-! S9: names, arguments, calls, new lists. -/
namespace So
open PySem PySem.Spec PyProof.Rows L2
open Ev (D Ob Mem R RS RL RB Bop Cop Bi Mt CE CEs CT CTs FE Src CO Tg Tgs evE evL evT evF evO evAnd evOr evTA evTO evSrc)

section
variable {S : Sx} {g g' : G} {h h' : Mem} {H H' H0 : L2.Hp} {p : Addr}
theorem Step.back (st : Step g h H g' h' H') (hp : H' p = none) : H p = none := by
  cases q : H p with
  | none => rfl
  | some o =>
    obtain ⟨o', e⟩ := st.there p o q
    rw [hp] at e; cases e
/-- what is of no concern is written -/
theorem Rel.other {o : HO} (r : Rel S g h H) (hf : g.F p = none) (nb : ∀ n, g.μ[n]? = some p → ¬ live h n) : Rel S g h (upd H p o) := by
  refine ⟨fun a u e => ?_, r.len, fun n a u e q => ?_, r.sep, r.inj⟩
  · rw [upd_ne (fun z => by rw [z, hf] at e; cases e)]; exact r.fz a u e
  · have x := r.ob n a u e q
    cases u with
    | gone => exact trivial
    | ins c fs => exact False.elim x
    | box d =>
      cases d with
      | lst ds =>
        obtain ⟨vs, e1, e2⟩ := x
        refine ⟨vs, ?_, e2⟩
        rw [upd_ne (fun z => nb n (by rw [← z]; exact e) ⟨_, q, by intro k; cases k⟩)]
        exact e1
      | _ => exact False.elim x
theorem Step.other {o : HO} (st : Step g h H0 g' h' H) (hp : H0 p = none) : Step g h H0 g' h' (upd H p o) := by
  have ne : ∀ b u, H0 b = some u → b ≠ p := fun b u e z => by rw [z, hp] at e; cases e
  refine ⟨st.ext, st.dead, st.fresh, fun b u e nb => ?_, fun b u e => ?_, st.frz⟩
  · rw [upd_ne (ne b u e)]; exact st.keep b u e nb
  · obtain ⟨o', k⟩ := st.there b u e
    exact ⟨o', by rw [upd_ne (ne b u e)]; exact k⟩
end

section
variable {T : Tx} {k : Nat} {X : Cx} {W : WX} {sc : Sc} {C : Ev.Cx} {x y z : Expr} {a b c : CE} {pos : Pos} {es : CEs} {vs : List Expr}

/-! ### names and constants -/
theorem nd_c (cx : Cxt T k X W sc) {d : D} {cn : Const} {j : Nat} (hc : ckC d cn = true) : PE X (.Constant cn j pos) (tE T.S W (evE C (.c d))) := by
  cases d <;> cases cn <;> simp only [ckC] at hc <;> try (cases hc; done)
  · refine PE.imp pe_non ?_
    rintro σ H Q ⟨g, f, h, R, Fr, out⟩
    rw [Ev.evE] at out
    exact out _ g H (Step.refl R) R rfl
  · rename_i p q
    have : p = q := by simpa using hc
    subst this
    refine PE.imp pe_bl ?_
    rintro σ H Q ⟨g, f, h, R, Fr, out⟩
    rw [Ev.evE] at out
    exact out _ g H (Step.refl R) R rfl
  · have := of_decide_eq_true hc
    subst this
    refine PE.imp pe_int ?_
    rintro σ H Q ⟨g, f, h, R, Fr, out⟩
    rw [Ev.evE] at out
    exact out _ g H (Step.refl R) R rfl
  · simp only [Bool.and_eq_true, decide_eq_true_eq, List.all_eq_true] at hc
    obtain ⟨e, o⟩ := hc
    subst e
    refine PE.imp pe_str ?_
    rintro σ H Q ⟨g, f, h, R, Fr, out⟩
    rw [Ev.evE] at out
    exact out _ g H (Step.refl R) R ⟨rfl, o⟩
theorem nd_v (cx : Cxt T k X W sc) {i : Nat} {n : Str} (hv : varB sc i n = true) : PE X (.Name n pos) (tE T.S W (evE C (.v i))) := by
  unfold varB at hv
  simp only [Bool.and_eq_true, decide_eq_true_eq, Bool.not_eq_true'] at hv
  obtain ⟨⟨⟨h1, h2⟩, h3⟩, h4⟩ := hv
  have vis : Vis X.env.scope n := by
    unfold Vis
    rw [cx.nm]
    unfold visB at h2
    split at h2 <;> rename_i q
    · exact .inl q
    · exact .inr (.inl q)
    · exact .inr (.inr q)
    · cases h2
  refine PE.imp (pe_var (i := i) (by rw [cx.N]; exact h1) vis h3 h4) ?_
  rintro σ H Q ⟨g, f, h, R, Fr, out⟩
  rw [Ev.evE] at out
  split at out
  · rename_i d q
    obtain ⟨v, e, V⟩ := Fr.2 i d q
    exact ⟨v, e, out v g H (Step.refl R) R V⟩
  · exact False.elim out
theorem nd_g (cx : Cxt T k X W sc) {i : Nat} {n : Str} (hi : sc.gl[i]? = some n) (hg : glB sc n = true) : PE X (.Name n pos) (tE T.S W (evE (T.cx k) (.g i))) := by
  obtain ⟨g1, g2⟩ := cx.gl_of hg
  have hi' : T.gl[i]? = some n := by rw [← cx.gl]; exact hi
  cases q : T.Pg.glob[i]? with
  | none =>
    refine ⟨fun pins s σ H Q I hq => ?_⟩
    obtain ⟨g, f, h, R, Fr, out⟩ := hq
    rw [Ev.evE] at out
    have e : (T.cx k).glob i = T.Pg.glob[i]? := rfl
    rw [e, q] at out
    exact False.elim out
  | some d =>
    obtain ⟨u, v, e1, e2, e3⟩ := cx.ok.glob i n d hi' q
    refine PE.imp (pe_glob (v := v) g1 (by rw [cx.mg]; exact e1) e2 g2) ?_
    rintro σ H Q ⟨g, f, h, R, Fr, out⟩
    rw [Ev.evE] at out
    have e : (T.cx k).glob i = T.Pg.glob[i]? := rfl
    rw [e, q] at out
    exact out v g H (Step.refl R) R (e3 g)
theorem nd_f (cx : Cxt T k X W sc) {i : Nat} {n : Str} (hi : sc.fs[i]? = some n) (hg : glB sc n = true) : PE X (.Name n pos) (tE T.S W (evE C (.f i))) := by
  obtain ⟨g1, g2⟩ := cx.gl_of hg
  obtain ⟨e1, _⟩ := cx.ok.defs i n (by rw [← cx.fs]; exact hi)
  refine PE.imp (pe_glob (v := .ref (T.S.fa i)) g1 (by rw [cx.mg]; exact e1) rfl g2) ?_
  rintro σ H Q ⟨g, f, h, R, Fr, out⟩
  rw [Ev.evE] at out
  exact out _ g H (Step.refl R) R rfl

/-! ### arguments -/
theorem nd_nil : PA X [] (tL T.S W (evL C .nil)) := PA.imp pa_nil fun σ H Q ⟨g, f, h, R, Fr, out⟩ => by
  rw [Ev.evL] at out
  exact out [] g H (Step.refl R) R rfl
theorem nd_cons (hs : noStar [x] = true) (ha : PE X x (tE T.S W (evE C a))) (hr : PA X vs (tL T.S W (evL C es))) : PA X (x :: vs) (tL T.S W (evL C (.cons a es))) := by
  refine PA.imp (pa_cons ha hr (noStar_cons hs)) ?_
  rintro σ H Q ⟨g, f, h, R, Fr, out⟩
  rw [Ev.evL] at out
  refine tE_bind R Fr ?_
  cases qa : evE C a f h with
  | ok d1 h1 =>
    rw [qa] at out
    intro v g1 H1 s1 R1 V1 F1
    refine tL_bind R1 F1 ?_
    dsimp only at out
    cases qb : evL C es f h1 with
    | ok ds h2 =>
      rw [qb] at out
      intro us g2 H2 s2 R2 V2 F2
      exact out _ g2 H2 (s1.trans R R1 s2) R2 (VDs.cons (VD.mono s2.ext _ _ V1) V2)
    | exc c1 x1 h2 => rw [qb] at out; exact OkW.shift R R1 s1 out
    | stuck => rw [qb] at out; exact out
  | exc c1 x1 h1 => rw [qa] at out; exact out
  | stuck => rw [qa] at out; exact out
theorem nd_star (cx : Cxt T k X W sc) {p : Pos} (ha : PE X x (tE T.S W (evE C a))) (hr : PA X vs (tL T.S W (evL C es))) : PA X (.Starred x p :: vs) (tL T.S W (evL C (.star a es))) := by
  refine PA.imp (StX.pa_star ha hr rfl) ?_
  rintro σ H Q ⟨g, f, h, R, Fr, out⟩
  rw [Ev.evL] at out
  refine tE_bind R Fr ?_
  cases qa : evE C a f h with
  | ok d1 h1 =>
    rw [qa] at out
    intro v g1 H1 s1 R1 V1 F1
    dsimp only at out
    have vh := shal_vh R1 V1
    cases qs : Ev.seqD (Ev.shal h1 d1) with
    | none => rw [qs] at out; exact False.elim out
    | some xs =>
      rw [qs] at out
      dsimp only at out
      obtain ⟨p1, ws, e1, sq, w⟩ : ∃ p1 ws, v = V.ref p1 ∧ (SqT X.K H1 p1 ws ∨ SqL X.K H1 p1 ws) ∧ VDs T.S g1 xs ws := by
        unfold Ev.seqD at qs
        split at qs
        · rename_i q
          rw [q] at vh
          cases qs
          obtain ⟨p1, ws, e1, e2, e3⟩ := vh
          exact ⟨p1, ws, e1, .inl (by rw [cx.K]; exact sqT_mono R1.fz e2), e3⟩
        · rename_i q
          rw [q] at vh
          cases qs
          obtain ⟨p1, ws, e1, e2, e3⟩ := vh
          exact ⟨p1, ws, e1, .inr (.of e2), e3⟩
        · cases qs
      refine ⟨p1, ws, e1, sq, tL_bind R1 F1 ?_⟩
      cases qb : evL C es f h1 with
      | ok ds h2 =>
        rw [qb] at out
        intro us g2 H2 s2 R2 V2 F2
        exact out _ g2 H2 (s1.trans R R1 s2) R2 (VDs.append (VDs.mono s2.ext _ _ w) V2)
      | exc c1 x1 h2 => rw [qb] at out; exact OkW.shift R R1 s1 out
      | stuck => rw [qb] at out; exact out
  | exc c1 x1 h1 => rw [qa] at out; exact out
  | stuck => rw [qa] at out; exact out

/-! ### calls -/
/-- a def of the text, by its place -/
theorem run_def (cx : Cxt T k X W sc) {f : Nat} {pins : List (Addr × Obj)} {σ : L2.St} {H : L2.Hp} {s : Shared} {Q : VK} {us : List Value} {ws : List V} {g : G} {h : Mem} {ds : List D}
    (I : Inv X pins σ H s) (r : Vals ws us) (R : Rel T.S g h H) (w : VDs T.S g ds ws) (out : OutE T.S W σ g h H Q (Ev.callF T.Pg k f ds h)) : wpAny (model X.prog X.w) X.A (call (.ref (T.S.fa f)) us) (EP X pins σ Q) X.xe s := by
  have e0 : Env0 T.P T.w T.S.K T.mg T.base X.A X.stack s H := by
    have := I.env0
    rw [cx.prog, cx.w, cx.K, cx.mg, cx.base] at this
    exact this
  refine wpAny_call (codeAny_mono (R := CR (L2N.CX X.prog X.w) X.stack X.prog X.w H s Q (WE W σ)) ?_ fun res s' hq => ?_)
  · have := cx.ok.run f X.A X.stack s H us ws g h ds Q (WE W σ) cx.rm cx.gd e0 r R w ?_
    · rw [cx.prog, cx.w]; exact this
    · cases q : Ev.callF T.Pg k f ds h with
      | ok d h1 => rw [q] at out; exact out
      | exc c1 x1 h1 => rw [q] at out; exact out
      | stuck => rw [q] at out; exact out
  · cases res with
    | error e => exact L2N.passAt cx.tk σ pins H s e s' I hq
    | ok fl =>
      cases fl with
      | ret u => exact I.after hq
      | next => exact False.elim hq
      | brk => exact False.elim hq
      | cont => exact False.elim hq
theorem nd_call (cx : Cxt T k X W sc) {f : Nat} {n : Str} {np : Pos} (hf : sc.fs[f]? = some n) (hg : glB sc n = true) (hs : noStar vs = true) (h0 : vs = [] → es = .nil) (ha : PA X vs (tL T.S W (evL (T.cx k) es))) :
    PE X (.Call (.Name n np) vs [] pos) (tE T.S W (evE (T.cx k) (.call f es))) := by
  obtain ⟨g1, g2⟩ := cx.gl_of hg
  obtain ⟨e1, e2⟩ := cx.ok.defs f n (by rw [← cx.fs]; exact hf)
  refine ⟨fun pins s σ H Q I hq => ?_⟩
  obtain ⟨g, fr, h, R, Fr, out⟩ := hq
  rw [Ev.evE] at out
  refine wpAny_Call_Name_kw (ld_glob I g1 (by rw [cx.mg]; exact e1) ?_ g2)
  have hkp : PySem.W.keepIn X.K (.ref (T.S.fa f)) = true := by rw [cx.K]; exact e2
  -- what comes when the arguments stand
  have fin : tL T.S W (evL (T.cx k) es) σ H fun ws H1 => ∃ g1 h1 ds, Rel T.S g1 h1 H1 ∧ VDs T.S g1 ds ws ∧ OutE T.S W σ g1 h1 H1 Q (Ev.callF T.Pg k f ds h1) := by
    refine tL_bind R Fr ?_
    cases qa : evL (T.cx k) es fr h with
    | ok ds h1 =>
      rw [qa] at out
      intro ws g1 H1 s1 R1 V1 F1
      exact ⟨g1, h1, ds, R1, V1, OutE.shift R R1 s1 out⟩
    | exc c1 x1 h1 => rw [qa] at out; exact out
    | stuck => rw [qa] at out; exact out
  cases vs with
  | nil =>
    refine PySem.W.callWith_K0 I.kIn hkp ?_
    have := h0 rfl
    subst this
    rw [Ev.evL] at out
    exact run_def cx I .nil R (ds := []) rfl out
  | cons v r =>
    obtain ⟨n1, n2⟩ := noStar_head hs
    refine PySem.W.callWith_K (h₀ := X.base) I.ok.mod.kin hkp (thn (ha.run pos pins s σ H _ I fin) fun us s1 ⟨ws, H1, I1, r1, q⟩ => ⟨I1.kIn, ?_⟩) (noStar_cons n1) (noStar_any n2)
    obtain ⟨g1, h1, ds, R1, V1, out1⟩ := q
    exact run_def cx I1 r1 R1 V1 out1
theorem nd_callv (cx : Cxt T k X W sc) {fe v : Expr} {r : List Expr} (hf : isSub fe = true) (hs : noStar (v :: r) = true) (hfe : PE X fe (tE T.S W (evE (T.cx k) a))) (ha : PA X (v :: r) (tL T.S W (evL (T.cx k) es)))
    (hkp : ∀ f : Nat, PySem.W.keepIn X.K (.ref (T.S.fa f)) = true) : PE X (.Call fe (v :: r) [] pos) (tE T.S W (evE (T.cx k) (.callv a es))) := by
  obtain ⟨n1, n2⟩ := noStar_head hs
  refine ⟨fun pins s σ H Q I hq => ?_⟩
  obtain ⟨g, fr, h, R, Fr, out⟩ := hq
  rw [Ev.evE] at out
  have rd : tE T.S W (evE (T.cx k) a) σ H fun y H1 => ∃ f g1 h1, y = .ref (T.S.fa f) ∧ Rel T.S g1 h1 H1 ∧ FrR T.S g1 fr σ ∧ OutE T.S W σ g1 h1 H1 Q (match evL (T.cx k) es fr h1 with
      | .ok ds h2 => (T.cx k).call f ds h2
      | .exc c x h1 => .exc c x h1
      | .stuck => .stuck) := by
    refine tE_bind R Fr ?_
    cases qa : evE (T.cx k) a fr h with
    | ok d h1 =>
      rw [qa] at out
      intro y g1 H1 s1 R1 V1 F1
      cases d with
      | fn f => exact ⟨f, g1, h1, V1, R1, F1, OutE.shift R R1 s1 out⟩
      | _ => exact False.elim out
    | exc c1 x1 h1 => rw [qa] at out; exact out
    | stuck => rw [qa] at out; exact out
  refine Call_ (thn (hfe.run pins s σ H _ I rd) fun u s1 ⟨y, H1, I1, ry, f, g1, h1, ey, R1, F1, out1⟩ => ?_) (by cases fe <;> first | rfl | (simp [isSub] at hf))
  subst ey
  obtain rfl : u = Value.ref (T.S.fa f) := ry
  have fin : tL T.S W (evL (T.cx k) es) σ H1 fun ws H2 => ∃ g2 h2 ds, Rel T.S g2 h2 H2 ∧ VDs T.S g2 ds ws ∧ OutE T.S W σ g2 h2 H2 Q (Ev.callF T.Pg k f ds h2) := by
    refine tL_bind R1 F1 ?_
    cases qa : evL (T.cx k) es fr h1 with
    | ok ds h2 =>
      rw [qa] at out1
      intro ws g2 H2 s2 R2 V2 F2
      exact ⟨g2, h2, ds, R2, V2, OutE.shift R1 R2 s2 out1⟩
    | exc c1 x1 h1 => rw [qa] at out1; exact out1
    | stuck => rw [qa] at out1; exact out1
  refine PySem.W.callWith_K (h₀ := X.base) I1.ok.mod.kin (hkp f) (thn (ha.run pos pins s1 σ H1 _ I1 fin) fun us s2 ⟨ws, H2, I2, r1, q⟩ => ⟨I2.kIn, ?_⟩) (noStar_cons n1) (noStar_any n2)
  obtain ⟨g2, h2, ds, R2, V2, out2⟩ := q
  exact run_def cx I2 r1 R2 V2 out2

/-! ### built-in functions -/
/-- from a rule by values to the reading of its call -/
theorem bi_read {bi : Bi} {σ : L2.St} {H : L2.Hp} {Q : VK} (hq : tE T.S W (evE C (.bi bi es)) σ H Q) : tCB (rBi T.S bi) (tL T.S W (evL C es)) σ H Q := by
  obtain ⟨g, f, h, R, Fr, out⟩ := hq
  rw [Ev.evE] at out
  refine tL_bind R Fr ?_
  cases qa : evL C es f h with
  | ok ds h1 =>
    rw [qa] at out
    intro ws g1 H1 s1 R1 V1 F1
    dsimp only at out
    cases qb : Ev.biF bi ds h1 with
    | none => rw [qb] at out; exact False.elim out
    | some d =>
      rw [qb] at out
      exact ⟨g1, h1, ds, d, R1, V1, qb, fun v g' H' s' R' V' => out v g' H' (s1.trans R R1 s') R' V'⟩
  | exc c1 x1 h1 => rw [qa] at out; exact out
  | stuck => rw [qa] at out; exact out
theorem nd_bi (cx : Cxt T k X W sc) {bi : Bi} {n : Str} {np : Pos} {v : Expr} {r : List Expr} (hn : biN bi = n) (hg : glB sc n = true) (he : (n == ("" : Str)) = false) (hs : noStar (v :: r) = true) (ha : PA X (v :: r) (tL T.S W (evL C es))) :
    PE X (.Call (.Name n np) (v :: r) [] pos) (tE T.S W (evE C (.bi bi es))) := by
  obtain ⟨g1, g2⟩ := cx.gl_of hg
  obtain ⟨n1, n2⟩ := noStar_head hs
  have mn : ∀ x ∈ used, X.mg x = none := fun x hx => by rw [cx.mg]; exact cx.ok.blt x hx
  have hu := cx.units
  have h1 := noStar_cons (r := r) (env := X.env) n1
  have h2 := noStar_any (env := X.env) (pos := pos) n2
  subst hn
  cases bi
  case len => exact PE.imp (pe_callB (cr_len (S := T.S) cx.K) g1 (mn "len" (by decide)) PySem.boot_len ha (by decide) g2 h1 h2) fun _ _ _ hq => bi_read hq
  case abs => exact PE.imp (pe_callB (cr_abs (S := T.S)) g1 (mn "abs" (by decide)) (by decide +kernel) ha (by decide) g2 h1 h2) fun _ _ _ hq => bi_read hq
  case int_ => exact PE.imp (pe_callTy (cr_int (S := T.S)) g1 (mn "int" (by decide)) (by decide +kernel) ha (by decide) g2 h1 h2) fun _ _ _ hq => bi_read hq
  case str_ => exact PE.imp (pe_callTy (cr_str (S := T.S)) g1 (mn "str" (by decide)) (by decide +kernel) ha (by decide) g2 h1 h2) fun _ _ _ hq => bi_read hq
  case repr => exact PE.imp (pe_callB (cr_repr (S := T.S) cx.K cx.gd (by omega)) g1 (mn "repr" (by decide)) (by decide +kernel) ha (by decide) g2 h1 h2) fun _ _ _ hq => bi_read hq
  case sum => exact PE.imp (pe_callB (cr_sum' (S := T.S) cx.K cx.calm) g1 (mn "sum" (by decide)) (by decide +kernel) ha (by decide) g2 h1 h2) fun _ _ _ hq => bi_read hq
  case max1 => exact PE.imp (pe_callB (cr_max1 (S := T.S) cx.K cx.calm) g1 (mn "max" (by decide)) (by decide +kernel) ha (by decide) g2 h1 h2) fun _ _ _ hq => bi_read hq
  case max2 => exact PE.imp (pe_callB (cr_max2 (S := T.S) cx.calm) g1 (mn "max" (by decide)) (by decide +kernel) ha (by decide) g2 h1 h2) fun _ _ _ hq => bi_read hq
  case min1 => exact PE.imp (pe_callB (cr_min1 (S := T.S) cx.K cx.calm) g1 (mn "min" (by decide)) (by decide +kernel) ha (by decide) g2 h1 h2) fun _ _ _ hq => bi_read hq
  case min2 => exact PE.imp (pe_callB (cr_min2 (S := T.S) cx.calm) g1 (mn "min" (by decide)) (by decide +kernel) ha (by decide) g2 h1 h2) fun _ _ _ hq => bi_read hq
  case all => exact PE.imp (pe_callB (cr_all' (S := T.S) cx.K cx.calm) g1 (mn "all" (by decide)) (by decide +kernel) ha (by decide) g2 h1 h2) fun _ _ _ hq => bi_read hq
  case any => exact PE.imp (pe_callB (cr_any' (S := T.S) cx.K cx.calm) g1 (mn "any" (by decide)) (by decide +kernel) ha (by decide) g2 h1 h2) fun _ _ _ hq => bi_read hq
  case tuple_ => exact PE.imp (pe_callTy (cr_tuple (S := T.S) cx.K) g1 (mn "tuple" (by decide)) (by decide +kernel) ha (by decide) g2 h1 h2) fun _ _ _ hq => bi_read hq
  case lenset => exact absurd he (by decide)
  case join => exact absurd he (by decide)

/-! ### methods of lists -/
theorem base_of (h : plainO x = true) (n : Str) : attributeBase x n X.env (eval x X.env) = eval x X.env := by
  cases x <;> first | rfl | (simp [plainO] at h)
/-- the reading of a method's call -/
theorem mt_read {m : Mt} (hm : ∀ d ds h, Ev.mtf m d ds h = Ev.mtb m d ds h) (cx : Cxt T k X W sc) {σ : L2.St} {H : L2.Hp} {Q : VK} (hq : tE T.S W (evE C (.mt m a es)) σ H Q) :
    tE T.S W (evE C a) σ H fun x H1 => tyV X.K "list" x H1 ∧ tL T.S W (evL C es) σ H1 fun xs H2 => rMt T.S m x xs H2 Q := by
  obtain ⟨g, f, h, R, Fr, out⟩ := hq
  rw [Ev.evE] at out
  refine tE_bind R Fr ?_
  cases qa : evE C a f h with
  | ok d1 h1 =>
    rw [qa] at out
    intro v g1 H1 s1 R1 V1 F1
    dsimp only at out
    have vh := shal_vh R1 V1
    cases qs : Ev.shal h1 d1 with
    | lst t =>
      rw [qs] at out vh
      obtain ⟨p1, ws, e1, e2, e3⟩ := vh
      subst e1
      refine ⟨.inl ⟨rfl, ws, .of e2⟩, tL_bind R1 F1 ?_⟩
      dsimp only at out
      cases qb : evL C es f h1 with
      | ok ds h2 =>
        rw [qb] at out
        intro us g2 H2 s2 R2 V2 F2
        dsimp only at out
        rw [hm] at out
        cases qc : Ev.mtb m d1 ds h2 with
        | none => rw [qc] at out; exact False.elim out
        | some r =>
          obtain ⟨z, h3⟩ := r
          rw [qc] at out
          exact ⟨g2, h2, d1, ds, z, h3, R2, VD.mono s2.ext _ _ V1, V2, qc, fun w g' H' s' R' V' => out w g' H' ((s1.trans R R1 s2).trans R R2 s') R' V'⟩
      | exc c1 x1 h2 => rw [qb] at out; exact OkW.shift R R1 s1 out
      | stuck => rw [qb] at out; exact out
    | _ => rw [qs] at out; exact False.elim out
  | exc c1 x1 h1 => rw [qa] at out; exact out
  | stuck => rw [qa] at out; exact out
theorem read_nil (hq : ∀ σ H (Q : List V → L2.Hp → Prop), tL T.S W (evL C .nil) σ H Q → Q [] H) : True := trivial
theorem tL_nil {σ : L2.St} {H : L2.Hp} {Q : List V → L2.Hp → Prop} (hq : tL T.S W (evL C .nil) σ H Q) : Q [] H := by
  obtain ⟨g, f, h, R, Fr, out⟩ := hq
  rw [Ev.evL] at out
  exact out [] g H (Step.refl R) R rfl
theorem nd_mt (cx : Cxt T k X W sc) {m : Mt} {n : Str} {ap : Pos} (hn : mtN m = n) (he : (n == ("" : Str)) = false) (hp : plainO x = true) (hs : noStar vs = true) (hl : (ap.endLine == pos.line) = true) (h1 : vs.length ≤ 1) (h0 : vs = [] → es = .nil)
    (ho : PE X x (tE T.S W (evE C a))) (ha : PA X vs (tL T.S W (evL C es))) (hmz : m = .pop0 → vs = []) (hm1 : vs = [] → m = .pop0) : PE X (.Call (.Attribute x n ap) vs [] pos) (tE T.S W (evE C (.mt m a es))) := by
  have hb := base_of (X := X) hp n
  subst hn
  match vs, h1 with
  | [], _ =>
    have := h0 rfl
    subst this
    have := hm1 rfl
    subst this
    refine PE.imp (pe_bm0 PySem.F.plainAttrs_list PySem.F.slot_list_pop PySem.F.type_list_pop (mt_pop' (S := T.S) (X := X)) ho hb hl) fun σ H Q hq => ?_
    have := mt_read (m := .pop0) (fun _ _ _ => rfl) cx hq
    obtain ⟨g, f, h, R, Fr, out⟩ := this
    refine ⟨g, f, h, R, Fr, ?_⟩
    cases q : evE C a f h with
    | ok d h2 =>
      rw [q] at out
      exact fun v g' H' s' R' V' => ⟨(out v g' H' s' R' V').1, tL_nil (out v g' H' s' R' V').2⟩
    | exc c1 x1 h1 => rw [q] at out; exact out
    | stuck => rw [q] at out; exact out
  | [v], _ =>
    have n1 : noStar [v] = true := hs
    have s1 := noStar_cons (r := []) (env := X.env) n1
    have few : ((backTo pos (starEach [v] X.env)).all (fun x => !x.1) && (backToKw pos (keywordEach [] X.env)).all (fun x => x.1.isSome) && decide (([v] : List Expr).length + ([] : List Keyword).length + (if ([] : List Keyword).isEmpty then 0 else 1) < 30)) = true := by
      rw [s1]; rfl
    cases m
    case append => exact PE.imp (pe_bm PySem.F.plainAttrs_list PySem.F.slot_list_append PySem.F.type_list_append (mt_append' (S := T.S) (X := X)) ho ha hb few hl s1 rfl) fun σ H Q hq => mt_read (fun _ _ _ => rfl) cx hq
    case extend => exact PE.imp (pe_bm PySem.F.plainAttrs_list PySem.F.slot_list_extend PySem.F.type_list_extend (mt_extend' (S := T.S) (X := X) cx.K) ho ha hb few hl s1 rfl) fun σ H Q hq => mt_read (fun _ _ _ => rfl) cx hq
    case pop0 => exact absurd (hmz rfl) (by simp)
    case pop1 => exact PE.imp (pe_bm PySem.F.plainAttrs_list PySem.F.slot_list_pop PySem.F.type_list_pop (mt_popAt' (S := T.S) (X := X)) ho ha hb few hl s1 rfl) fun σ H Q hq => mt_read (fun _ _ _ => rfl) cx hq
    case index => exact absurd he (by decide)
    case count => exact absurd he (by decide)

/-! ### new lists -/
theorem lcL_lst : True := trivial
theorem evF_lst {e : FE} {f : Ev.Fr} {h h1 : Mem} {d : D} (q : evF C e f h = .ok d h1) : ∃ ds, d = .lst ds := by
  cases e <;> rw [Ev.evF] at q
  all_goals
    repeat' (split at q)
  all_goals first | (cases q; exact ⟨_, rfl⟩) | (cases q; done) | skip
  all_goals
    rename_i r hne
    exact absurd q (by
      intro q
      simp_all)
theorem fr_read {e : FE} {σ : L2.St} {H : L2.Hp} {Q : VK} (hq : tE T.S W (evE C (.fr e)) σ H Q) : tF T.S W (evF C e) σ H Q := by
  obtain ⟨g, f, h, R, Fr, out⟩ := hq
  rw [Ev.evE] at out
  refine ⟨g, f, h, R, Fr, ?_⟩
  cases q : evF C e f h with
  | ok d h1 =>
    rw [q] at out
    obtain ⟨ds, rfl⟩ := evF_lst q
    refine ⟨ds, rfl, fun p vs g' H' hp st R' hH hF nb w => ?_⟩
    obtain ⟨R2, E⟩ := R'.freeze hH nb
    have E := E hF
    exact out (.ref p) _ H' ⟨st.ext.trans E, st.dead, st.fresh, st.keep, st.there, fun b u e nb' f => by
      show upd g'.F p (.lst vs) b = none
      rw [upd_ne (fun z => by rw [z, hp] at e; cases e)]
      exact st.frz b u e nb' f⟩ R2 ⟨p, vs, rfl, upd_same, VDs.mono E ds vs w⟩
  | exc c1 x1 h1 => rw [q] at out; exact out
  | stuck => rw [q] at out; exact out
theorem nd_fr {e : FE} (hf : PE X x (tF T.S W (evF C e))) : PE X x (tE T.S W (evE C (.fr e))) := PE.imp hf fun σ H Q hq => fr_read hq
theorem nw_read {e : FE} {σ : L2.St} {H : L2.Hp} {Q : VK} (hq : tE T.S W (evE C (.nw e)) σ H Q) : tF T.S W (evF C e) σ H Q := by
  obtain ⟨g, f, h, R, Fr, out⟩ := hq
  rw [Ev.evE] at out
  refine ⟨g, f, h, R, Fr, ?_⟩
  cases q : evF C e f h with
  | ok d h1 =>
    rw [q] at out
    obtain ⟨ds, rfl⟩ := evF_lst q
    refine ⟨ds, rfl, fun p vs g' H' hp st R' hH hF nb w => ?_⟩
    obtain ⟨g2, R2, s2, V2⟩ := new_box R' hH hF nb w R st hp
    exact out (.ref p) g2 H' s2 R2 V2
  | exc c1 x1 h1 => rw [q] at out; exact out
  | stuck => rw [q] at out; exact out
theorem nd_nw {e : FE} (hf : PE X x (tF T.S W (evF C e))) : PE X x (tE T.S W (evE C (.nw e))) := PE.imp hf fun σ H Q hq => nw_read hq
/-- a new list is laid behind a step -/
theorem outF_new {g g1 : G} {h h1 : Mem} {H H1 : L2.Hp} {Q : VK} {ds : List D} {ws : List V} {p : Addr} (R : Rel T.S g h H) (R1 : Rel T.S g1 h1 H1) (s1 : Step g h H g1 h1 H1) (hp : H1 p = none) (w : VDs T.S g1 ds ws)
    (out : ∀ p vs g' H', H p = none → Step g h H g' h1 H' → Rel T.S g' h1 H' → H' p = some (.lst vs) → g'.F p = none → (∀ n, g'.μ[n]? = some p → ¬ live h1 n) → VDs T.S g' ds vs → Q (.ref p) H') : Q (.ref p) (upd H1 p (.lst ws)) :=
  out p ws g1 _ (s1.back hp) (s1.trans R R1 (Step.new R1 hp)) (R1.new hp) upd_same (R1.free hp) (fun n e => R1.notBox hp e) w
theorem nd_lst (cx : Cxt T k X W sc) (ha : PA X vs (tL T.S W (evL C es))) : PE X (.List vs pos) (tF T.S W (evF C (.lst es))) := by
  refine PE.imp (pe_lst ha) ?_
  rintro σ H Q ⟨g, f, h, R, Fr, out⟩
  rw [Ev.evF] at out
  refine tL_bind R Fr ?_
  cases qa : evL C es f h with
  | ok ds h1 =>
    rw [qa] at out
    intro ws g1 H1 s1 R1 V1 F1
    dsimp only at out
    split at out
    · rename_i hl
      obtain ⟨ds', e, out⟩ := out
      cases e
      exact ⟨by rw [← VDs.length V1]; exact lim_of hl, fun p hp => outF_new R R1 s1 hp V1 out⟩
    · exact False.elim out
  | exc c1 x1 h1 => rw [qa] at out; exact out
  | stuck => rw [qa] at out; exact out
/-- one argument alone -/
theorem pa_one (hs : noStar [x] = true) (ha : PE X x (tE T.S W (evE C a))) : PA X [x] (tL T.S W (evL C (.cons a .nil))) := nd_cons hs ha nd_nil
theorem tL_one {σ : L2.St} {H : L2.Hp} {Q : VK} (hq : tE T.S W (evE C a) σ H Q) : tL T.S W (evL C (.cons a .nil)) σ H fun vs H1 => ∃ v, vs = [v] ∧ Q v H1 := by
  obtain ⟨g, f, h, R, Fr, out⟩ := hq
  refine ⟨g, f, h, R, Fr, ?_⟩
  rw [Ev.evL]
  cases q : evE C a f h with
  | ok d h1 =>
    rw [q] at out
    simp only [Ev.evL]
    intro vs g1 H1 s1 R1 V1
    obtain ⟨v, e, V⟩ := VDs.one_of V1
    exact ⟨v, e, out v g1 H1 s1 R1 V⟩
  | exc c1 x1 h1 => rw [q] at out; exact out
  | stuck => rw [q] at out; exact out
theorem nd_sorted (cx : Cxt T k X W sc) {np : Pos} {n : Str} (hn : n = "sorted") (hg : glB sc n = true) (hs : noStar [x] = true) (ha : PE X x (tE T.S W (evE C a))) : PE X (.Call (.Name n np) [x] [] pos) (tF T.S W (evF C (.sorted a))) := by
  obtain ⟨g1, g2⟩ := cx.gl_of hg
  subst hn
  have hu := cx.units
  refine PE.imp (pe_callB (call_sorted (S := T.S) cx.K (by omega)) g1 (by rw [cx.mg]; exact cx.ok.blt "sorted" (by decide)) (by decide +kernel) (pa_one hs ha) (by decide) g2 (noStar_cons hs) rfl) ?_
  rintro σ H Q ⟨g, f, h, R, Fr, out⟩
  rw [Ev.evF] at out
  have rd : tE T.S W (evE C a) σ H fun v H1 => ∃ g h p ws ds, Rel T.S g h H1 ∧ v = .ref p ∧ H1 p = some (.lst ws) ∧ VDs T.S g ds ws ∧ Ev.canSort ds = true ∧ ds.length ≤ Ev.LIM ∧
      ∀ q us, H1 q = none → VDs T.S g (Ev.sortD ds) us → Q (.ref q) (upd H1 q (.lst us)) := by
    refine tE_bind R Fr ?_
    cases qa : evE C a f h with
    | ok d1 h1 =>
      rw [qa] at out
      intro v g1 H1 s1 R1 V1 F1
      dsimp only at out
      have vh := shal_vh R1 V1
      cases qs : Ev.shal h1 d1 with
      | lst t =>
        rw [qs] at out vh
        obtain ⟨p1, ws, e1, e2, e3⟩ := vh
        dsimp only at out
        split at out
        · rename_i hl
          rw [Bool.and_eq_true, decide_eq_true_eq] at hl
          obtain ⟨ds', e, out⟩ := out
          cases e
          exact ⟨g1, h1, p1, ws, t, R1, e1, e2, e3, hl.1, hl.2, fun q us hq w => outF_new R R1 s1 hq w out⟩
        · exact False.elim out
      | _ => rw [qs] at out; exact False.elim out
    | exc c1 x1 h1 => rw [qa] at out; exact out
    | stuck => rw [qa] at out; exact out
  obtain ⟨g', f', h', R', Fr', o⟩ := tL_one rd
  refine ⟨g', f', h', R', Fr', ?_⟩
  cases q : evL C (.cons a .nil) f' h' with
  | ok ds h1 =>
    rw [q] at o
    intro vs g1 H1 s1 R1 V1
    obtain ⟨v, e1, g3, h3, p3, ws, ds3, r3, e3, rest⟩ := o vs g1 H1 s1 R1 V1
    subst e3
    exact ⟨g3, h3, p3, ws, ds3, r3, e1, rest⟩
  | exc c1 x1 h1 => rw [q] at o; exact o
  | stuck => rw [q] at o; exact o
theorem nd_list (cx : Cxt T k X W sc) {np : Pos} {n : Str} (hn : n = "list") (hg : glB sc n = true) (hs : noStar [x] = true) (ha : PE X x (tE T.S W (evE C a))) : PE X (.Call (.Name n np) [x] [] pos) (tF T.S W (evF C (.list_ a))) := by
  obtain ⟨g1, g2⟩ := cx.gl_of hg
  subst hn
  refine PE.imp (pe_callTy call_list_of g1 (by rw [cx.mg]; exact cx.ok.blt "list" (by decide)) (by decide +kernel) (pa_one hs ha) (by decide) g2 (noStar_cons hs) rfl) ?_
  rintro σ H Q ⟨g, f, h, R, Fr, out⟩
  rw [Ev.evF] at out
  have rd : tE T.S W (evE C a) σ H fun v H1 => ∃ p ws, v = .ref p ∧ (SqL X.K H1 p ws ∨ SqT X.K H1 p ws) ∧ ∀ q, H1 q = none → Q (.ref q) (upd H1 q (.lst ws)) := by
    refine tE_bind R Fr ?_
    cases qa : evE C a f h with
    | ok d1 h1 =>
      rw [qa] at out
      intro v g1 H1 s1 R1 V1 F1
      dsimp only at out
      have vh := shal_vh R1 V1
      cases qs : Ev.seqD (Ev.shal h1 d1) with
      | none => rw [qs] at out; exact False.elim out
      | some xs =>
        rw [qs] at out
        obtain ⟨ds', e, out⟩ := out
        cases e
        unfold Ev.seqD at qs
        split at qs
        · rename_i q
          rw [q] at vh
          cases qs
          obtain ⟨p1, ws, e1, e2, e3⟩ := vh
          exact ⟨p1, ws, e1, .inr (by rw [cx.K]; exact sqT_mono R1.fz e2), fun q hq => outF_new R R1 s1 hq e3 out⟩
        · rename_i q
          rw [q] at vh
          cases qs
          obtain ⟨p1, ws, e1, e2, e3⟩ := vh
          exact ⟨p1, ws, e1, .inl (.of e2), fun q hq => outF_new R R1 s1 hq e3 out⟩
        · cases qs
    | exc c1 x1 h1 => rw [qa] at out; exact out
    | stuck => rw [qa] at out; exact out
  obtain ⟨g', f', h', R', Fr', o⟩ := tL_one rd
  refine ⟨g', f', h', R', Fr', ?_⟩
  cases q : evL C (.cons a .nil) f' h' with
  | ok ds h1 =>
    rw [q] at o
    intro vs g1 H1 s1 R1 V1
    obtain ⟨v, e1, p3, ws, e3, rest⟩ := o vs g1 H1 s1 R1 V1
    subst e3
    exact ⟨p3, ws, e1, rest⟩
  | exc c1 x1 h1 => rw [q] at o; exact o
  | stuck => rw [q] at o; exact o
theorem nd_rev (cx : Cxt T k X W sc) {j : Nat} {p1 p2 p3 : Pos} (ha : PE X x (tE T.S W (evE C a))) : PE X (.Subscript x (.Slice none none (some (.UnaryOp .USub (.Constant (.int 1) j p1) p2)) p3) pos) (tF T.S W (evF C (.rev a))) := by
  refine PE.imp (pe_revL ha) ?_
  rintro σ H Q ⟨g, f, h, R, Fr, out⟩
  rw [Ev.evF] at out
  refine tE_bind R Fr ?_
  cases qa : evE C a f h with
  | ok d1 h1 =>
    rw [qa] at out
    intro v g1 H1 s1 R1 V1 F1
    dsimp only at out
    have vh := shal_vh R1 V1
    cases qs : Ev.shal h1 d1 with
    | lst t =>
      rw [qs] at out vh
      obtain ⟨p1, ws, e1, e2, e3⟩ := vh
      obtain ⟨ds', e, out⟩ := out
      cases e
      exact ⟨p1, ws, e1, .of e2, fun q hq => outF_new R R1 s1 hq e3.reverse out⟩
    | _ => rw [qs] at out; exact False.elim out
  | exc c1 x1 h1 => rw [qa] at out; exact out
  | stuck => rw [qa] at out; exact out
theorem nd_rep (cx : Cxt T k X W sc) (ha : PE X x (tE T.S W (evE C a))) (hb : PE X y (tE T.S W (evE C b))) : PE X (.BinOp x .Mult y pos) (tF T.S W (evF C (.rep a b))) := by
  refine PE.imp (pe_op op_rep ha hb) ?_
  rintro σ H Q ⟨g, f, h, R, Fr, out⟩
  rw [Ev.evF] at out
  refine tE_bind R Fr ?_
  cases qa : evE C a f h with
  | ok d1 h1 =>
    rw [qa] at out
    intro v g1 H1 s1 R1 V1 F1
    refine tE_bind R1 F1 ?_
    dsimp only at out
    cases qb : evE C b f h1 with
    | ok d2 h2 =>
      rw [qb] at out
      intro u g2 H2 s2 R2 V2 F2
      cases d2 with
      | int i =>
        cases V2
        dsimp only at out
        have vh := shal_vh R2 (VD.mono s2.ext _ _ V1)
        cases qs : Ev.shal h2 d1 with
        | lst t =>
          rw [qs] at out vh
          obtain ⟨p1, ws, e1, e2, e3⟩ := vh
          dsimp only at out
          split at out
          · rename_i hl
            obtain ⟨ds', e, out⟩ := out
            cases e
            have hL : (Ev.LIM : Int) < 2 ^ 62 := by decide
            exact ⟨p1, i, ws, e1, rfl, e2, by omega, by omega, by rw [← VDs.length e3]; exact lim_of hl.2.2, fun q hq => outF_new R R2 (s1.trans R R1 s2) hq (VDs.rep _ e3) out⟩
          · exact False.elim out
        | _ => rw [qs] at out; exact False.elim out
      | _ => exact False.elim out
    | exc c1 x1 h2 => rw [qb] at out; exact OkW.shift R R1 s1 out
    | stuck => rw [qb] at out; exact out
  | exc c1 x1 h1 => rw [qa] at out; exact out
  | stuck => rw [qa] at out; exact out
end
end So
end
section
set_option Elab.async false
set_option autoImplicit false
set_option linter.all false
/-! S10: targets, what is walked, comprehensions. -/
namespace So
open PySem PySem.Spec PyProof.Rows L2
open Ev (D Ob Mem R RS RL RB Bop Cop Bi Mt CE CEs CT CTs FE Src CO Tg Tgs evE evL evT evF evO evAnd evOr evTA evTO evSrc)

/-! ### targets -/
mutual
def SetT (S : Sx) (g : G) : Tg → D → L2.St → L2.St → Prop
  | .nm i, d, σ, σ' => ∃ v, VD S g d v ∧ σ' = σ.set i (some v)
  | .tp ts, .tup ds, σ, σ' => SetTs S g ts ds σ σ'
  | .tp ts, .lst ds, σ, σ' => SetTs S g ts ds σ σ'
  | _, _, _, _ => False
def SetTs (S : Sx) (g : G) : Tgs → List D → L2.St → L2.St → Prop
  | .nil, [], σ, σ' => σ' = σ
  | .cons t ts, d :: ds, σ, σ' => ∃ σ1, SetT S g t d σ σ1 ∧ SetTs S g ts ds σ1 σ'
  | _, _, _, _ => False
end
mutual
def okTg : Tg → D → Prop
  | .nm _, _ => True
  | .tp ts, .tup ds => okTgs ts ds
  | .tp ts, .lst ds => okTgs ts ds
  | _, _ => False
def okTgs : Tgs → List D → Prop
  | .nil, [] => True
  | .cons t ts, d :: ds => okTg t d ∧ okTgs ts ds
  | _, _ => False
end
def FrRp (S : Sx) (P : Nat → Prop) (g : G) (f : Ev.Fr) (σ : L2.St) : Prop :=
  f.length = σ.length ∧ ∀ (i : Nat) d, P i → f[i]? = some (some d) → ∃ v, σ[i]? = some (some v) ∧ VD S g d v
section
variable {S : Sx} {g g' : G}
mutual
theorem asgT_ok : ∀ (t : Tg) (d : D) (f f' : Ev.Fr), Ev.asgT t d f = some f' → okTg t d
  | .nm _, _, _, _, _ => trivial
  | .tp ts, d, f, f', q => by
    cases d with
    | tup ds => exact asgTs_ok ts ds f f' q
    | lst ds => exact asgTs_ok ts ds f f' q
    | _ => cases q
theorem asgTs_ok : ∀ (ts : Tgs) (ds : List D) (f f' : Ev.Fr), Ev.asgTs ts ds f = some f' → okTgs ts ds
  | .nil, ds, f, f', q => by
    cases ds with
    | nil => trivial
    | cons d ds => cases q
  | .cons t ts, ds, f, f', q => by
    cases ds with
    | nil => cases q
    | cons d ds =>
      rw [Ev.asgTs] at q
      cases k : Ev.asgT t d f with
      | none => rw [k] at q; cases q
      | some f1 =>
        rw [k] at q
        exact ⟨asgT_ok t d f f1 k, asgTs_ok ts ds f1 f' q⟩
end
mutual
theorem set_fr : ∀ (t : Tg) (d : D) (f f' : Ev.Fr) (σ σ' : L2.St) (P : Nat → Prop), Ev.asgT t d f = some f' → SetT S g t d σ σ' → FrRp S P g f σ → FrRp S (fun i => P i ∨ i ∈ tslots t) g f' σ'
  | .nm i, d, f, f', σ, σ', P, q, ⟨v, V, e⟩, r => by
    subst e
    rw [Ev.asgT] at q
    split at q
    · rename_i hl
      cases q
      refine ⟨by simp [r.1], fun j d' hj e => ?_⟩
      by_cases k : i = j
      · subst k
        rw [List.getElem?_set_self hl] at e
        cases e
        exact ⟨v, List.getElem?_set_self (by rw [← r.1]; exact hl), V⟩
      · rw [List.getElem?_set_ne k] at e ⊢
        rcases hj with hj | hj
        · exact r.2 j d' hj e
        · exact absurd (show j = i by simpa [tslots] using hj) (fun z => k z.symm)
    · cases q
  | .tp ts, d, f, f', σ, σ', P, q, st, r => by
    cases d with
    | tup ds => exact sets_fr ts ds f f' σ σ' P q st r
    | lst ds => exact sets_fr ts ds f f' σ σ' P q st r
    | _ => cases q
theorem sets_fr : ∀ (ts : Tgs) (ds : List D) (f f' : Ev.Fr) (σ σ' : L2.St) (P : Nat → Prop), Ev.asgTs ts ds f = some f' → SetTs S g ts ds σ σ' → FrRp S P g f σ → FrRp S (fun i => P i ∨ i ∈ tsslots ts) g f' σ'
  | .nil, ds, f, f', σ, σ', P, q, st, r => by
    cases ds with
    | nil =>
      cases q
      have : σ' = σ := st
      subst this
      exact ⟨r.1, fun i d hi e => r.2 i d (hi.elim id fun z => by simp [tsslots] at z) e⟩
    | cons d ds => cases q
  | .cons t ts, ds, f, f', σ, σ', P, q, st, r => by
    cases ds with
    | nil => cases q
    | cons d ds =>
      rw [Ev.asgTs] at q
      cases k : Ev.asgT t d f with
      | none => rw [k] at q; cases q
      | some f1 =>
        rw [k] at q
        obtain ⟨σ1, s1, s2⟩ := st
        have r1 := set_fr t d f f1 σ σ1 P k s1 r
        have r2 := sets_fr ts ds f1 f' σ1 σ' _ q s2 r1
        refine ⟨r2.1, fun i d hi e => r2.2 i d ?_ e⟩
        rcases hi with hi | hi
        · exact .inl (.inl hi)
        · rw [tsslots, List.mem_append] at hi
          rcases hi with hi | hi
          · exact .inl (.inr hi)
          · exact .inr hi
end
theorem wipe_set {σ : L2.St} {i : Nat} {v : Option V} : ∀ {vs : List Nat}, i ∈ vs → wipe (σ.set i v) vs = wipe σ vs
  | [], h => by simp at h
  | w :: vs, h => by
    show (wipe (σ.set i v) vs).set w none = (wipe σ vs).set w none
    by_cases q : i ∈ vs
    · rw [wipe_set q]
    · have : i = w := by
        rcases List.mem_cons.mp h with z | z
        · exact z
        · exact absurd z q
      subst this
      have aux : ∀ (us : List Nat) (τ : L2.St), i ∉ us → wipe (τ.set i v) us = (wipe τ us).set i v := by
        intro us
        induction us with
        | nil => intro τ _; rfl
        | cons u us ih =>
          intro τ hn
          show (wipe (τ.set i v) us).set u none = ((wipe τ us).set u none).set i v
          rw [ih τ (fun z => hn (List.mem_cons_of_mem _ z)), List.set_comm]
          exact fun z => hn (by rw [z]; exact List.mem_cons_self)
      rw [aux vs σ q, List.set_set]
mutual
theorem set_wipe : ∀ (t : Tg) (d : D) (σ σ' : L2.St) (vs : List Nat), SetT S g t d σ σ' → (∀ i ∈ tslots t, i ∈ vs) → wipe σ' vs = wipe σ vs
  | .nm i, d, σ, σ', vs, ⟨v, V, e⟩, h => by
    subst e
    exact wipe_set (h i (by simp [tslots]))
  | .tp ts, d, σ, σ', vs, st, h => by
    cases d with
    | tup ds => exact sets_wipe ts ds σ σ' vs st h
    | lst ds => exact sets_wipe ts ds σ σ' vs st h
    | _ => exact False.elim st
theorem sets_wipe : ∀ (ts : Tgs) (ds : List D) (σ σ' : L2.St) (vs : List Nat), SetTs S g ts ds σ σ' → (∀ i ∈ tsslots ts, i ∈ vs) → wipe σ' vs = wipe σ vs
  | .nil, ds, σ, σ', vs, st, h => by
    cases ds with
    | nil =>
      have : σ' = σ := st
      subst this
      rfl
    | cons d ds => exact False.elim st
  | .cons t ts, ds, σ, σ', vs, st, h => by
    cases ds with
    | nil => exact False.elim st
    | cons d ds =>
      obtain ⟨σ1, s1, s2⟩ := st
      rw [sets_wipe ts ds σ1 σ' vs s2 fun i hi => h i (by rw [tsslots]; exact List.mem_append_right _ hi), set_wipe t d σ σ1 vs s1 fun i hi => h i (by rw [tsslots]; exact List.mem_append_left _ hi)]
end
def tG (S : Sx) (t : Tg) : TG := fun v σ H Q => ∃ g h d, Rel S g h H ∧ VD S g d v ∧ okTg t d ∧ ∀ σ', SetT S g t d σ σ' → Q σ' H
def tGs (S : Sx) (ts : Tgs) : TGs := fun vs σ H Q => ∃ g h ds, Rel S g h H ∧ VDs S g ds vs ∧ okTgs ts ds ∧ ∀ σ', SetTs S g ts ds σ σ' → Q σ' H
end
section
variable {T : Tx} {k : Nat} {X : Cx} {W : WX} {sc : Sc}
theorem assignEach_len : ∀ (es : List Expr) (env : Env), (assignEach es env).length = es.length
  | [], _ => rfl
  | e :: es, env => by
    have := assignEach_len es env
    cases e <;> simp [assignEach, this]
theorem assignEach_nostar : ∀ (es : List Expr) (env : Env), noStar es = true → (assignEach es env).findIdx? (·.1) = none
  | [], _, _ => rfl
  | e :: es, env, h => by
    have ih := assignEach_nostar es env (noStar_head h).2
    cases e <;> first | (simp [noStar] at h; done) | (rw [List.findIdx?_eq_none_iff] at ih ⊢; intro x hx; rcases List.mem_cons.mp (show x ∈ _ :: assignEach es env from hx) with z | z; (subst z; rfl); exact ih x z)
theorem ckTgs_noStar : ∀ {ts : Tgs} {es : List Expr}, ckTgs sc ts es = true → noStar es = true
  | .nil, [], _ => rfl
  | .nil, _ :: _, h => by simp [ckTgs] at h
  | .cons _ _, [], h => by simp [ckTgs] at h
  | .cons t ts, e :: es, h => by
    rw [ckTgs, Bool.and_eq_true, Bool.and_eq_true] at h
    have ih := ckTgs_noStar (ts := ts) h.2
    have h1 := h.1.2
    cases e <;> first | exact ih | (simp [noStar] at h1)
theorem okTgs_len : ∀ {ts : Tgs} {es : List Expr} {ds : List D}, ckTgs sc ts es = true → okTgs ts ds → ds.length = es.length
  | .nil, [], [], _, _ => rfl
  | .nil, [], _ :: _, _, h => False.elim h
  | .nil, _ :: _, _, h, _ => by simp [ckTgs] at h
  | .cons _ _, [], _, h, _ => by simp [ckTgs] at h
  | .cons _ _, _ :: _, [], _, h => False.elim h
  | .cons t ts, e :: es, d :: ds, h, o => by
    rw [ckTgs, Bool.and_eq_true, Bool.and_eq_true] at h
    have := okTgs_len (ts := ts) h.2 o.2
    simp [this]
mutual
theorem sTg (cx : Cxt T k X W sc) : ∀ (t : Tg) (e : Expr), ckTg sc t e = true → PG X e (tG T.S t)
  | .nm i, e, h => by
    cases e <;> simp only [ckTg] at h <;> try (cases h; done)
    rename_i n np
    rw [Bool.and_eq_true, decide_eq_true_eq] at h
    obtain ⟨h1, h2⟩ := cx.oc n h.2
    refine ⟨fun pins s σ H v u Q I r hq => ?_⟩
    obtain ⟨g, m, d, R, V, _, q⟩ := hq
    exact (pg_name (i := i) (by rw [cx.N]; exact cx.nd) (by rw [cx.N]; exact h.1) h1 h2).run pins s σ H v u Q I r (q _ ⟨v, V, rfl⟩)
  | .tp ts, e, h => by
    cases e <;> simp only [ckTg] at h <;> try (cases h; done)
    rename_i es j tp
    have ns := ckTgs_noStar h
    have gs := sTgs cx ts es h
    refine ⟨fun pins s σ H v u Q I r hq => ?_⟩
    obtain ⟨g, m, d, R, V, o, q⟩ := hq
    cases d with
    | tup ds =>
      obtain ⟨a, vs, e1, e2, e3⟩ := V
      refine (pg_tup cx.calm gs (assignEach_len es _) (assignEach_nostar es _ ns)).run pins s σ H v u Q I r ⟨a, vs, e1, by rw [cx.K]; exact sqT_mono R.fz e2, by rw [← VDs.length e3]; exact okTgs_len h o, g, m, ds, R, e3, o, fun σ' st => q σ' st⟩
    | lst ds =>
      obtain ⟨a, vs, e1, e2, e3⟩ := V
      refine (pg_lst cx.calm gs (assignEach_len es _) (assignEach_nostar es _ ns)).run pins s σ H v u Q I r ⟨a, vs, e1, .of (R.fz _ _ e2), by rw [← VDs.length e3]; exact okTgs_len h o, g, m, ds, R, e3, o, fun σ' st => q σ' st⟩
    | _ => exact False.elim o
theorem sTgs (cx : Cxt T k X W sc) : ∀ (ts : Tgs) (es : List Expr), ckTgs sc ts es = true → PGs X es (tGs T.S ts)
  | .nil, es, h => by
    cases es with
    | nil =>
      refine ⟨fun pins s σ H vs us Q I r hq => ?_⟩
      obtain ⟨g, m, ds, R, V, o, q⟩ := hq
      cases ds with
      | nil =>
        have : vs = [] := V
        subst this
        exact pgs_nil.run pins s σ H [] us Q I r ⟨rfl, q σ rfl⟩
      | cons d ds => exact False.elim o
    | cons e es => simp [ckTgs] at h
  | .cons t ts, es, h => by
    cases es with
    | nil => simp [ckTgs] at h
    | cons e es =>
      rw [ckTgs, Bool.and_eq_true, Bool.and_eq_true] at h
      have g1 := sTg cx t e h.1.1
      have g2 := sTgs cx ts es h.2
      have h1 := h.1.2
      refine ⟨fun pins s σ H vs us Q I r hq => ?_⟩
      obtain ⟨g, m, ds, R, V, o, q⟩ := hq
      cases ds with
      | nil => exact False.elim o
      | cons d ds =>
        obtain ⟨v, vr, e1, V1, V2⟩ := V
        exact (pgs_cons g1 g2 (by cases e <;> first | rfl | (simp [noStar] at h1))).run pins s σ H vs us Q I r ⟨v, vr, e1, g, m, d, R, V1, o.1, fun σ1 s1 => ⟨g, m, ds, R, V2, o.2, fun σ2 s2 => q σ2 ⟨σ1, s1, s2⟩⟩⟩
end

/-! ### what is walked -/
/-- J walks what ds stands for -/
def Wk (S : Sx) (g : G) (ds : List D) (J : It) : Prop := ∀ (g2 : G) (h2 : Mem) (H2 : L2.Hp), Ext g g2 → Rel S g2 h2 H2 → ∀ i : Nat,
  (∀ d, ds[i]? = some d → J.go i H2 ∧ ∀ x H3, J.yld i H2 x H3 → ∃ g3, Rel S g3 h2 H3 ∧ Step g2 h2 H2 g3 h2 H3 ∧ VD S g3 d x) ∧ (ds.length ≤ i → J.stop i H2)
def tS (S : Sx) (W : WX) (ev : Ev.Fr → Mem → RL) : TI := fun σ H Rj => ∃ g f h, Rel S g h H ∧ FrR S g f σ ∧ match ev f h with
  | .ok ds h1 => ∀ J g1 H1, Step g h H g1 h1 H1 → Rel S g1 h1 H1 → Wk S g1 ds J → Rj J H1
  | .exc c x h1 => OkW S W σ g h H c x h1
  | .stuck => False
theorem wk_list {S : Sx} {g : G} {ds : List D} {a : Addr} {vs : List V} (e : g.F a = some (.lst vs)) (w : VDs S g ds vs) (K : PySem.W.Frag) : Wk S g ds (Itl K a) := by
  intro g2 h2 H2 E R i
  have q := R.fz a _ (E.fz a _ e)
  refine ⟨fun d hd => ?_, fun hl => ⟨vs, .of q, by rw [← VDs.length w]; exact hl⟩⟩
  obtain ⟨v, e1, e2⟩ := VDs.get w hd
  refine ⟨⟨vs, v, .of q, e1⟩, fun x H3 y => ?_⟩
  obtain ⟨e3, y⟩ := y
  subst e3
  have := y vs (.of q)
  rw [e1] at this
  cases this
  exact ⟨g2, R, Step.refl R, VD.mono E _ _ e2⟩
theorem wk_tup {S : Sx} {g : G} {ds : List D} {a : Addr} {vs : List V} {K : PySem.W.Frag} (hK : K = S.K) (e : SqT S.K g.F a vs) (w : VDs S g ds vs) : Wk S g ds (Itt K a) := by
  intro g2 h2 H2 E R i
  have q : SqT K H2 a vs := by rw [hK]; exact sqT_mono R.fz (sqT_mono E.fz e)
  refine ⟨fun d hd => ?_, fun hl => ⟨vs, q, by rw [← VDs.length w]; exact hl⟩⟩
  obtain ⟨v, e1, e2⟩ := VDs.get w hd
  refine ⟨⟨vs, v, q, e1⟩, fun x H3 y => ?_⟩
  obtain ⟨e3, y⟩ := y
  subst e3
  have := y vs q
  rw [e1] at this
  cases this
  exact ⟨g2, R, Step.refl R, VD.mono E _ _ e2⟩
theorem wk_str {S : Sx} {g : G} {s : List Nat} (o : OkS s) : Wk S g (s.map fun c => D.str [c]) (Its (tx s)) := by
  intro g2 h2 H2 E R i
  refine ⟨fun d hd => ?_, fun hl => by show (tx s).cps.size ≤ i; simpa [tx] using hl⟩
  have hi : i < s.length := by
    have := (List.getElem?_eq_some_iff.mp hd).1
    simpa using this
  refine ⟨by show i < (tx s).cps.size; simpa [tx] using hi, fun x H3 y => ?_⟩
  obtain ⟨e3, c, y1, y2⟩ := y
  subst e3; subst y2
  have e1 : s[i]? = some c := by simpa [tx] using y1
  rw [List.getElem?_map, e1] at hd
  cases hd
  exact ⟨g2, R, Step.refl R, rfl, fun c' hc => by
    simp at hc
    subst hc
    exact o _ (List.mem_of_getElem? e1)⟩
theorem rngL_len (c : Int) : ∀ (n : Nat) (lo : Int), (Ev.rngL lo c n).length = n
  | 0, _ => rfl
  | n + 1, lo => by simp [Ev.rngL, rngL_len c n]
theorem rngL_get (c : Int) : ∀ (n : Nat) (lo : Int) (i : Nat), i < n → (Ev.rngL lo c n)[i]? = some (.int (lo + i * c))
  | 0, _, _, h => by omega
  | n + 1, lo, 0, _ => by simp [Ev.rngL]
  | n + 1, lo, i + 1, h => by
    rw [Ev.rngL, List.getElem?_cons_succ, rngL_get c n (lo + c) i (by omega)]
    congr 2
    rw [Int.add_assoc, Int.natCast_succ, Int.add_mul, Int.one_mul]
    omega
theorem wk_rng {S : Sx} {g : G} {lo : Int} {n : Nat} : Wk S g (Ev.rngL lo 1 n) (Itr lo n) := by
  intro g2 h2 H2 E R i
  refine ⟨fun d hd => ?_, fun hl => by rw [rngL_len] at hl; exact hl⟩
  have hi : i < n := by
    have := (List.getElem?_eq_some_iff.mp hd).1
    rw [rngL_len] at this; exact this
  rw [rngL_get 1 n lo i hi] at hd
  cases hd
  refine ⟨hi, fun x H3 y => ?_⟩
  obtain ⟨e3, y⟩ := y
  subst e3; subst y
  exact ⟨g2, R, Step.refl R, by show V.int _ = V.int _; rw [Int.mul_one]⟩
theorem wk_rngC {S : Sx} {g : G} {lo c : Int} {n : Nat} : Wk S g (Ev.rngL lo c n) (Itc lo c n) := by
  intro g2 h2 H2 E R i
  refine ⟨fun d hd => ?_, fun hl => by rw [rngL_len] at hl; exact hl⟩
  have hi : i < n := by
    have := (List.getElem?_eq_some_iff.mp hd).1
    rw [rngL_len] at this; exact this
  rw [rngL_get c n lo i hi] at hd
  cases hd
  refine ⟨hi, fun x H3 y => ?_⟩
  obtain ⟨e3, y⟩ := y
  subst e3; subst y
  exact ⟨g2, R, Step.refl R, rfl⟩
variable {C : Ev.Cx} {a : CE} {x tg : Expr}
theorem nd_it (cx : Cxt T k X W sc) (ha : PE X x (tE T.S W (evE C a))) : PI X tg x (tS T.S W (evSrc C (.it a))) := by
  refine ⟨fun pins s σ H Rj I hq => ?_⟩
  obtain ⟨g, f, h, R, Fr, out⟩ := hq
  rw [Ev.evSrc] at out
  cases qa : evE C a f h with
  | ok d h1 =>
    rw [qa] at out
    dsimp only at out
    cases qd : Ev.itD d with
    | none => rw [qd] at out; exact False.elim out
    | some ds =>
      rw [qd] at out
      dsimp only at out
      have rd : ∀ Q : VK, (∀ v g1 H1, Step g h H g1 h1 H1 → Rel T.S g1 h1 H1 → VD T.S g1 d v → Q v H1) → tE T.S W (evE C a) σ H Q := fun Q hQ => ⟨g, f, h, R, Fr, by rw [qa]; exact hQ⟩
      unfold Ev.itD at qd
      split at qd
      · cases qd
        refine (pi_tup ha).run pins s σ H Rj I (rd _ fun v g1 H1 s1 R1 V1 => ?_)
        obtain ⟨p, vs, e1, e2, e3⟩ := V1
        exact ⟨p, e1, ⟨vs, by rw [cx.K]; exact sqT_mono R1.fz e2⟩, out _ g1 H1 s1 R1 (wk_tup cx.K e2 e3)⟩
      · cases qd
        refine (pi_list ha).run pins s σ H Rj I (rd _ fun v g1 H1 s1 R1 V1 => ?_)
        obtain ⟨p, vs, e1, e2, e3⟩ := V1
        exact ⟨p, e1, ⟨vs, .of (R1.fz _ _ e2)⟩, out _ g1 H1 s1 R1 (wk_list e2 e3 _)⟩
      · cases qd
        refine (pi_str ha).run pins s σ H Rj I (rd _ fun v g1 H1 s1 R1 V1 => ?_)
        obtain ⟨e1, o⟩ := V1
        exact ⟨_, e1, out _ g1 H1 s1 R1 (wk_str o)⟩
      · cases qd
  | exc c1 x1 h1 =>
    rw [qa] at out
    exact (pi_tup ha).run pins s σ H Rj I ⟨g, f, h, R, Fr, by rw [qa]; exact out⟩
  | stuck => rw [qa] at out; exact False.elim out
theorem small_of {i : Int} (h : Ev.small62 i = true) : -(2 ^ 62) ≤ i ∧ i < 2 ^ 62 := by
  unfold Ev.small62 at h
  simpa using h
theorem nd_rng (cx : Cxt T k X W sc) {es : CEs} {n : Str} {np pos : Pos} {vs : List Expr} (hn : n = "range") (hg : glB sc n = true) (hs : noStar vs = true) (he : vs ≠ []) (ha : PA X vs (tL T.S W (evL C es))) (hl : vs.length ≤ 3)
    (hlen : ∀ f h ds h1, evL C es f h = .ok ds h1 → ds.length = vs.length) : PI X tg (.Call (.Name n np) vs [] pos) (tS T.S W (evSrc C (.rng es))) := by
  obtain ⟨g1, g2⟩ := cx.gl_of hg
  subst hn
  have hm : X.mg "range" = none := by rw [cx.mg]; exact cx.ok.blt "range" (by decide)
  have key : ∀ {σ : L2.St} {H : L2.Hp} {Rj : It → L2.Hp → Prop}, tS T.S W (evSrc C (.rng es)) σ H Rj → tL T.S W (evL C es) σ H fun us H1 => ∃ g1 h1 ds xs, Rel T.S g1 h1 H1 ∧ VDs T.S g1 ds us ∧ Ev.rngD ds = some xs ∧ ds.length = vs.length ∧ ∀ J, Wk T.S g1 xs J → Rj J H1 := fun {σ H Rj} hq => by
    obtain ⟨g, f, h, R, Fr, out⟩ := hq
    rw [Ev.evSrc] at out
    refine tL_bind R Fr ?_
    cases qa : evL C es f h with
    | ok ds h1 =>
      rw [qa] at out
      intro us g1 H1 s1 R1 V1 F1
      dsimp only at out
      cases qr : Ev.rngD ds with
      | none => rw [qr] at out; exact False.elim out
      | some xs =>
        rw [qr] at out
        exact ⟨g1, h1, ds, xs, R1, V1, qr, hlen f h ds h1 qa, fun J w => out J g1 H1 s1 R1 w⟩
    | exc c1 x1 h1 => rw [qa] at out; exact out
    | stuck => rw [qa] at out; exact out
  match vs, he, hl with
  | [v], _, _ =>
    refine PI.imp (pi_range1 g1 hm ha (noStar_cons hs)) fun σ H Rj hq => ?_
    obtain ⟨g, f, h, R, Fr, o⟩ := key hq
    refine ⟨g, f, h, R, Fr, ?_⟩
    cases q : evL C es f h with
    | ok ds h1 =>
      rw [q] at o
      intro us g1 H1 s1 R1 V1
      obtain ⟨g2, h2, ds2, xs, R2, V2, qr, hl2, k⟩ := o us g1 H1 s1 R1 V1
      unfold Ev.rngD at qr
      split at qr <;> try (first | (cases qr; done) | (simp at hl2; done))
      split at qr
      · rename_i n hn
        cases qr
        obtain ⟨v2, e, V⟩ := VDs.one_of V2
        cases V
        exact ⟨n, e, (small_of hn).1, (small_of hn).2, k _ wk_rng⟩
      · cases qr
    | exc c1 x1 h1 => rw [q] at o; exact o
    | stuck => rw [q] at o; exact o
  | [v, w], _, _ =>
    obtain ⟨n1, n2⟩ := noStar_head hs
    refine PI.imp (pi_range2 g1 hm ha (by rw [noStar_cons n1, noStar_cons n2]; rfl) (noStar_cons n2)) fun σ H Rj hq => ?_
    obtain ⟨g, f, h, R, Fr, o⟩ := key hq
    refine ⟨g, f, h, R, Fr, ?_⟩
    cases q : evL C es f h with
    | ok ds h1 =>
      rw [q] at o
      intro us g1 H1 s1 R1 V1
      obtain ⟨g2, h2, ds2, xs, R2, V2, qr, hl2, k⟩ := o us g1 H1 s1 R1 V1
      unfold Ev.rngD at qr
      split at qr <;> try (first | (cases qr; done) | (simp at hl2; done))
      split at qr
      · rename_i i j hn
        rw [Bool.and_eq_true] at hn
        cases qr
        obtain ⟨v2, w2, e, V, V'⟩ := VDs.two_of V2
        cases V; cases V'
        exact ⟨i, j, e, ⟨(small_of hn.1).1, (small_of hn.1).2, (small_of hn.2).1, (small_of hn.2).2⟩, k _ wk_rng⟩
      · cases qr
    | exc c1 x1 h1 => rw [q] at o; exact o
    | stuck => rw [q] at o; exact o
  | [v, w, z], _, _ =>
    obtain ⟨n1, n2⟩ := noStar_head hs
    obtain ⟨n2, n3⟩ := noStar_head n2
    refine PI.imp (pi_range3 g1 hm ha (by rw [noStar_cons n1]) (noStar_any (by cases w <;> first | exact n3 | (simp [noStar] at n2)))) fun σ H Rj hq => ?_
    obtain ⟨g, f, h, R, Fr, o⟩ := key hq
    refine ⟨g, f, h, R, Fr, ?_⟩
    cases q : evL C es f h with
    | ok ds h1 =>
      rw [q] at o
      intro us g1 H1 s1 R1 V1
      obtain ⟨g2, h2, ds2, xs, R2, V2, qr, hl2, k⟩ := o us g1 H1 s1 R1 V1
      unfold Ev.rngD at qr
      split at qr <;> try (first | (cases qr; done) | (simp at hl2; done))
      split at qr
      · rename_i i j c hn
        simp only [Bool.and_eq_true, decide_eq_true_eq] at hn
        obtain ⟨⟨h3, h4⟩, h5⟩ := hn
        subst h5
        cases qr
        obtain ⟨v2, vr, e, V, V3⟩ := V2
        obtain ⟨w2, z2, e2, V', V''⟩ := VDs.two_of V3
        subst e2
        cases V; cases V'; cases V''
        exact ⟨i, j, -1, _, e, RgC.neg (small_of h3).1 (small_of h3).2 (small_of h4).1 (small_of h4).2, k _ wk_rngC⟩
      · cases qr
    | exc c1 x1 h1 => rw [q] at o; exact o
    | stuck => rw [q] at o; exact o
end
end So
end
section
set_option Elab.async false
set_option autoImplicit false
set_option linter.all false
/-! S11: tests, comprehensions, and all expressions at once. -/
namespace So
open PySem PySem.Spec PyProof.Rows L2
open Ev (D Ob Mem R RS RL RB Bop Cop Bi Mt CE CEs CT CTs FE Src CO Tg Tgs evE evL evT evF evO evAnd evOr evTA evTO evSrc)

section
variable {T : Tx} {k : Nat} {X : Cx} {W : WX} {sc : Sc} {C : Ev.Cx} {x y z tg it : Expr} {a b c : CE} {pos : Pos} {es : CEs} {vs : List Expr}

/-! ### tests -/
theorem nd_val (hp : plainE x = true) (ha : PE X x (tE T.S W (evE C a))) : PT X x (So.tB T.S W (evT C (.e a))) :=
  PT.imp (pt_val ha (by cases x <;> first | (intro _; rfl) | (simp [plainE] at hp; done) | (rename_i op v p; cases op <;> first | (intro _; rfl) | (simp [plainE] at hp; done)))) fun σ H Q hq => tE_test (fun _ _ _ h => h) hq
theorem nd_chnT (cx : Cxt T k X W sc) {o p : Cop} (h1 : isSet y = false) (h2 : isSet z = false) (ha : PE X x (tE T.S W (evE C a))) (hb : PE X y (tE T.S W (evE C b))) (hc : PE X z (tE T.S W (evE C c))) :
    PT X (.Compare x [co o, co p] [y, z] pos) (So.tB T.S W (evT C (.e (.chn o p a b c)))) :=
  PT.imp (pt_chain (nd_cmpR cx) (nd_cmpR cx) ha hb hc (show lastMarks [co o, co p] [y, z] = false from mark_of h2 _)) fun σ H Q hq => tE_test (fun _ _ _ => chn_read) hq
theorem nd_chn (cx : Cxt T k X W sc) {o p : Cop} (h1 : isSet y = false) (h2 : isSet z = false) (ha : PE X x (tE T.S W (evE C a))) (hb : PE X y (tE T.S W (evE C b))) (hc : PE X z (tE T.S W (evE C c))) :
    PE X (.Compare x [co o, co p] [y, z] pos) (tE T.S W (evE C (.chn o p a b c))) :=
  PE.imp (pe_chain (nd_cmpR cx) (nd_cmpR cx) ha hb hc (show lastMarks [co o, co p] [y, z] = false from mark_of h2 _)) fun σ H Q hq => chn_read hq
theorem nd_notT {t : CT} (ha : PT X x (So.tB T.S W (evT C t))) : PT X (.UnaryOp .Not x pos) (So.tB T.S W (evT C (.not t))) := by
  refine PT.imp (pt_not ha) ?_
  rintro σ H Q ⟨g, f, h, R, Fr, out⟩
  rw [Ev.evT] at out
  refine tB_bind R Fr ?_
  cases qa : evT C t f h with
  | ok d1 h1 => rw [qa] at out; intro g1 H1 s1 R1 F1; exact out g1 H1 s1 R1
  | exc c1 x1 h1 => rw [qa] at out; exact out
  | stuck => rw [qa] at out; exact out
theorem nd_andT {t : CT} {ts : CTs} (hn : ts ≠ .nil) {ys : List Expr} (ha : PT X x (So.tB T.S W (evT C t))) (hb : PW X (.BoolOp .And (y :: ys) pos) (So.tB T.S W (evTA C ts))) : PW X (.BoolOp .And (x :: y :: ys) pos) (So.tB T.S W (evTA C (.cons t ts))) := by
  refine PW.imp (pw_and ha hb) ?_
  rintro σ H Q ⟨g, f, h, R, Fr, out⟩
  rw [Ev.evTA.eq_2 _ _ _ _ _ (fun z => hn z)] at out
  refine tB_bind R Fr ?_
  cases qa : evT C t f h with
  | ok d1 h1 =>
    rw [qa] at out
    intro g1 H1 s1 R1 F1
    cases d1 with
    | true => rw [if_pos rfl]; exact ⟨g1, f, h1, R1, F1, OutB.shift R R1 s1 out⟩
    | false => rw [if_neg (by decide)]; exact out g1 H1 s1 R1
  | exc c1 x1 h1 => rw [qa] at out; exact out
  | stuck => rw [qa] at out; exact out
theorem nd_orT {t : CT} {ts : CTs} (hn : ts ≠ .nil) {ys : List Expr} (ha : PT X x (So.tB T.S W (evT C t))) (hb : PW X (.BoolOp .Or (y :: ys) pos) (So.tB T.S W (evTO C ts))) : PW X (.BoolOp .Or (x :: y :: ys) pos) (So.tB T.S W (evTO C (.cons t ts))) := by
  refine PW.imp (pw_or ha hb) ?_
  rintro σ H Q ⟨g, f, h, R, Fr, out⟩
  rw [Ev.evTO.eq_2 _ _ _ _ _ (fun z => hn z)] at out
  refine tB_bind R Fr ?_
  cases qa : evT C t f h with
  | ok d1 h1 =>
    rw [qa] at out
    intro g1 H1 s1 R1 F1
    cases d1 with
    | true => rw [if_pos rfl]; exact out g1 H1 s1 R1
    | false => rw [if_neg (by decide)]; exact ⟨g1, f, h1, R1, F1, OutB.shift R R1 s1 out⟩
  | exc c1 x1 h1 => rw [qa] at out; exact out
  | stuck => rw [qa] at out; exact out

/-! ### len(set(..)) -/
theorem isInts : ∀ {ns : List Int} {us : List Value}, Vals (ns.map V.int) us → PyProof.Rows.IntsAre us ns
  | [], _, .nil => .nil
  | _ :: _, _, .cons ⟨_, e⟩ r => by
    subst e
    exact .cons _ _ (isInts r)
theorem nd_lenset (cx : Cxt T k X W sc) {np mp q : Pos} {v : Expr} (hl : glB sc "len" = true) (hs : glB sc "set" = true) (hn : noStar [v] = true) (ha : PE X v (tE T.S W (evE C a))) :
    PE X (.Call (.Name "len" np) [.Call (.Name "set" mp) [v] [] q] [] pos) (tE T.S W (evE C (.bi .lenset (.cons a .nil)))) := by
  obtain ⟨g1, _⟩ := cx.gl_of hl
  obtain ⟨g2, _⟩ := cx.gl_of hs
  have mn : ∀ x ∈ used, X.mg x = none := fun x hx => by rw [cx.mg]; exact cx.ok.blt x hx
  have st := noStar_cons (r := []) (env := X.env) hn
  refine ⟨fun pins s σ H Q I hq => ?_⟩
  have rd : tE T.S W (evE C a) σ H fun x H1 => ∃ (l : Addr) (ns : List Int), x = V.ref l ∧ SqL X.K H1 l (ns.map V.int) ∧ ns.length ≤ 4000 ∧ Q (.int ns.eraseDups.length) H1 := by
    obtain ⟨g, f, h, R, Fr, out⟩ := hq
    rw [Ev.evE] at out
    simp only [Ev.evL] at out
    refine tE_bind R Fr ?_
    cases qa : evE C a f h with
    | exc c1 x1 h1 => rw [qa] at out; exact out
    | stuck => rw [qa] at out; exact out
    | ok d h1 =>
      rw [qa] at out
      intro x g1 H1 s1 R1 V1 F1
      dsimp only [Ev.biF] at out
      have vh := shal_vh R1 V1
      cases qs : Ev.shal h1 d with
      | lst t =>
        rw [qs] at out vh
        obtain ⟨p1, ws, e1, e2, e3⟩ := vh
        dsimp only at out
        by_cases hz : t.length ≤ 4000
        · rw [if_pos hz] at out
          cases qi : Ev.intsD t with
          | none => rw [qi] at out; exact False.elim out
          | some ns =>
            rw [qi] at out
            have e4 := VDs.intsD qi e3
            subst e4
            refine ⟨p1, ns, e1, .inl (.of e2), ?_, out _ g1 H1 s1 R1 rfl⟩
            have := VDs.length e3
            rw [List.length_map] at this
            omega
        · rw [if_neg hz] at out
          exact False.elim out
      | _ => rw [qs] at out; exact False.elim out
  refine Call_ (ld_blt I g1 (mn "len" (by decide)) PySem.boot_len ?_)
  refine callWith_builtin1 (args_cons ?_ rfl) rfl rfl
  refine Call_ (ld_blt I g2 (mn "set" (by decide)) PyProof.Rows.boot_set ?_)
  refine callWith_type1 (args_cons (thn (ha.run pins s σ H _ I rd) fun u s1 ⟨x, H1, I1, ru, l, ns, ex, sq, lim, fin⟩ => args_nil ?_) st) st rfl
  subst ex
  obtain rfl : u = Value.ref l := ru
  obtain ⟨items, rv, hpl, _⟩ := I1.list sq
  have size : items.toArray.size = ns.length := by
    have := rv.length
    rw [List.length_map] at this
    rw [List.size_toArray, this]
  have small : items.toArray.size ≤ 4000 := by omega
  refine call_set_list (I1.ok.hd cx.calm) hpl.isList (by simpa using isInts rv) (by unfold scanBound; omega) fun h2 tk made kept => args_nil ?_
  rw [size, PySem.W.oss_met, PySem.W.oss_dups] at made
  obtain ⟨o, es, ep, t, e1, e2, e3, _, _, _, e4, e5⟩ := made
  have J : Inv X pins σ H1 { s1 with heap := h2, toks := tk } := I1.kept fun b o e => kept b o (Heap.lt_size e) e
  have le := PySem.W.oss_len ns
  rw [PySem.W.oss_dups] at le
  refine call_len_set e1 e2 e3 e4 (by rw [e5]; omega) ⟨V.int ns.eraseDups.length, H1, J.tok _, ⟨_, by rw [e5]⟩, fin⟩

/-! ### comprehensions -/
abbrev W0 : WX := fun _ _ _ _ => False
theorem Cxt.blk (cx : Cxt T k X W sc) {scope : Scope} {own : List (Str × Nat)} (ok : BlkOk X.N X.env.scope scope own) (s : Shared) (H : L2.Hp) (c : Addr) (cl : List (Str × Addr)) (fp : List Addr) :
    Cxt T k (X.blk s H scope (compEnvC scope cl c X.env) fp) W0 (blkSc sc scope) := by
  refine ⟨cx.ok, cx.prog, cx.w, cx.K, cx.mg, cx.base, cx.N, cx.nd, ?_, ?_, fun x hx => ?_, cx.gl, cx.fs, cx.xs, cx.sub, cx.rz, cx.calm, ?_, PassesOwn.never, cx.gd, cx.rm⟩
  · show (scope.names.map fun (n, k) => if (k == NameKind.free && X.env.scope.kind == ScopeKind.function && X.env.kindOf n == some NameKind.cell) then (n, NameKind.cell) else (n, k)) = _
    unfold blkSc
    dsimp only
    congr 1
    funext ⟨n, k⟩
    have e1 : X.env.kindOf n = sc.nm.lookup n := by show X.env.scope.names.lookup n = _; rw [cx.nm]
    dsimp only
    rw [e1, cx.kind]
    simp
  · exact ok.kind
  · have hl : scope.names.lookup x = some .local ∨ scope.names.lookup x = some .cell := by
      unfold locB blkSc at hx
      dsimp only at hx
      split at hx <;> rename_i q
      · exact .inl q
      · exact .inr q
      · cases hx
    have keep : ∀ kk, kk ≠ NameKind.free → scope.names.lookup x = some kk → (X.blk s H scope (compEnvC scope cl c X.env) fp).env.scope.names.lookup x = some kk := fun kk hk q => lookup_relS_keep (sc := X.env.scope) hk q
    rcases hl with q | q
    · exact ⟨.inl (keep _ (by decide) q), .inr (keep _ (by decide) q)⟩
    · exact ⟨.inr (keep _ (by decide) q), .inl (by show (scope.names.lookup x == some .cell) = true; rw [q]; rfl)⟩
  · intro u s' hx
    obtain ⟨a, B, sI, pins, σ, H, cls, d, e, I, nb, up, sky, na, os, ag, w⟩ := hx
    exact w.elim
theorem blk_of (cx : Cxt T k X W sc) {scope : Scope} {own : List (Str × Nat)} (h : blkC sc.N (scScope sc) scope own = true) : BlkOk X.N X.env.scope scope own := by
  have b := blkOk_by h
  rw [cx.N]
  refine ⟨b.kind, b.uniq, b.ix, fun y hy e => ?_, b.own⟩
  have := b.free y hy e
  rw [cx.nm]
  exact this
theorem wipe_rd {σ : L2.St} : ∀ {vs : List Nat} {i : Nat}, i ∉ vs → (wipe σ vs)[i]? = σ[i]?
  | [], _, _ => rfl
  | v :: vs, i, h => by
    show ((wipe σ vs).set v none)[i]? = _
    rw [List.getElem?_set_ne (fun z => h (by rw [z]; exact List.mem_cons_self))]
    exact wipe_rd fun z => h (List.mem_cons_of_mem _ z)
theorem wipe_none {σ : L2.St} : ∀ {vs : List Nat} {i : Nat}, i ∈ vs → i < σ.length → (wipe σ vs)[i]? = some none
  | v :: vs, i, h, l => by
    show ((wipe σ vs).set v none)[i]? = _
    by_cases q : v = i
    · subst q
      exact List.getElem?_set_self (by rw [wipe_length]; exact l)
    · rw [List.getElem?_set_ne q]
      exact wipe_none (by rcases List.mem_cons.mp h with z | z; exact absurd z.symm q; exact z) l
theorem wipe_wipe {σ : L2.St} {vs : List Nat} : wipe (wipe σ vs) vs = wipe σ vs := by
  have aux : ∀ (us : List Nat), (∀ u ∈ us, u ∈ vs) → wipe (wipe σ vs) us = wipe σ vs := by
    intro us
    induction us with
    | nil => intro _; rfl
    | cons u us ih =>
      intro hu
      show (wipe (wipe σ vs) us).set u none = wipe σ vs
      rw [ih fun v hv => hu v (List.mem_cons_of_mem _ hv)]
      by_cases l : u < σ.length
      · have := wipe_none (σ := σ) (hu u List.mem_cons_self) l
        exact List.ext_getElem? fun j => by
          by_cases q : u = j
          · subst q
            rw [List.getElem?_set_self (by rw [wipe_length]; exact l), this]
          · rw [List.getElem?_set_ne q]
      · exact List.set_eq_of_length_le (by rw [wipe_length]; omega)
  exact aux vs fun _ h => h
theorem nd_lc (cx : Cxt T k X W sc) {scope : Scope} {t : Tg} {s : Src} {ct : CT} {e : CE} {ifs : List Expr} (hb : blkC sc.N (scScope sc) scope (tgOwn t tg) = true) (hw : (tgOwn t tg).map (·.2) = tslots t)
    (ht : ckTg (blkSc sc scope) t tg = true) (hns : isSet it = false) (hi : PI X tg it (tS T.S W (evSrc C s)))
    (he : ∀ X', Cxt T k X' W0 (blkSc sc scope) → PE X' x (tE T.S W0 (evE C e)))
    (hc : ∀ X', Cxt T k X' W0 (blkSc sc scope) → PTs X' ifs (So.tB T.S W0 (evT C ct))) :
    PE X (.ListComp x [⟨tg, it, ifs, 0⟩] scope pos) (tF T.S W (evF C (.lc e t s ct))) ∧
    ∀ {i : Nat} {n : Str} {np spos : Pos}, sc.N[i]? = some n → sc.nm.lookup n = some .local → (np.line == pos.line) = true → (scope.names.any fun (m, k) => m == n && (k == .local || k == .cell)) = false →
      ∀ {tr : TE}, (∀ σ H Q, tr σ H Q → tF T.S W (evF C (.lc e t s ct)) σ H Q) → PS X (.Assign [.Name n np] (.ListComp x [⟨tg, it, ifs, 0⟩] scope pos) spos) (tAsg tr (gName i)) := by
  have ok := blk_of cx hb
  have fold : ∀ v, foldedSetIterable it X.env v = pure v := fun v => by cases it <;> first | rfl | (simp [isSet] at hns)
  have hN : X.N.Nodup := by rw [cx.N]; exact cx.nd
  have read : ∀ σ H Q, tF T.S W (evF C (.lc e t s ct)) σ H Q → tLc (tS T.S W (evSrc C s)) (tG T.S t) (So.tB T.S W0 (evT C ct)) (tE T.S W0 (evE C e)) ((tgOwn t tg).map (·.2)) σ H Q := by
    rintro σ H Q ⟨g, f, h, R, Fr, out⟩
    rw [Ev.evF] at out
    refine ⟨g, f, h, R, Fr, ?_⟩
    cases qa : evSrc C s f h with
    | exc c1 x1 h1 => rw [qa] at out; exact out
    | stuck => rw [qa] at out; exact out
    | ok ds h1 =>
      rw [qa] at out
      dsimp only at out
      intro J g1 H1 s1 R1 wk Dp hD
      cases ql : Ev.lcL (evE C e) (evT C ct) t f ds [] h1 with
      | exc c1 x1 h2 => rw [ql] at out; exact False.elim out
      | stuck => rw [ql] at out; exact False.elim out
      | ok rs hf =>
        rw [ql] at out
        obtain ⟨rs', er, out⟩ := out
        cases er
        have hD0 := s1.back hD
        refine ⟨fun i m H => m = ds.length - i ∧ i ≤ ds.length ∧ ∃ g' h' acc ws, Rel T.S g' h' H ∧ Step g h _ g' h' H ∧ Ext g1 g' ∧ H Dp = some (.lst ws) ∧ g'.F Dp = none ∧ (∀ n, g'.μ[n]? = some Dp → ¬ live h' n) ∧ VDs T.S g' acc ws ∧
          Ev.lcL (evE C e) (evT C ct) t f (ds.drop i) acc h' = .ok rs hf, ⟨ds.length, by simp, Nat.zero_le _, g1, h1, [], [], R1.new hD, s1.trans R R1 (Step.new R1 hD), Ext.refl, upd_same, R1.free hD, fun n e => R1.notBox hD e, rfl, by simpa using ql⟩, ?_⟩
        rintro i m H2 ⟨rfl, hi, g2, h2, acc, ws, R2, s2, E2, hH, hF, nb, V2, q2⟩
        obtain ⟨w1, w2⟩ := wk g2 h2 H2 E2 R2 i
        by_cases hlt : i < ds.length
        · have hd : ds[i]? = some ds[i] := by simp [hlt]
          obtain ⟨go, yl⟩ := w1 _ hd
          refine .inr ⟨go, _, fun H' n => ⟨ds.length - (i + 1), by omega, n⟩, fun v H3 y => ?_⟩
          obtain ⟨g3, R3, s3, V3⟩ := yl v H3 y
          rw [List.drop_eq_getElem_cons hlt, Ev.lcL] at q2
          cases qt : Ev.asgT t ds[i] f with
          | none => rw [qt] at q2; cases q2
          | some f' =>
            rw [qt] at q2
            dsimp only at q2
            refine ⟨g3, h2, ds[i], R3, V3, asgT_ok t _ _ _ qt, fun σ2 st => ⟨?_, ?_⟩⟩
            · rw [set_wipe t _ _ _ _ st fun j hj => by rw [hw]; exact hj]
              exact wipe_wipe
            · -- the block's frame
              have fr0 : FrRp T.S (fun j => j ∉ tslots t) g3 f (wipe σ ((tgOwn t tg).map (·.2))) := by
                refine ⟨by rw [wipe_length]; exact Fr.1, fun j d' hj e => ?_⟩
                rw [hw]
                obtain ⟨v', e1, e2⟩ := Fr.2 j d' e
                exact ⟨v', by rw [wipe_rd hj]; exact e1, VD.mono (s2.ext.trans s3.ext) _ _ e2⟩
              have fr1 := set_fr t _ _ _ _ _ _ qt st fr0
              have fr2 : FrR T.S g3 f' σ2 := ⟨fr1.1, fun j d' e => fr1.2 j d' (by by_cases z : j ∈ tslots t; exact .inr z; exact .inl z) e⟩
              have keepD : ∀ {g4 : G} {h4 : Mem} {H4 : L2.Hp}, Step g3 h2 H3 g4 h4 H4 → H4 Dp = some (.lst ws) := fun {g4 h4 H4} st4 => by
                have a1 := s3.keep Dp _ hH nb
                exact st4.keep Dp _ a1 fun n e => s3.notBox R2 hH nb n e
              have extra : ∀ {g4 : G} {h4 : Mem} {H4 : L2.Hp}, Step g3 h2 H3 g4 h4 H4 → Rel T.S g4 h4 H4 → Step g2 h2 H2 g4 h4 H4 := fun st4 r4 => s3.trans R2 R3 st4
              refine ⟨g3, f', h2, R3, fr2, ?_⟩
              cases qc : evT C ct f' h2 with
              | exc c1 x1 h3 => rw [qc] at q2; cases q2
              | stuck => rw [qc] at q2; cases q2
              | ok bb h3 =>
                rw [qc] at q2
                intro g4 H4 s4 R4
                have s24 := extra s4 R4
                cases bb with
                | false =>
                  rw [if_neg (by decide)]
                  dsimp only at q2
                  exact ⟨rfl, hlt, g4, h3, acc, ws, R4, s2.trans R R2 s24, E2.trans s24.ext, keepD s4, s24.frz _ _ hH nb hF, s24.notBox R2 hH nb, VDs.mono s24.ext _ _ V2, q2⟩
                | true =>
                  rw [if_pos rfl]
                  dsimp only at q2
                  refine tE_bind R4 (fr2.mono s4.ext) ?_
                  cases qe : evE C e f' h3 with
                  | exc c1 x1 h4 => rw [qe] at q2; cases q2
                  | stuck => rw [qe] at q2; cases q2
                  | ok d h4 =>
                    rw [qe] at q2
                    intro u g5 H5 s5 R5 V5 _
                    have s25 := s24.trans R2 R4 s5
                    dsimp only at q2
                    split at q2
                    · rename_i hl
                      have hH5 : H5 Dp = some (.lst ws) := keepD (s4.trans R3 R4 s5)
                      have hF5 := s25.frz _ _ hH nb hF
                      have nb5 := s25.notBox R2 hH nb
                      refine ⟨ws, hH5, by rw [← VDs.length V2]; exact Nat.lt_of_lt_of_le hl lim_line, rfl, hlt, g5, h4, acc ++ [d], ws ++ [u], R5.other hF5 nb5, (s2.trans R R2 s25).other hD0, E2.trans s25.ext, upd_same, hF5, nb5, (VDs.mono s25.ext _ _ V2).append (VDs.one V5), q2⟩
                    · cases q2
        · have e : i = ds.length := by omega
          subst e
          refine .inl ⟨w2 (Nat.le_refl _), ?_⟩
          rw [List.drop_length, Ev.lcL] at q2
          cases q2
          exact out Dp ws g2 H2 hD0 s2 R2 hH hF nb V2
  have hg : ∀ (s : Shared) (H : L2.Hp) (c : Addr) (cl : List (Str × Addr)) (fp : List Addr), PG (X.blk s H scope (compEnvC scope cl c X.env) fp) tg (tG T.S t) := fun s H c cl fp => sTg (cx.blk ok s H c cl fp) t tg ht
  refine ⟨PE.imp (pe_lc cx.calm hN hi ok hg (fun s H c cl fp => hc _ (cx.blk ok s H c cl fp)) (fun s H c cl fp => he _ (cx.blk ok s H c cl fp)) fold) read, ?_⟩
  intro i n np spos h1 h2 h3 h4 tr htr
  refine PS.imp (ps_setLc (i := i) cx.calm hN (by rw [cx.N]; exact h1) (by rw [cx.nm]; exact h2) (sw_true cx.kind (by rw [cx.nm]; exact h2) h3 h4) hi ok hg (fun s H c cl fp => hc _ (cx.blk ok s H c cl fp)) (fun s H c cl fp => he _ (cx.blk ok s H c cl fp)) fold) ?_
  intro Dd σ H hq
  exact read σ H _ (htr σ H _ hq)
end
end So
end
section
set_option Elab.async false
set_option autoImplicit false
set_option linter.all false
/-! S12: what the checks say, and all expressions at once. -/
namespace So
open PySem PySem.Spec PyProof.Rows L2
open Ev (D Ob Mem R RS RL RB Bop Cop Bi Mt CE CEs CT CTs FE Src CO Tg Tgs evE evL evT evF evO evAnd evOr evTA evTO evSrc)

section
variable {sc : Sc} {e : Expr} {a b c : CE} {es : CEs}
theorem iv_c {d : D} (h : ckE sc (.c d) e = true) : ∃ cn j p, e = .Constant cn j p ∧ ckC d cn = true := by
  unfold ckE at h
  split at h <;> first | contradiction | (rename_i heq; cases heq; exact ⟨_, _, _, rfl, h⟩)
theorem iv_v {i : Nat} (h : ckE sc (.v i) e = true) : ∃ n p, e = .Name n p ∧ varB sc i n = true := by
  unfold ckE at h
  split at h <;> first | contradiction | (rename_i heq; cases heq; exact ⟨_, _, rfl, h⟩)
theorem iv_g {i : Nat} (h : ckE sc (.g i) e = true) : ∃ n p, e = .Name n p ∧ sc.gl[i]? = some n ∧ glB sc n = true := by
  unfold ckE at h
  split at h <;> first | contradiction | (rename_i heq; cases heq; simp only [Bool.and_eq_true, decide_eq_true_eq] at h; exact ⟨_, _, rfl, h.1, h.2⟩)
theorem iv_f {i : Nat} (h : ckE sc (.f i) e = true) : ∃ n p, e = .Name n p ∧ sc.fs[i]? = some n ∧ glB sc n = true := by
  unfold ckE at h
  split at h <;> first | contradiction | (rename_i heq; cases heq; simp only [Bool.and_eq_true, decide_eq_true_eq] at h; exact ⟨_, _, rfl, h.1, h.2⟩)
theorem iv_bin {o : Bop} (h : ckE sc (.bin o a b) e = true) : ∃ x y p, e = .BinOp x (bo o) y p ∧ ckE sc a x = true ∧ ckE sc b y = true := by
  unfold ckE at h
  split at h <;> first | contradiction | (rename_i heq; cases heq; simp only [Bool.and_eq_true, decide_eq_true_eq] at h; obtain ⟨⟨h1, h2⟩, h3⟩ := h; subst h1; exact ⟨_, _, _, rfl, h2, h3⟩)
theorem iv_neg (h : ckE sc (.neg a) e = true) : ∃ x p, e = .UnaryOp .USub x p ∧ ckE sc a x = true := by
  unfold ckE at h
  split at h <;> first | contradiction | (rename_i heq; cases heq; exact ⟨_, _, rfl, h⟩)
theorem iv_cmp {o : Cop} (h : ckE sc (.cmp o a b) e = true) : ∃ x y p, e = .Compare x [co o] [y] p ∧ isSet y = false ∧ ckE sc a x = true ∧ ckE sc b y = true := by
  unfold ckE at h
  split at h <;> first | contradiction | (rename_i heq; cases heq; simp only [Bool.and_eq_true, decide_eq_true_eq, Bool.not_eq_true'] at h; obtain ⟨⟨⟨h1, h2⟩, h3⟩, h4⟩ := h; subst h1; exact ⟨_, _, _, rfl, h2, h3, h4⟩)
theorem iv_chn {o p : Cop} (h : ckE sc (.chn o p a b c) e = true) : ∃ x y z q, e = .Compare x [co o, co p] [y, z] q ∧ isSet y = false ∧ isSet z = false ∧ ckE sc a x = true ∧ ckE sc b y = true ∧ ckE sc c z = true := by
  unfold ckE at h
  split at h <;> first | contradiction | (rename_i heq; cases heq; simp only [Bool.and_eq_true, decide_eq_true_eq, Bool.not_eq_true'] at h; obtain ⟨⟨⟨⟨⟨⟨h1, h2⟩, h3⟩, h4⟩, h5⟩, h6⟩, h7⟩ := h; subst h1; subst h2; exact ⟨_, _, _, _, rfl, h3, h4, h5, h6, h7⟩)
theorem iv_and (h : ckE sc (.and es) e = true) : ∃ vs p, e = .BoolOp .And vs p ∧ ckB sc es vs = true := by
  unfold ckE at h
  split at h <;> first | contradiction | (rename_i heq; cases heq; exact ⟨_, _, rfl, h⟩)
theorem iv_or (h : ckE sc (.or es) e = true) : ∃ vs p, e = .BoolOp .Or vs p ∧ ckB sc es vs = true := by
  unfold ckE at h
  split at h <;> first | contradiction | (rename_i heq; cases heq; exact ⟨_, _, rfl, h⟩)
theorem iv_not (h : ckE sc (.not a) e = true) : ∃ x p, e = .UnaryOp .Not x p ∧ ckE sc a x = true := by
  unfold ckE at h
  split at h <;> first | contradiction | (rename_i heq; cases heq; exact ⟨_, _, rfl, h⟩)
theorem iv_ite {t : CT} (h : ckE sc (.ite t a b) e = true) : ∃ x y z p, e = .IfExp x y z p ∧ ckT sc t x = true ∧ ckE sc a y = true ∧ ckE sc b z = true := by
  unfold ckE at h
  split at h <;> first | contradiction | (rename_i heq; cases heq; simp only [Bool.and_eq_true] at h; exact ⟨_, _, _, _, rfl, h.1.1, h.1.2, h.2⟩)
theorem iv_tup (h : ckE sc (.tup es) e = true) : ∃ vs j p, e = .Tuple vs j p ∧ ckL sc es vs = true := by
  unfold ckE at h
  split at h <;> first | contradiction | (rename_i heq; cases heq; exact ⟨_, _, _, rfl, h⟩)
theorem iv_fr {f : FE} (h : ckE sc (.fr f) e = true) : ckF sc f e = true := by
  unfold ckE at h
  exact h
theorem iv_nw {f : FE} (h : ckE sc (.nw f) e = true) : ckF sc f e = true := by
  unfold ckE at h
  exact h
theorem iv_frz (h : ckE sc (.frz a) e = true) : ckE sc a e = true := by
  unfold ckE at h
  exact h
theorem iv_ix (h : ckE sc (.ix a b) e = true) : ∃ x y p, e = .Subscript x y p ∧ isSlice y = false ∧ ckE sc a x = true ∧ ckE sc b y = true := by
  unfold ckE at h
  split at h <;> first | contradiction | (rename_i heq; cases heq; simp only [Bool.and_eq_true, Bool.not_eq_true'] at h; exact ⟨_, _, _, rfl, h.1.1, h.1.2, h.2⟩)
theorem iv_sl {lo hi : CO} (h : ckE sc (.sl a lo hi) e = true) : ∃ x l u p q, e = .Subscript x (.Slice l u none p) q ∧ ckE sc a x = true ∧ ckO sc lo l = true ∧ ckO sc hi u = true := by
  unfold ckE at h
  split at h <;> first | contradiction | (rename_i heq; cases heq; simp only [Bool.and_eq_true] at h; exact ⟨_, _, _, _, _, rfl, h.1.1, h.1.2, h.2⟩)
theorem iv_call {f : Nat} (h : ckE sc (.call f es) e = true) : ∃ n np vs p, e = .Call (.Name n np) vs [] p ∧ sc.fs[f]? = some n ∧ glB sc n = true ∧ noStar vs = true ∧ ckL sc es vs = true := by
  unfold ckE at h
  split at h <;> first | contradiction | (rename_i heq; cases heq; simp only [Bool.and_eq_true, decide_eq_true_eq] at h; exact ⟨_, _, _, _, rfl, h.1.1.1, h.1.1.2, h.1.2, h.2⟩)
theorem iv_callv {g : CE} (h : ckE sc (.callv g es) e = true) : ∃ x vs p, e = .Call x vs [] p ∧ isSub x = true ∧ noStar vs = true ∧ vs.isEmpty = false ∧ ckE sc g x = true ∧ ckL sc es vs = true := by
  unfold ckE at h
  split at h <;> first | contradiction | (rename_i heq; cases heq; simp only [Bool.and_eq_true, Bool.not_eq_true'] at h; exact ⟨_, _, _, rfl, h.1.1.1.1, h.1.1.1.2, h.1.1.2, h.1.2, h.2⟩)
theorem iv_bi {m : Bi} (h : ckE sc (.bi m es) e = true) : (∃ n np vs p, e = .Call (.Name n np) vs [] p ∧ biN m = n ∧ glB sc n = true ∧ (n == ("" : Str)) = false ∧ noStar vs = true ∧ vs.isEmpty = false ∧ ckL sc es vs = true) ∨
    (m = .lenset ∧ ∃ a, es = .cons a .nil ∧ ∃ np mp v q p, e = .Call (.Name "len" np) [.Call (.Name "set" mp) [v] [] q] [] p ∧ glB sc "len" = true ∧ glB sc "set" = true ∧ noStar [v] = true ∧ ckE sc a v = true) := by
  unfold ckE at h
  split at h <;> first
    | contradiction
    | (rename_i heq; cases heq; simp only [Bool.and_eq_true, decide_eq_true_eq] at h; obtain ⟨⟨⟨⟨⟨h1, h2⟩, h3⟩, h4⟩, h5⟩, h6⟩ := h; subst h1; subst h3; exact .inr ⟨rfl, _, rfl, _, _, _, _, _, rfl, h2, h4, h5, h6⟩)
    | (rename_i heq; cases heq; simp only [Bool.and_eq_true, decide_eq_true_eq, Bool.not_eq_true'] at h; obtain ⟨⟨⟨⟨⟨h1, h2⟩, h3⟩, h4⟩, h5⟩, h6⟩ := h; exact .inl ⟨_, _, _, _, rfl, h1, h2, h3, h4, h5, h6⟩)
theorem iv_mt {m : Mt} {o : CE} (h : ckE sc (.mt m o es) e = true) : ∃ x n ap vs p, e = .Call (.Attribute x n ap) vs [] p ∧ mtN m = n ∧ (n == ("" : Str)) = false ∧ plainO x = true ∧ noStar vs = true ∧ (ap.endLine == p.line) = true ∧ vs.length ≤ 1 ∧ mtArgs m vs = true ∧ ckE sc o x = true ∧ ckL sc es vs = true := by
  unfold ckE at h
  split at h <;> first | contradiction | (rename_i heq; cases heq; simp only [Bool.and_eq_true, decide_eq_true_eq, Bool.not_eq_true'] at h; obtain ⟨⟨⟨⟨⟨⟨⟨⟨h1, h2⟩, h3⟩, h4⟩, h5⟩, h6⟩, h9⟩, h7⟩, h8⟩ := h; exact ⟨_, _, _, _, _, rfl, h1, h2, h3, h4, h5, h6, h9, h7, h8⟩)
theorem iv_lst (h : ckF sc (.lst es) e = true) : ∃ vs p, e = .List vs p ∧ ckL sc es vs = true := by
  unfold ckF at h
  split at h <;> first | contradiction | (rename_i heq; cases heq; exact ⟨_, _, rfl, h⟩)
theorem iv_lc {t : Tg} {s : Src} {ct : CT} (h : ckF sc (.lc a t s ct) e = true) : ∃ x tg it ifs scope p, e = .ListComp x [⟨tg, it, ifs, 0⟩] scope p ∧ blkC sc.N (scScope sc) scope (tgOwn t tg) = true ∧ (tgOwn t tg).map (·.2) = tslots t ∧
    ckTg (blkSc sc scope) t tg = true ∧ ckSrc sc s it = true ∧ ckE (blkSc sc scope) a x = true ∧ ((ifs = [] ∧ ct = .yes) ∨ ∃ i, ifs = [i] ∧ ckT (blkSc sc scope) ct i = true) := by
  unfold ckF at h
  split at h <;> first | contradiction | skip
  rename_i heq
  cases heq
  simp only [Bool.and_eq_true, decide_eq_true_eq] at h
  obtain ⟨⟨⟨⟨⟨⟨h1, h2⟩, h3⟩, h4⟩, h5⟩, h6⟩, h7⟩ := h
  subst h1
  refine ⟨_, _, _, _, _, _, rfl, h2, h3, h4, h5, h6, ?_⟩
  split at h7
  · split at h7
    · exact .inl ⟨rfl, rfl⟩
    · cases h7
  · exact .inr ⟨_, rfl, h7⟩
  · cases h7
theorem iv_sorted (h : ckF sc (.sorted a) e = true) : ∃ n np y p, e = .Call (.Name n np) [y] [] p ∧ n = "sorted" ∧ glB sc n = true ∧ noStar [y] = true ∧ ckE sc a y = true := by
  unfold ckF at h
  split at h <;> first | contradiction | (rename_i heq; cases heq; simp only [Bool.and_eq_true, decide_eq_true_eq] at h; exact ⟨_, _, _, _, rfl, h.1.1.1, h.1.1.2, h.1.2, h.2⟩)
theorem iv_list (h : ckF sc (.list_ a) e = true) : ∃ n np y p, e = .Call (.Name n np) [y] [] p ∧ n = "list" ∧ glB sc n = true ∧ noStar [y] = true ∧ ckE sc a y = true := by
  unfold ckF at h
  split at h <;> first | contradiction | (rename_i heq; cases heq; simp only [Bool.and_eq_true, decide_eq_true_eq] at h; exact ⟨_, _, _, _, rfl, h.1.1.1, h.1.1.2, h.1.2, h.2⟩)
theorem iv_rev (h : ckF sc (.rev a) e = true) : ∃ x j p1 p2 p3 p, e = .Subscript x (.Slice none none (some (.UnaryOp .USub (.Constant (.int 1) j p1) p2)) p3) p ∧ ckE sc a x = true := by
  unfold ckF at h
  split at h <;> first | contradiction | (rename_i heq; cases heq; exact ⟨_, _, _, _, _, _, rfl, h⟩)
theorem iv_rep (h : ckF sc (.rep a b) e = true) : ∃ x y p, e = .BinOp x .Mult y p ∧ ckE sc a x = true ∧ ckE sc b y = true := by
  unfold ckF at h
  split at h <;> first | contradiction | (rename_i heq; cases heq; simp only [Bool.and_eq_true] at h; exact ⟨_, _, _, rfl, h.1, h.2⟩)
theorem iv_sortset (h : ckF sc (.sortset a) e = true) : False := by
  unfold ckF at h
  cases h
theorem iv_it (h : ckSrc sc (.it a) e = true) : isSet e = false ∧ ckE sc a e = true := by
  unfold ckSrc at h
  simp only [Bool.and_eq_true, Bool.not_eq_true'] at h
  exact h
theorem iv_rng (h : ckSrc sc (.rng es) e = true) : ∃ n np vs p, e = .Call (.Name n np) vs [] p ∧ n = "range" ∧ glB sc n = true ∧ noStar vs = true ∧ vs.isEmpty = false ∧ vs.length ≤ 3 ∧ ckL sc es vs = true := by
  unfold ckSrc at h
  split at h <;> first | contradiction | (rename_i heq; cases heq; simp only [Bool.and_eq_true, decide_eq_true_eq, Bool.not_eq_true'] at h; obtain ⟨⟨⟨⟨⟨h1, h2⟩, h3⟩, h4⟩, h5⟩, h6⟩ := h; exact ⟨_, _, _, _, rfl, h1, h2, h3, h4, h5, h6⟩)
theorem iv_enum (h : ckSrc sc (.enum a) e = true) : False := by
  unfold ckSrc at h
  cases h
theorem iv_zip (h : ckSrc sc (.zip a b) e = true) : False := by
  unfold ckSrc at h
  cases h
/-- as many values as arguments, where none is starred -/
theorem evL_len {C : Ev.Cx} : ∀ {es : CEs} {vs : List Expr} {f : Ev.Fr} {h : Mem} {ds : List D} {h1 : Mem}, ckL sc es vs = true → noStar vs = true → evL C es f h = .ok ds h1 → ds.length = vs.length
  | .nil, vs, f, h, ds, h1, k, n, q => by
    cases vs with
    | nil => rw [Ev.evL] at q; cases q; rfl
    | cons v r => simp [ckL] at k
  | .cons e es, vs, f, h, ds, h1, k, n, q => by
    cases vs with
    | nil => simp [ckL] at k
    | cons v r =>
      have k2 : ckL sc es r = true := by
        unfold ckL at k
        simp only [Bool.and_eq_true] at k
        exact k.2
      rw [Ev.evL] at q
      cases qa : evE C e f h with
      | ok d h2 =>
        rw [qa] at q
        dsimp only at q
        cases qb : evL C es f h2 with
        | ok ds2 h3 =>
          rw [qb] at q
          cases q
          have := evL_len (es := es) k2 (noStar_head n).2 qb
          simp [this]
        | exc _ _ _ => rw [qb] at q; cases q
        | stuck => rw [qb] at q; cases q
      | exc _ _ _ => rw [qa] at q; cases q
      | stuck => rw [qa] at q; cases q
  | .star e es, vs, f, h, ds, h1, k, n, q => by
    unfold ckL at k
    split at k <;> first | contradiction | (simp [noStar] at n)
theorem ckL_nil {vs : List Expr} (h : ckL sc es vs = true) (e : vs = []) : es = .nil := by
  subst e
  cases es <;> first | rfl | (simp [ckL] at h)
end
end So
end
section
set_option Elab.async false
set_option autoImplicit false
set_option linter.all false
/-! S13: all expressions at once. -/
namespace So
open PySem PySem.Spec PyProof.Rows L2
open Ev (D Ob Mem R RS RL RB Bop Cop Bi Mt CE CEs CT CTs FE Src CO Tg Tgs evE evL evT evF evO evAnd evOr evTA evTO evSrc)

section
variable {sc : Sc} {e x : Expr} {a b c : CE} {es : CEs} {vs : List Expr}
theorem iv_L0 (h : ckL sc .nil vs = true) : vs = [] := by
  cases vs with
  | nil => rfl
  | cons v r => simp [ckL] at h
theorem iv_L1 (h : ckL sc (.cons a es) vs = true) : ∃ x r, vs = x :: r ∧ noStar [x] = true ∧ ckE sc a x = true ∧ ckL sc es r = true := by
  cases vs with
  | nil => simp [ckL] at h
  | cons v r =>
    unfold ckL at h
    simp only [Bool.and_eq_true] at h
    exact ⟨v, r, rfl, h.1.1, h.1.2, h.2⟩
theorem iv_L2 (h : ckL sc (.star a es) vs = true) : ∃ x p r, vs = .Starred x p :: r ∧ ckE sc a x = true ∧ ckL sc es r = true := by
  unfold ckL at h
  split at h <;> first | contradiction | (rename_i heq; cases heq; simp only [Bool.and_eq_true] at h; exact ⟨_, _, _, rfl, h.1, h.2⟩) | (simp only [Bool.and_eq_true] at h; exact ⟨_, _, _, rfl, h.1, h.2⟩)
theorem iv_B (h : ckB sc (.cons a es) vs = true) : (es = .nil ∧ ∃ x, vs = [x] ∧ ckE sc a x = true) ∨ (es ≠ .nil ∧ ∃ x y r, vs = x :: y :: r ∧ ckE sc a x = true ∧ ckB sc es (y :: r) = true) := by
  cases es with
  | nil =>
    match vs, h with
    | [], h => simp [ckB] at h
    | [x], h => exact .inl ⟨rfl, x, rfl, by simpa [ckB] using h⟩
    | x :: y :: r, h => simp [ckB] at h
  | cons e2 e3 =>
    match vs, h with
    | [], h => simp [ckB] at h
    | [x], h => simp [ckB] at h
    | x :: y :: r, h =>
      rw [ckB, Bool.and_eq_true] at h
      exact .inr ⟨(fun z => by cases z), x, y, r, rfl, h.1, h.2⟩
  | star e2 e3 =>
    match vs, h with
    | [], h => simp [ckB] at h
    | [x], h => simp [ckB] at h
    | x :: y :: r, h =>
      rw [ckB, Bool.and_eq_true] at h
      exact .inr ⟨(fun z => by cases z), x, y, r, rfl, h.1, h.2⟩
theorem iv_TB {t : CT} {ts : CTs} (h : ckTB sc (.cons t ts) vs = true) : (ts = .nil ∧ ∃ x, vs = [x] ∧ ckT sc t x = true) ∨ (ts ≠ .nil ∧ ∃ x y r, vs = x :: y :: r ∧ ckT sc t x = true ∧ ckTB sc ts (y :: r) = true) := by
  cases ts with
  | nil =>
    match vs, h with
    | [], h => simp [ckTB] at h
    | [x], h => exact .inl ⟨rfl, x, rfl, by simpa [ckTB] using h⟩
    | x :: y :: r, h => simp [ckTB] at h
  | cons e2 e3 =>
    match vs, h with
    | [], h => simp [ckTB] at h
    | [x], h => simp [ckTB] at h
    | x :: y :: r, h =>
      rw [ckTB, Bool.and_eq_true] at h
      exact .inr ⟨(fun z => by cases z), x, y, r, rfl, h.1, h.2⟩
theorem iv_Tand {ts : CTs} (h : ckT sc (.and ts) e = true) : ∃ vs p, e = .BoolOp .And vs p ∧ ckTB sc ts vs = true := by
  unfold ckT at h
  split at h <;> first | contradiction | (rename_i heq; cases heq; exact ⟨_, _, rfl, h⟩) | exact ⟨_, _, rfl, h⟩
theorem iv_Tor {ts : CTs} (h : ckT sc (.or ts) e = true) : ∃ vs p, e = .BoolOp .Or vs p ∧ ckTB sc ts vs = true := by
  unfold ckT at h
  split at h <;> first | contradiction | (rename_i heq; cases heq; exact ⟨_, _, rfl, h⟩) | exact ⟨_, _, rfl, h⟩
theorem iv_Tnot {t : CT} (h : ckT sc (.not t) e = true) : ∃ v p, e = .UnaryOp .Not v p ∧ ckT sc t v = true := by
  unfold ckT at h
  split at h <;> first | contradiction | (rename_i heq; cases heq; exact ⟨_, _, rfl, h⟩) | exact ⟨_, _, rfl, h⟩
theorem iv_Tyes (h : ckT sc .yes e = true) : False := by
  simp [ckT] at h
theorem iv_Te (h : ckT sc (.e a) x = true) : (∃ o a1 b1, a = .cmp o a1 b1 ∧ ∃ y z p, x = .Compare y [co o] [z] p ∧ isSet z = false ∧ ckE sc a1 y = true ∧ ckE sc b1 z = true) ∨
    (∃ o p a1 b1 c1, a = .chn o p a1 b1 c1 ∧ ∃ y z w q, x = .Compare y [co o, co p] [z, w] q ∧ isSet z = false ∧ isSet w = false ∧ ckE sc a1 y = true ∧ ckE sc b1 z = true ∧ ckE sc c1 w = true) ∨ (plainE x = true ∧ ckE sc a x = true) := by
  unfold ckT at h
  split at h
  · rename_i heq
    cases heq
    simp only [Bool.and_eq_true, decide_eq_true_eq, Bool.not_eq_true'] at h
    obtain ⟨⟨⟨h1, h2⟩, h3⟩, h4⟩ := h
    subst h1
    exact .inl ⟨_, _, _, rfl, _, _, _, rfl, h2, h3, h4⟩
  · rename_i heq
    cases heq
    simp only [Bool.and_eq_true, decide_eq_true_eq, Bool.not_eq_true'] at h
    obtain ⟨⟨⟨⟨⟨⟨h1, h2⟩, h3⟩, h4⟩, h5⟩, h6⟩, h7⟩ := h
    subst h1; subst h2
    exact .inr (.inl ⟨_, _, _, _, _, rfl, _, _, _, _, rfl, h3, h4, h5, h6, h7⟩)
  · rename_i heq _ _
    cases heq
    simp only [Bool.and_eq_true] at h
    exact .inr (.inr h)
  all_goals first | contradiction | (rename_i heq; cases heq)
theorem ckB_nil (h : ckB sc .nil vs = true) : False := by
  simp [ckB] at h
theorem ckB_star (h : ckB sc (.star a es) vs = true) : False := by
  simp [ckB] at h
theorem ckTB_nil (h : ckTB sc .nil vs = true) : False := by
  simp [ckTB] at h
end

section
variable {T : Tx} {k : Nat}
abbrev GE (T : Tx) (k : Nat) (e : CE) : Prop := ∀ {X : Cx} {W : WX} {sc : Sc} {x : Expr}, Cxt T k X W sc → ckE sc e x = true → PE X x (tE T.S W (evE (T.cx k) e))
theorem bi_nil {X : Cx} {W : WX} {sc : Sc} {vs : List Expr} (h : vs.isEmpty = false) : ∃ v r, vs = v :: r := by
  cases vs with
  | nil => cases h
  | cons v r => exact ⟨v, r, rfl⟩
mutual
theorem sE : ∀ (e : CE) {X : Cx} {W : WX} {sc : Sc} {x : Expr}, Cxt T k X W sc → ckE sc e x = true → PE X x (tE T.S W (evE (T.cx k) e))
  | .c d, X, W, sc, x, cx, h => by
    obtain ⟨cn, j, p, rfl, hc⟩ := iv_c h
    exact nd_c cx hc
  | .v i, X, W, sc, x, cx, h => by
    obtain ⟨n, p, rfl, hc⟩ := iv_v h
    exact nd_v cx hc
  | .g i, X, W, sc, x, cx, h => by
    obtain ⟨n, p, rfl, h1, h2⟩ := iv_g h
    exact nd_g cx h1 h2
  | .f i, X, W, sc, x, cx, h => by
    obtain ⟨n, p, rfl, h1, h2⟩ := iv_f h
    exact nd_f cx h1 h2
  | .bin o a b, X, W, sc, x, cx, h => by
    obtain ⟨y, z, p, rfl, h1, h2⟩ := iv_bin h
    exact nd_bin cx (sE a cx h1) (sE b cx h2)
  | .neg a, X, W, sc, x, cx, h => by
    obtain ⟨y, p, rfl, h1⟩ := iv_neg h
    exact nd_neg cx (sE a cx h1)
  | .cmp o a b, X, W, sc, x, cx, h => by
    obtain ⟨y, z, p, rfl, hs, h1, h2⟩ := iv_cmp h
    exact nd_cmp cx hs (sE a cx h1) (sE b cx h2)
  | .chn o p a b c, X, W, sc, x, cx, h => by
    obtain ⟨y, z, w, q, rfl, hs1, hs2, h1, h2, h3⟩ := iv_chn h
    exact nd_chn cx hs1 hs2 (sE a cx h1) (sE b cx h2) (sE c cx h3)
  | .and es, X, W, sc, x, cx, h => by
    obtain ⟨vs, p, rfl, h1⟩ := iv_and h
    exact PE.imp (sAnd es cx h1) fun σ H Q ⟨g, f, m, R, F0, o⟩ => ⟨g, f, m, R, F0, by rw [Ev.evE] at o; exact o⟩
  | .or es, X, W, sc, x, cx, h => by
    obtain ⟨vs, p, rfl, h1⟩ := iv_or h
    exact PE.imp (sOr es cx h1) fun σ H Q ⟨g, f, m, R, F0, o⟩ => ⟨g, f, m, R, F0, by rw [Ev.evE] at o; exact o⟩
  | .not a, X, W, sc, x, cx, h => by
    obtain ⟨y, p, rfl, h1⟩ := iv_not h
    exact nd_not cx (sE a cx h1)
  | .ite t a b, X, W, sc, x, cx, h => by
    obtain ⟨y, z, w, p, rfl, h1, h2, h3⟩ := iv_ite h
    exact nd_ite cx (sT t cx h1) (sE a cx h2) (sE b cx h3)
  | .tup es, X, W, sc, x, cx, h => by
    obtain ⟨vs, j, p, rfl, h1⟩ := iv_tup h
    exact nd_tup cx (sL es cx h1)
  | .fr e, X, W, sc, x, cx, h => nd_fr (sF e cx (iv_fr h))
  | .nw e, X, W, sc, x, cx, h => nd_nw (sF e cx (iv_nw h))
  | .ix a b, X, W, sc, x, cx, h => by
    obtain ⟨y, z, p, rfl, hs, h1, h2⟩ := iv_ix h
    exact nd_ix cx hs (sE a cx h1) (sE b cx h2)
  | .sl a lo hi, X, W, sc, x, cx, h => by
    obtain ⟨y, l, u, p, q, rfl, h1, h2, h3⟩ := iv_sl h
    exact nd_sl cx (sE a cx h1) (sO lo cx h2) (sO hi cx h3)
  | .call f es, X, W, sc, x, cx, h => by
    obtain ⟨n, np, vs, p, rfl, h1, h2, h3, h4⟩ := iv_call h
    exact nd_call cx h1 h2 h3 (ckL_nil h4) (sL es cx h4)
  | .callv g es, X, W, sc, x, cx, h => by
    obtain ⟨y, vs, p, rfl, h1, h2, h3, h4, h5⟩ := iv_callv h
    cases vs with
    | nil => cases h3
    | cons v r => exact nd_callv cx h1 h2 (sE g cx h4) (sL es cx h5) (by rw [cx.K]; exact cx.ok.kp)
  | .bi m es, X, W, sc, x, cx, h => by
    have ga := fun {vs : List Expr} (h : ckL sc es vs = true) => sL es cx h
    have gl : ∀ a, es = .cons a .nil → ∀ {v : Expr}, ckE sc a v = true → PE X v (tE T.S W (evE (T.cx k) a)) := by
      cases es with
      | nil => intro a e; cases e
      | star b es => intro a e; cases e
      | cons b es =>
        have gb := fun {v : Expr} (h : ckE sc b v = true) => sE b cx h
        intro a e
        cases e
        exact gb
    rcases iv_bi h with ⟨n, np, vs, p, rfl, h1, h2, h3, h4, h5, h6⟩ | ⟨rfl, a, rfl, np, mp, v, q, p, rfl, h1, h2, h3, h4⟩
    · cases vs with
      | nil => cases h5
      | cons v r => exact nd_bi cx h1 h2 h3 h4 (ga h6)
    · exact nd_lenset cx h1 h2 h3 (gl a rfl h4)
  | .mt m o es, X, W, sc, x, cx, h => by
    obtain ⟨y, n, ap, vs, p, rfl, h1, h2, h3, h4, h5, h6, h7, h8, h9⟩ := iv_mt h
    refine nd_mt cx h1 h2 h3 h4 h5 h6 (ckL_nil h9) (sE o cx h8) (sL es cx h9) (fun z => ?_) (fun z => ?_)
    · subst z
      simpa [mtArgs] using h7
    · subst z
      cases m <;> first | rfl | (simp [mtArgs] at h7)
  | .frz a, X, W, sc, x, cx, h => nd_frz cx (sE a cx (iv_frz h))
theorem sO : ∀ (o : CO) {X : Cx} {W : WX} {sc : Sc} {x : Option Expr}, Cxt T k X W sc → ckO sc o x = true → PO X x (tO T.S W (evO (T.cx k) o))
  | .no, X, W, sc, x, cx, h => by
    cases x with
    | none => exact nd_no
    | some x => simp [ckO] at h
  | .so a, X, W, sc, x, cx, h => by
    cases x with
    | none => simp [ckO] at h
    | some x =>
      rw [ckO] at h
      exact nd_so (sE a cx h)
theorem sAnd : ∀ (es : CEs) {X : Cx} {W : WX} {sc : Sc} {vs : List Expr} {p : Pos}, Cxt T k X W sc → ckB sc es vs = true → PE X (.BoolOp .And vs p) (tE T.S W (evAnd (T.cx k) es))
  | .nil, X, W, sc, vs, p, cx, h => (ckB_nil h).elim
  | .star a es, X, W, sc, vs, p, cx, h => (ckB_star h).elim
  | .cons a es, X, W, sc, vs, p, cx, h => by
    rcases iv_B h with ⟨rfl, x, rfl, h1⟩ | ⟨hn, x, y, r, rfl, h1, h2⟩
    · exact PE.imp (pe_one (sE a cx h1)) fun σ H Q ⟨g, f, m, R, F0, o⟩ => ⟨g, f, m, R, F0, by rw [Ev.evAnd] at o; exact o⟩
    · exact nd_and hn (sE a cx h1) (sAnd es cx h2)
theorem sOr : ∀ (es : CEs) {X : Cx} {W : WX} {sc : Sc} {vs : List Expr} {p : Pos}, Cxt T k X W sc → ckB sc es vs = true → PE X (.BoolOp .Or vs p) (tE T.S W (evOr (T.cx k) es))
  | .nil, X, W, sc, vs, p, cx, h => (ckB_nil h).elim
  | .star a es, X, W, sc, vs, p, cx, h => (ckB_star h).elim
  | .cons a es, X, W, sc, vs, p, cx, h => by
    rcases iv_B h with ⟨rfl, x, rfl, h1⟩ | ⟨hn, x, y, r, rfl, h1, h2⟩
    · exact PE.imp (pe_one (sE a cx h1)) fun σ H Q ⟨g, f, m, R, F0, o⟩ => ⟨g, f, m, R, F0, by rw [Ev.evOr] at o; exact o⟩
    · exact nd_or hn (sE a cx h1) (sOr es cx h2)
theorem sL : ∀ (es : CEs) {X : Cx} {W : WX} {sc : Sc} {vs : List Expr}, Cxt T k X W sc → ckL sc es vs = true → PA X vs (tL T.S W (evL (T.cx k) es))
  | .nil, X, W, sc, vs, cx, h => by
    have := iv_L0 h
    subst this
    exact nd_nil
  | .cons a es, X, W, sc, vs, cx, h => by
    obtain ⟨x, r, rfl, hs, h1, h2⟩ := iv_L1 h
    exact nd_cons hs (sE a cx h1) (sL es cx h2)
  | .star a es, X, W, sc, vs, cx, h => by
    obtain ⟨x, p, r, rfl, h1, h2⟩ := iv_L2 h
    exact nd_star cx (sE a cx h1) (sL es cx h2)
theorem sT : ∀ (t : CT) {X : Cx} {W : WX} {sc : Sc} {x : Expr}, Cxt T k X W sc → ckT sc t x = true → PT X x (So.tB T.S W (evT (T.cx k) t))
  | .e a, X, W, sc, x, cx, h => by
    have ge : ∀ {x : Expr}, ckE sc a x = true → PE X x (tE T.S W (evE (T.cx k) a)) := fun h => sE a cx h
    cases a
    case cmp o a1 b1 =>
      rcases iv_Te h with ⟨o, a2, b2, e, y, z, p, rfl, hs, h1, h2⟩ | ⟨_, _, _, _, _, e, _⟩ | ⟨h1, h2⟩
      · cases e
        exact nd_cmpT cx hs (sE a1 cx h1) (sE b1 cx h2)
      · cases e
      · exact nd_val h1 (ge h2)
    case chn o p a1 b1 c1 =>
      rcases iv_Te h with ⟨_, _, _, e, _⟩ | ⟨o, p, a2, b2, c2, e, y, z, w, q, rfl, hs1, hs2, h1, h2, h3⟩ | ⟨h1, h2⟩
      · cases e
      · cases e
        exact nd_chnT cx hs1 hs2 (sE a1 cx h1) (sE b1 cx h2) (sE c1 cx h3)
      · exact nd_val h1 (ge h2)
    all_goals
      rcases iv_Te h with ⟨_, _, _, e, _⟩ | ⟨_, _, _, _, _, e, _⟩ | ⟨h1, h2⟩
      · cases e
      · cases e
      · exact nd_val h1 (ge h2)
  | .and ts, X, W, sc, x, cx, h => by
    obtain ⟨vs, p, rfl, h1⟩ := iv_Tand h
    exact PT.imp (sTA ts cx h1).pt fun σ H Q ⟨g, f, m, R, F0, o⟩ => ⟨g, f, m, R, F0, by rw [Ev.evT] at o; exact o⟩
  | .or ts, X, W, sc, x, cx, h => by
    obtain ⟨vs, p, rfl, h1⟩ := iv_Tor h
    exact PT.imp (sTO ts cx h1).pt fun σ H Q ⟨g, f, m, R, F0, o⟩ => ⟨g, f, m, R, F0, by rw [Ev.evT] at o; exact o⟩
  | .not t, X, W, sc, x, cx, h => by
    obtain ⟨v, p, rfl, h1⟩ := iv_Tnot h
    exact nd_notT (sT t cx h1)
  | .yes, X, W, sc, x, cx, h => (iv_Tyes h).elim
theorem sTA : ∀ (ts : CTs) {X : Cx} {W : WX} {sc : Sc} {vs : List Expr} {p : Pos}, Cxt T k X W sc → ckTB sc ts vs = true → PW X (.BoolOp .And vs p) (So.tB T.S W (evTA (T.cx k) ts))
  | .nil, X, W, sc, vs, p, cx, h => (ckTB_nil h).elim
  | .cons t ts, X, W, sc, vs, p, cx, h => by
    rcases iv_TB h with ⟨rfl, x, rfl, h1⟩ | ⟨hn, x, y, r, rfl, h1, h2⟩
    · exact PW.imp (pw_and1 (sT t cx h1)) fun σ H Q ⟨g, f, m, R, F0, o⟩ => ⟨g, f, m, R, F0, by rw [Ev.evTA] at o; exact o⟩
    · exact nd_andT hn (sT t cx h1) (sTA ts cx h2)
theorem sTO : ∀ (ts : CTs) {X : Cx} {W : WX} {sc : Sc} {vs : List Expr} {p : Pos}, Cxt T k X W sc → ckTB sc ts vs = true → PW X (.BoolOp .Or vs p) (So.tB T.S W (evTO (T.cx k) ts))
  | .nil, X, W, sc, vs, p, cx, h => (ckTB_nil h).elim
  | .cons t ts, X, W, sc, vs, p, cx, h => by
    rcases iv_TB h with ⟨rfl, x, rfl, h1⟩ | ⟨hn, x, y, r, rfl, h1, h2⟩
    · exact PW.imp (pw_or1 (sT t cx h1)) fun σ H Q ⟨g, f, m, R, F0, o⟩ => ⟨g, f, m, R, F0, by rw [Ev.evTO] at o; exact o⟩
    · exact nd_orT hn (sT t cx h1) (sTO ts cx h2)
theorem sF : ∀ (e : FE) {X : Cx} {W : WX} {sc : Sc} {x : Expr}, Cxt T k X W sc → ckF sc e x = true → PE X x (tF T.S W (evF (T.cx k) e))
  | .lst es, X, W, sc, x, cx, h => by
    obtain ⟨vs, p, rfl, h1⟩ := iv_lst h
    exact nd_lst cx (sL es cx h1)
  | .lc a t s c, X, W, sc, x, cx, h => by
    obtain ⟨y, tg, it, ifs, scope, p, rfl, h1, h2, h3, h4, h5, h6⟩ := iv_lc h
    refine (nd_lc cx h1 h2 h3 (sSrcF s h4) (sSrc s cx h4) (fun X' c' => sE a c' h5) (fun X' c' => ?_)).1
    rcases h6 with ⟨rfl, rfl⟩ | ⟨i, rfl, h7⟩
    · exact ⟨fun pins st σ H Q I ⟨g, f, m, R, F0, o⟩ => pts_nil.run pins st σ H Q I (by rw [Ev.evT] at o; exact o g H (Step.refl R) R)⟩
    · exact pts_one (sT c c' h7)
  | .sorted a, X, W, sc, x, cx, h => by
    obtain ⟨n, np, y, p, rfl, h1, h2, h3, h4⟩ := iv_sorted h
    exact nd_sorted cx h1 h2 h3 (sE a cx h4)
  | .sortset a, X, W, sc, x, cx, h => (iv_sortset h).elim
  | .list_ a, X, W, sc, x, cx, h => by
    obtain ⟨n, np, y, p, rfl, h1, h2, h3, h4⟩ := iv_list h
    exact nd_list cx h1 h2 h3 (sE a cx h4)
  | .rev a, X, W, sc, x, cx, h => by
    obtain ⟨y, j, p1, p2, p3, p, rfl, h1⟩ := iv_rev h
    exact nd_rev cx (sE a cx h1)
  | .rep a b, X, W, sc, x, cx, h => by
    obtain ⟨y, z, p, rfl, h1, h2⟩ := iv_rep h
    exact nd_rep cx (sE a cx h1) (sE b cx h2)
theorem sSrcF : ∀ (s : Src) {sc : Sc} {x : Expr}, ckSrc sc s x = true → isSet x = false
  | .it a, sc, x, h => (iv_it h).1
  | .rng es, sc, x, h => by
    obtain ⟨n, np, vs, p, rfl, _⟩ := iv_rng h
    rfl
  | .enum a, sc, x, h => (iv_enum h).elim
  | .zip a b, sc, x, h => (iv_zip h).elim
theorem sSrc : ∀ (s : Src) {X : Cx} {W : WX} {sc : Sc} {x tg : Expr}, Cxt T k X W sc → ckSrc sc s x = true → PI X tg x (tS T.S W (evSrc (T.cx k) s))
  | .it a, X, W, sc, x, tg, cx, h => nd_it cx (sE a cx (iv_it h).2)
  | .rng es, X, W, sc, x, tg, cx, h => by
    obtain ⟨n, np, vs, p, rfl, h1, h2, h3, h4, h5, h6⟩ := iv_rng h
    cases vs with
    | nil => cases h4
    | cons v r => exact nd_rng cx h1 h2 h3 (by intro z; cases z) (sL es cx h6) h5 (fun f m ds h1 q => evL_len h6 h3 q)
  | .enum a, X, W, sc, x, tg, cx, h => (iv_enum h).elim
  | .zip a b, X, W, sc, x, tg, cx, h => (iv_zip h).elim
end
end
end So
end
section
set_option Elab.async false
set_option autoImplicit false
set_option linter.all false
/-! S14: statements. -/
namespace So
open PySem PySem.Spec PyProof.Rows L2
open Ev (D Ob Mem R RS RL RB Bop Cop Bi Mt CE CEs CT CTs FE Src CO Tg Tgs CS CSs Su evE evL evT evF evO evAnd evOr evTA evTO evSrc evS evSs)

/-! ### the reading of statements -/
def OutS (S : Sx) (W : WX) (K : Ends) (g : G) (h : Mem) (H : L2.Hp) : RS → Prop
  | .nx f h' => ∀ σ g' H', Step g h H g' h' H' → Rel S g' h' H' → FrR S g' f σ → K.nx σ H'
  | .bk f h' => ∀ σ g' H', Step g h H g' h' H' → Rel S g' h' H' → FrR S g' f σ → K.bk σ H'
  | .ct f h' => ∀ σ g' H', Step g h H g' h' H' → Rel S g' h' H' → FrR S g' f σ → K.ct σ H'
  | .rt d h' => ∀ v g' H', Step g h H g' h' H' → Rel S g' h' H' → VD S g' d v → K.rt v H'
  | .exc c x f h' => x = .non ∧ ∀ σ g' H', Step g h H g' h' H' → Rel S g' h' H' → FrR S g' f σ → W (.ref (S.ca c)) none σ H'
  | .stuck => False
def tSt (S : Sx) (W : WX) (ev : Ev.Fr → Mem → RS) : TS := fun K σ H => ∃ g f h, Rel S g h H ∧ FrR S g f σ ∧ OutS S W K g h H (ev f h)
section
variable {S : Sx} {W W' : WX} {K K' : Ends} {g g' : G} {h h' : Mem} {H H' : L2.Hp}
theorem OutS.shift (r : Rel S g h H) (r' : Rel S g' h' H') (st : Step g h H g' h' H') : ∀ {x : RS}, OutS S W K g h H x → OutS S W K g' h' H' x
  | .nx f h2, o => fun σ g2 H2 s2 r2 z => o σ g2 H2 (st.trans r r' s2) r2 z
  | .bk f h2, o => fun σ g2 H2 s2 r2 z => o σ g2 H2 (st.trans r r' s2) r2 z
  | .ct f h2, o => fun σ g2 H2 s2 r2 z => o σ g2 H2 (st.trans r r' s2) r2 z
  | .rt d h2, o => fun v g2 H2 s2 r2 z => o v g2 H2 (st.trans r r' s2) r2 z
  | .exc c x f h2, o => ⟨o.1, fun σ g2 H2 s2 r2 z => o.2 σ g2 H2 (st.trans r r' s2) r2 z⟩
  | .stuck, o => o
/-- an expression's error, as a statement's -/
theorem okW_of {f : Ev.Fr} {σ : L2.St} {c : Nat} {x : D} {h1 : Mem} (fr : FrR S g f σ) (o : OutS S W K g h H (.exc c x f h1)) : OkW S W σ g h H c x h1 :=
  ⟨o.1, fun g' H' st r => o.2 σ g' H' st r (fr.mono st.ext)⟩
end
theorem ext_mu {g g' : G} {n : Nat} {p : Addr} (e : Ext g g') (h : g.μ[n]? = some p) : g'.μ[n]? = some p := by
  obtain ⟨r, q⟩ := e.pre
  rw [q, List.getElem?_append_left (List.getElem?_eq_some_iff.mp h).1]
  exact h
theorem frRp_all {S : Sx} {g : G} {f : Ev.Fr} {σ : L2.St} (r : FrR S g f σ) : FrRp S (fun _ => True) g f σ := ⟨r.1, fun i d _ e => r.2 i d e⟩
theorem frR_of {S : Sx} {g : G} {f : Ev.Fr} {σ : L2.St} {P : Nat → Prop} (r : FrRp S P g f σ) (h : ∀ i, P i) : FrR S g f σ := ⟨r.1, fun i d e => r.2 i d (h i) e⟩
theorem set_frR {S : Sx} {g : G} {t : Tg} {d : D} {f f' : Ev.Fr} {σ σ' : L2.St} (q : Ev.asgT t d f = some f') (st : SetT S g t d σ σ') (r : FrR S g f σ) : FrR S g f' σ' :=
  frR_of (set_fr t d f f' σ σ' _ q st (frRp_all r)) fun _ => .inl trivial
theorem fr_set {S : Sx} {g : G} {f : Ev.Fr} {σ : L2.St} {i : Nat} {d : D} {v : V} (r : FrR S g f σ) (w : VD S g d v) : FrR S g (f.set i (some d)) (σ.set i (some v)) := by
  refine ⟨by simp [r.1], fun j d' e => ?_⟩
  by_cases k : i = j
  · subst k
    by_cases hl : i < f.length
    · rw [List.getElem?_set_self hl] at e
      cases e
      exact ⟨v, List.getElem?_set_self (by rw [← r.1]; exact hl), w⟩
    · rw [List.getElem?_eq_none (by simpa using hl)] at e
      cases e
  · rw [List.getElem?_set_ne k] at e ⊢
    exact r.2 j d' e

/-- the context of a def's statements -/
structure CxS (T : Tx) (k : Nat) (X : Cx) (W : WX) (sc : Sc) : Prop where
  c : Cxt T k X W sc
  hs : X.stack = X.env :: X.outer
  hf : X.env.frame = some X.env.locals

section
variable {T : Tx} {k : Nat} {X : Cx} {W : WX} {sc : Sc} {C : Ev.Cx} {x y z tg it : Expr} {a b c : CE} {pos p1 p2 p3 : Pos} {es : CEs} {vs : List Expr} {t : Tg}

/-! ### storing -/
def notLc : Expr → Bool
  | .ListComp .. => false
  | .SetComp .. => false
  | .DictComp .. => false
  | _ => true
theorem sw_no {o : Option Expr} {l : Nat} {env : Env} (h : notLc x = true) : swapsWith x o l env = pure false := by
  cases x <;> first | rfl | (simp [notLc] at h)
def noSwap (tg v : Expr) : Bool := match tg, v with
  | .Tuple .., .Tuple vs _ _ => vs.all (foldedForSure 8)
  | .Tuple .., _ => true
  | .Name .., _ => true
  | .Subscript .., _ => true
  | _, _ => false
theorem st_no {env : Env} (h : noSwap tg x = true) : swappedStores [tg] x env = pure none := by
  cases tg <;> simp only [noSwap] at h <;> try (cases h; done)
  case Tuple ts j p =>
    cases x
    case Tuple vs j2 p2 =>
      simp only [swappedStores]
      dsimp only at h
      rw [h]
      repeat' (first | rfl | split)
    all_goals rfl
  all_goals (cases x <;> rfl)
theorem asg1 (h : noSwap tg x = true) {env : Env} : (assignEach [tg] env).map (·.2) = [assign tg env] := by
  cases tg <;> first | rfl | (simp [noSwap] at h)
/-- the reading of an assignment -/
theorem asg_read {tx : TE} (hx : ∀ σ H Q, tE T.S W (evE C a) σ H Q → tx σ H Q) {K : Ends} {σ : L2.St} {H : L2.Hp} (hq : tSt T.S W (evS C (.asg t a)) K σ H) : tAsg tx (tG T.S t) K σ H := by
  obtain ⟨g, f, h, R, Fr, out⟩ := hq
  rw [Ev.evS] at out
  refine hx σ H _ (tE_bind R Fr ?_)
  cases qa : evE C a f h with
  | ok d h1 =>
    rw [qa] at out
    intro v g1 H1 s1 R1 V1 F1
    dsimp only at out
    cases qt : Ev.asgT t d f with
    | none => rw [qt] at out; exact False.elim out
    | some f' =>
      rw [qt] at out
      exact ⟨g1, h1, d, R1, V1, asgT_ok t d f f' qt, fun σ' st => out σ' g1 H1 s1 R1 (set_frR qt st F1)⟩
  | exc c1 x1 h1 => rw [qa] at out; exact okW_of Fr out
  | stuck => rw [qa] at out; exact False.elim out
theorem st_asg (cx : Cxt T k X W sc) (hl : notLc x = true) (hn : noSwap tg x = true) (ha : PE X x (tE T.S W (evE C a))) (hg : ckTg sc t tg = true) : PS X (.Assign [tg] x pos) (tSt T.S W (evS C (.asg t a))) :=
  PS.imp (ps_asg ha (sTg cx t tg hg) (sw_no hl) (st_no hn) (asg1 hn)) fun K σ H hq => asg_read (fun _ _ _ h => h) hq
theorem setix_read {o i : CE} {K : Ends} {σ : L2.St} {H : L2.Hp} (hq : tSt T.S W (evS C (.setix o i a)) K σ H) : tAsg (tE T.S W (evE C a)) (gSub (tE T.S W (evE C o)) (tE T.S W (evE C i)) rSetL) K σ H := by
  obtain ⟨g, f, h, R, Fr, out⟩ := hq
  rw [Ev.evS] at out
  refine tE_bind R Fr ?_
  cases qa : evE C a f h with
  | ok d h1 =>
    rw [qa] at out
    intro v g1 H1 s1 R1 V1 F1
    refine tE_bind R1 F1 ?_
    dsimp only at out
    cases qb : evE C o f h1 with
    | ok d2 h2 =>
      rw [qb] at out
      intro u g2 H2 s2 R2 V2 F2
      have s12 := s1.trans R R1 s2
      cases d2 with
      | loc n =>
        refine tE_bind R2 F2 ?_
        dsimp only at out
        cases qc : evE C i f h2 with
        | ok d3 h3 =>
          rw [qc] at out
          intro w g3 H3 s3 R3 V3 F3
          have s13 := s12.trans R R2 s3
          cases d3 with
          | int kk =>
            cases V3
            dsimp only at out
            obtain ⟨p, e1, e2⟩ := V2
            subst e1
            have e2' : g3.μ[n]? = some p := ext_mu s3.ext e2
            cases qd : h3[n]? with
            | none => rw [qd] at out; exact False.elim out
            | some ob =>
              rw [qd] at out
              cases ob with
              | box dd =>
                cases dd with
                | lst ds =>
                  dsimp only at out
                  cases qe : Ev.ixN ds.length kk with
                  | none => rw [qe] at out; exact False.elim out
                  | some j =>
                    rw [qe] at out
                    obtain ⟨ws, f1, f2⟩ := R3.ob n _ _ e2' qd
                    have V1' := VD.mono s3.ext _ _ (VD.mono s2.ext _ _ V1)
                    refine ⟨p, ws, kk, j, rfl, rfl, f1, by rw [← VDs.length f2]; exact qe, ?_⟩
                    have lv : live h3 n := ⟨_, qd, by intro z; cases z⟩
                    have st := Step.write (ds := ds.set j d) (vs := ws.set j v) R3 e2' lv
                    have R4 := R3.write e2' lv (VDs.set V1' j f2)
                    exact out σ g3 _ (s13.trans R R3 st) R4 F3
                | _ => exact False.elim out
              | _ => exact False.elim out
          | _ => exact False.elim out
        | exc c1 x1 h2 => rw [qc] at out; exact OkW.shift R R2 s12 (okW_of Fr out)
        | stuck => rw [qc] at out; exact False.elim out
      | _ => exact False.elim out
    | exc c1 x1 h2 => rw [qb] at out; exact OkW.shift R R1 s1 (okW_of Fr out)
    | stuck => rw [qb] at out; exact False.elim out
  | exc c1 x1 h1 => rw [qa] at out; exact okW_of Fr out
  | stuck => rw [qa] at out; exact False.elim out
end
end So
end
section
set_option Elab.async false
set_option autoImplicit false
set_option linter.all false
/-! S15: statements, one by one. -/
namespace So
open PySem PySem.Spec PyProof.Rows L2
open Ev (D Ob Mem R RS RL RB Bop Cop Bi Mt CE CEs CT CTs FE Src CO Tg Tgs CS CSs Su evE evL evT evF evO evAnd evOr evTA evTO evSrc evS evSs)
section
variable {T : Tx} {k : Nat} {X : Cx} {W : WX} {sc : Sc} {C : Ev.Cx} {x y z tg it : Expr} {a b c : CE} {pos p1 p2 p3 : Pos} {es : CEs} {vs : List Expr} {t : Tg}
theorem st_setix {o i : CE} {ox ix : Expr} (hl : notLc x = true) (hi : isSlice ix = false) (ha : PE X x (tE T.S W (evE C a))) (ho : PE X ox (tE T.S W (evE C o))) (hx : PE X ix (tE T.S W (evE C i))) :
    PS X (.Assign [.Subscript ox ix p1] x pos) (tSt T.S W (evS C (.setix o i a))) :=
  PS.imp (ps_asg ha (pg_sub ho hx set_list (fun v => by cases ix <;> first | rfl | (simp [isSlice] at hi))) (sw_no (o := some (.Subscript ox ix p1)) (l := pos.line) (env := X.env) hl) (st_no rfl) rfl) fun K σ H hq => setix_read hq

/-! ### name op= -/
def rAug (o : Bop) : TIp := fun v w H Q => match o with
  | .add => (∃ i j, v = .int i ∧ w = .int j ∧ Q (.int (i + j)) H) ∨ (∃ i j, v = .str i ∧ w = .str j ∧ i.length + j.length ≤ sizeLine ∧ Q (.str (i ++ j)) H)
  | .sub => ∃ i j, v = .int i ∧ w = .int j ∧ Q (.int (i - j)) H
  | _ => False
theorem ip_aug (o : Bop) : PIp X (bo o) (rAug o) := by
  intro pins s σ H v w u r Q I r1 r2 h
  cases o with
  | add =>
    rcases h with h | h
    · exact ip_add pins s σ H v w u r Q I r1 r2 h
    · exact iop_add_str pins s σ H v w u r Q I r1 r2 h
  | sub => exact ip_sub pins s σ H v w u r Q I r1 r2 h
  | mul => exact False.elim h
  | fdiv => exact False.elim h
  | mod => exact False.elim h
  | pow => exact False.elim h
theorem st_aug (cx : Cxt T k X W sc) {i : Nat} {n : Str} {o : Bop} (hi : sc.N[i]? = some n) (hl : locB sc n = true) (ha : PE X x (tE T.S W (evE C a))) : PS X (.AugAssign (.Name n p1) (bo o) x pos) (tSt T.S W (evS C (.aug i o a))) := by
  obtain ⟨h1, h2⟩ := cx.oc n hl
  refine PS.imp (ps_aug (i := i) (by rw [cx.N]; exact cx.nd) (by rw [cx.N]; exact hi) h1 ha (ip_aug o) h2) ?_
  rintro K σ H ⟨g, f, h, R, Fr, out⟩
  rw [Ev.evS] at out
  split at out
  · rename_i d qd
    obtain ⟨v, e1, V⟩ := Fr.2 i d qd
    refine ⟨v, e1, tE_bind R Fr ?_⟩
    cases qa : evE C a f h with
    | ok d2 h1 =>
      rw [qa] at out
      intro w g1 H1 s1 R1 V1 F1
      dsimp only at out
      have V0 := VD.mono s1.ext _ _ V
      split at out
      · cases V0; cases V1
        exact .inl ⟨_, _, rfl, rfl, out _ g1 H1 s1 R1 (fr_set F1 rfl)⟩
      · cases V0; cases V1
        exact ⟨_, _, rfl, rfl, out _ g1 H1 s1 R1 (fr_set F1 rfl)⟩
      · split at out
        · rename_i hl
          obtain ⟨rfl, o1⟩ := V0
          obtain ⟨rfl, o2⟩ := V1
          refine .inr ⟨_, _, rfl, rfl, ?_, ?_⟩
          · rw [tx_len, tx_len]
            exact lim_of hl
          · rw [tx_app]
            exact out _ g1 H1 s1 R1 (fr_set F1 ⟨rfl, fun c hc => (List.mem_append.mp hc).elim (o1 c) (o2 c)⟩)
        · exact False.elim out
      · exact False.elim out
    | exc c1 x1 h1 => rw [qa] at out; exact okW_of Fr out
    | stuck => rw [qa] at out; exact False.elim out
  · exact False.elim out

/-! ### a, b = x, y -/
def parC (sc : Sc) (x y : Str) (px py : Pos) (a b : Expr) : Bool :=
  decide (sc.nm.lookup x = some .local) && decide (sc.nm.lookup y = some .local) && (px.line == py.line) && decide (x ≠ y) && noStar [a, b] && !([a, b].all (foldedForSure 8)) && !([a, b].all (constantsAlone 8))
theorem par_sw {env : Env} {x y : Str} {px py pt : Pos} {kt k2 : Nat} {pt2 : Pos} {a b : Expr} (hk : env.scope.kind = .function) (hx : env.scope.names.lookup x = some .local) (hy : env.scope.names.lookup y = some .local) (hl : (px.line == py.line) = true) (hn : x ≠ y)
    (hs : noStar [a, b] = true) (h1 : ([a, b].all (foldedForSure 8)) = false) (h2 : ([a, b].all (constantsAlone 8)) = false) :
    swappedStores [.Tuple [.Name x px, .Name y py] kt pt] (.Tuple [a, b] k2 pt2) env = pure (some [x, y]) := by
  have kx : env.kindOf x = some .local := hx
  have ky : env.kindOf y = some .local := hy
  have hb : env.blockKind = .function := by unfold Env.blockKind; rw [hk]; rfl
  have e0 : py.line = px.line := (beq_iff_eq.mp hl).symm
  have st : ([a, b].any fun | Expr.Starred .. => true | _ => false) = false := by
    obtain ⟨n1, n2⟩ := noStar_head hs
    cases a <;> first | (simp [noStar] at n1; done) | (cases b <;> first | rfl | (simp [noStar] at n2))
  have ne : ([x, y] : List Str).eraseDups.length = 2 := by
    have : (y == x) = false := by simpa using fun z : y = x => hn z.symm
    simp [List.eraseDups_cons, this]
  unfold swappedStores
  dsimp only
  rw [hb]
  simp only [List.length_cons, List.length_nil, h1, h2, List.filterMap_cons, List.filterMap_nil, kx, ky, List.head?_cons, Option.map_some, Expr.pos, Option.getD_some, e0, beq_self_eq_true, Bool.and_self, if_true, ne]
  rw [if_neg (by decide), if_neg (by rw [Bool.not_eq_true]; exact st)]
  rfl
theorem st_par (cx : Cxt T k X W sc) {i j : Nat} {n m : Str} {px py pt pt2 : Pos} {kt k2 : Nat} (hi : sc.N[i]? = some n) (hj : sc.N[j]? = some m) (hc : parC sc n m px py x y = true) (ha : PA X [x, y] (tL T.S W (evL C (.cons a (.cons b .nil))))) :
    PS X (.Assign [.Tuple [.Name n px, .Name m py] kt pt] (.Tuple [x, y] k2 pt2) pos) (tSt T.S W (evS C (.par i j a b))) := by
  unfold parC at hc
  simp only [Bool.and_eq_true, decide_eq_true_eq, Bool.not_eq_true'] at hc
  obtain ⟨⟨⟨⟨⟨⟨h1, h2⟩, h3⟩, h4⟩, h5⟩, h6⟩, h7⟩ := hc
  have hij : i ≠ j := fun z => by
    subst z
    rw [hi] at hj
    exact h4 (Option.some.inj hj)
  refine PS.imp (ps_par (i := i) (j := j) cx.calm (by rw [cx.N]; exact cx.nd) (by rw [cx.N]; exact hi) (by rw [cx.N]; exact hj) hij (by rw [cx.nm]; exact h1) (by rw [cx.nm]; exact h2) ha
    (par_sw cx.kind (by rw [cx.nm]; exact h1) (by rw [cx.nm]; exact h2) h3 h4 h5 h6 h7)) ?_
  rintro K σ H ⟨g, f, h, R, Fr, out⟩
  rw [Ev.evS] at out
  refine tL_bind R Fr ?_
  cases qa : evL C (.cons a (.cons b .nil)) f h with
  | ok ds h1 =>
    rw [qa] at out
    intro ws g1 H1 s1 R1 V1 F1
    match ds, out with
    | [d1, d2], out =>
      dsimp only at out
      split at out
      · obtain ⟨v, vr, e, Va, Vb⟩ := V1
        obtain ⟨w, e2, Vw⟩ := VDs.one_of Vb
        subst e2
        exact ⟨v, w, e, out _ g1 H1 s1 R1 (fr_set (fr_set F1 Va) Vw)⟩
      · exact False.elim out
    | [], out => exact False.elim out
    | [_], out => exact False.elim out
    | _ :: _ :: _ :: _, out => exact False.elim out
  | exc c1 x1 h1 => rw [qa] at out; exact okW_of Fr out
  | stuck => rw [qa] at out; exact False.elim out

/-! ### the simple ones -/
theorem st_expr (hl : notLc x = true) (ha : PE X x (tE T.S W (evE C a))) : PS X (.Expr x pos) (tSt T.S W (evS C (.expr a))) := by
  refine PS.imp (ps_expr ha (sw_no hl)) ?_
  rintro K σ H ⟨g, f, h, R, Fr, out⟩
  rw [Ev.evS] at out
  refine tE_bind R Fr ?_
  cases qa : evE C a f h with
  | ok d h1 =>
    rw [qa] at out
    intro v g1 H1 s1 R1 V1 F1
    exact out σ g1 H1 s1 R1 F1
  | exc c1 x1 h1 => rw [qa] at out; exact okW_of Fr out
  | stuck => rw [qa] at out; exact False.elim out
theorem st_ret (ha : PE X x (tE T.S W (evE C a))) : PS X (.Return (some x) pos) (tSt T.S W (evS C (.ret a))) := by
  refine PS.imp (ps_ret ha) ?_
  rintro K σ H ⟨g, f, h, R, Fr, out⟩
  rw [Ev.evS] at out
  refine tE_bind R Fr ?_
  cases qa : evE C a f h with
  | ok d h1 =>
    rw [qa] at out
    intro v g1 H1 s1 R1 V1 F1
    exact out v g1 H1 s1 R1 V1
  | exc c1 x1 h1 => rw [qa] at out; exact okW_of Fr out
  | stuck => rw [qa] at out; exact False.elim out
theorem st_retn : PS X (.Return none pos) (tSt T.S W (evS C .retn)) := by
  refine PS.imp ps_retN ?_
  rintro K σ H ⟨g, f, h, R, Fr, out⟩
  rw [Ev.evS] at out
  exact out .non g H (Step.refl R) R rfl
theorem st_pass : PS X (.Pass pos) (tSt T.S W (evS C .pass)) := by
  refine PS.imp ps_pass ?_
  rintro K σ H ⟨g, f, h, R, Fr, out⟩
  rw [Ev.evS] at out
  exact out σ g H (Step.refl R) R Fr
theorem st_brk : PS X (.Break pos) (tSt T.S W (evS C .brk)) := by
  refine PS.imp ps_break ?_
  rintro K σ H ⟨g, f, h, R, Fr, out⟩
  rw [Ev.evS] at out
  exact out σ g H (Step.refl R) R Fr
theorem st_cont : PS X (.Continue pos) (tSt T.S W (evS C .cont)) := by
  refine PS.imp ps_continue ?_
  rintro K σ H ⟨g, f, h, R, Fr, out⟩
  rw [Ev.evS] at out
  exact out σ g H (Step.refl R) R Fr
theorem st_if {ct : CT} {sa sb : CSs} {ba bb : List Stmt} (hc : PT X x (So.tB T.S W (evT C ct))) (ha : PSs X ba (tSt T.S W (evSs C sa))) (hb : PSs X bb (tSt T.S W (evSs C sb))) : PS X (.If x ba bb pos) (tSt T.S W (evS C (.ite ct sa sb))) := by
  refine PS.imp (ps_if hc ha hb) ?_
  rintro K σ H ⟨g, f, h, R, Fr, out⟩
  rw [Ev.evS] at out
  refine tB_bind R Fr ?_
  cases qa : evT C ct f h with
  | ok d h1 =>
    rw [qa] at out
    intro g1 H1 s1 R1 F1
    cases d with
    | true => rw [if_pos rfl]; exact ⟨g1, f, h1, R1, F1, OutS.shift R R1 s1 out⟩
    | false => rw [if_neg (by decide)]; exact ⟨g1, f, h1, R1, F1, OutS.shift R R1 s1 out⟩
  | exc c1 x1 h1 => rw [qa] at out; exact okW_of Fr out
  | stuck => rw [qa] at out; exact False.elim out
theorem st_raise (cx : Cxt T k X W sc) {cc : Nat} {m : List Nat} {n s : Str} {np : Pos} {j : Nat} (hx : sc.xs[cc]? = some n) (hr : sc.rz.contains cc = true) (hg : glB sc n = true) :
    PS X (.Raise (some (.Call (.Name n np) [.Constant (.str s) j p2] [] p1)) none pos) (tSt T.S W (evS C (.raise cc m))) := by
  obtain ⟨g1, g2⟩ := cx.gl_of hg
  have z := cx.ok.rz cc (by rw [← cx.rz]; simpa using hr) n (by rw [← cx.xs]; exact hx)
  obtain ⟨B, newId, initId, bmB, F, q⟩ := z.ex
  have rr : Raises X (.ref (T.S.ca cc)) := raises_own (by rw [cx.K]; exact z.sub) (by rw [cx.K]; exact z.ty)
  refine PS.imp (L2N.ps_raise cx.calm cx.tk (L2N.pmk_own (m := s) (j := j) F (by rw [cx.K]; exact q) (by rw [cx.mg]; exact z.mg) (by rw [cx.K]; exact z.kp) rr g1 g2)) ?_
  rintro K σ H ⟨g, f, h, R, Fr, out⟩
  rw [Ev.evS] at out
  exact out.2 σ g H (Step.refl R) R Fr
end
end So
end
section
set_option Elab.async false
set_option autoImplicit false
set_option linter.all false
/-! S16: loops, try. -/
namespace So
open PySem PySem.Spec PyProof.Rows L2
open Ev (D Ob Mem R RS RL RB Bop Cop Bi Mt CE CEs CT CTs FE Src CO Tg Tgs CS CSs Su evE evL evT evF evO evAnd evOr evTA evTO evSrc evS evSs)
section
variable {T : Tx} {k : Nat} {X : Cx} {W : WX} {sc : Sc} {C : Ev.Cx} {x y z tg it : Expr} {a b c : CE} {pos p1 p2 p3 : Pos} {es : CEs} {vs : List Expr} {t : Tg}
theorem st_for (cx : Cxt T k X W sc) {s : Src} {body : CSs} {bs : List Stmt} (hg : ckTg sc t tg = true) (hns : isSet it = false) (hi : PI X tg it (tS T.S W (evSrc C s))) (hb : PSs X bs (tSt T.S W (evSs C body))) :
    PS X (.For tg it bs [] pos) (tSt T.S W (evS C (.for_ t s body))) := by
  have fold : ∀ v, foldedSetIterable it X.env v = pure v := fun v => by cases it <;> first | rfl | (simp [isSet] at hns)
  refine PS.imp (ps_for cx.po cx.calm hi (sTg cx t tg hg) hb fold) ?_
  rintro K σ H ⟨g, f, h, R, Fr, out⟩
  rw [Ev.evS] at out
  refine ⟨g, f, h, R, Fr, ?_⟩
  cases qa : evSrc C s f h with
  | exc c1 x1 h1 => rw [qa] at out; exact okW_of Fr out
  | stuck => rw [qa] at out; exact False.elim out
  | ok ds h1 =>
    rw [qa] at out
    dsimp only at out
    intro J g1 H1 s1 R1 wk
    generalize hr : Ev.forL (evSs C body) t ds f h1 = r at out
    refine ⟨fun i m σ H2 => m = ds.length - i ∧ i ≤ ds.length ∧ ∃ g' h' f', Rel T.S g' h' H2 ∧ Step g h H g' h' H2 ∧ Ext g1 g' ∧ FrR T.S g' f' σ ∧ Ev.forL (evSs C body) t (ds.drop i) f' h' = r,
      ⟨ds.length, by simp, Nat.zero_le _, g1, h1, f, R1, s1, Ext.refl, Fr.mono s1.ext, by simpa using hr⟩, ?_⟩
    rintro i m σ2 H2 ⟨rfl, hi, g2, h2, f2, R2, s2, E2, F2, q2⟩
    obtain ⟨w1, w2⟩ := wk g2 h2 H2 E2 R2 i
    by_cases hlt : i < ds.length
    · have hd : ds[i]? = some ds[i] := by simp [hlt]
      obtain ⟨go, yl⟩ := w1 _ hd
      rw [List.drop_eq_getElem_cons hlt, Ev.forL] at q2
      refine .inr ⟨go, _, fun σ' H' n => ⟨ds.length - (i + 1), by omega, n⟩, fun v H3 yv => ?_⟩
      obtain ⟨g3, R3, s3, V3⟩ := yl v H3 yv
      have s13 := s2.trans R R2 s3
      cases qt : Ev.asgT t ds[i] f2 with
      | none =>
        rw [qt] at q2
        subst q2
        exact False.elim out
      | some f3 =>
        rw [qt] at q2
        dsimp only at q2
        refine ⟨g3, h2, ds[i], R3, V3, asgT_ok t _ _ _ qt, fun σ3 st => ⟨g3, f3, h2, R3, set_frR qt st (F2.mono s3.ext), ?_⟩⟩
        cases qb : evSs C body f3 h2 with
        | nx f4 h4 =>
          rw [qb] at q2
          exact fun σ4 g4 H4 s4 R4 F4 => ⟨rfl, hlt, g4, h4, f4, R4, s13.trans R R3 s4, (E2.trans s3.ext).trans s4.ext, F4, q2⟩
        | ct f4 h4 =>
          rw [qb] at q2
          exact fun σ4 g4 H4 s4 R4 F4 => ⟨rfl, hlt, g4, h4, f4, R4, s13.trans R R3 s4, (E2.trans s3.ext).trans s4.ext, F4, q2⟩
        | bk f4 h4 =>
          rw [qb] at q2
          subst q2
          exact fun σ4 g4 H4 s4 R4 F4 => out σ4 g4 H4 (s13.trans R R3 s4) R4 F4
        | rt d h4 =>
          rw [qb] at q2
          subst q2
          exact fun v4 g4 H4 s4 R4 V4 => out v4 g4 H4 (s13.trans R R3 s4) R4 V4
        | exc c1 x1 f4 h4 =>
          rw [qb] at q2
          subst q2
          exact ⟨out.1, fun σ4 g4 H4 s4 R4 F4 => out.2 σ4 g4 H4 (s13.trans R R3 s4) R4 F4⟩
        | stuck =>
          rw [qb] at q2
          subst q2
          exact False.elim out
    · have e : i = ds.length := by omega
      subst e
      refine .inl ⟨w2 (Nat.le_refl _), ?_⟩
      rw [List.drop_length, Ev.forL] at q2
      subst q2
      exact out σ2 g2 H2 s2 R2 F2
theorem st_while (cx : Cxt T k X W sc) {ct : CT} {body : CSs} {bs : List Stmt} (hc : PT X x (So.tB T.S W (evT C ct))) (hb : PSs X bs (tSt T.S W (evSs C body))) : PS X (.While x bs [] pos) (tSt T.S W (evS C (.while_ ct body))) := by
  refine PS.imp (ps_while cx.po hc hb) ?_
  rintro K σ H ⟨g, f, h, R, Fr, out⟩
  rw [Ev.evS] at out
  generalize Ev.WF = w at out
  generalize hr : Ev.whileL (evT C ct) (evSs C body) w f h = r at out
  refine ⟨fun m σ H2 => ∃ g' h' f', Rel T.S g' h' H2 ∧ Step g h H g' h' H2 ∧ FrR T.S g' f' σ ∧ Ev.whileL (evT C ct) (evSs C body) m f' h' = r, ⟨w, g, h, f, R, Step.refl R, Fr, hr⟩, ?_⟩
  rintro m σ2 H2 ⟨g2, h2, f2, R2, s2, F2, q2⟩
  cases m with
  | zero =>
    rw [Ev.whileL] at q2
    subst q2
    exact False.elim out
  | succ m =>
    rw [Ev.whileL] at q2
    refine tB_bind R2 F2 ?_
    cases qt : evT C ct f2 h2 with
    | exc c1 x1 h3 =>
      rw [qt] at q2
      subst q2
      exact ⟨out.1, fun g' H' st r => out.2 σ2 g' H' (s2.trans R R2 st) r (F2.mono st.ext)⟩
    | stuck =>
      rw [qt] at q2
      subst q2
      exact False.elim out
    | ok bb h3 =>
      rw [qt] at q2
      intro g3 H3 s3 R3 F3
      have s13 := s2.trans R R2 s3
      cases bb with
      | false =>
        rw [if_neg (by decide)]
        dsimp only at q2
        subst q2
        exact out σ2 g3 H3 s13 R3 F3
      | true =>
        rw [if_pos rfl]
        dsimp only at q2
        refine ⟨_, fun σ' H' n => ⟨m, Nat.lt_succ_self m, n⟩, g3, f2, h3, R3, F3, ?_⟩
        cases qb : evSs C body f2 h3 with
        | nx f4 h4 =>
          rw [qb] at q2
          exact fun σ4 g4 H4 s4 R4 F4 => ⟨g4, h4, f4, R4, s13.trans R R3 s4, F4, q2⟩
        | ct f4 h4 =>
          rw [qb] at q2
          exact fun σ4 g4 H4 s4 R4 F4 => ⟨g4, h4, f4, R4, s13.trans R R3 s4, F4, q2⟩
        | bk f4 h4 =>
          rw [qb] at q2
          subst q2
          exact fun σ4 g4 H4 s4 R4 F4 => out σ4 g4 H4 (s13.trans R R3 s4) R4 F4
        | rt d h4 =>
          rw [qb] at q2
          subst q2
          exact fun v4 g4 H4 s4 R4 V4 => out v4 g4 H4 (s13.trans R R3 s4) R4 V4
        | exc c1 x1 f4 h4 =>
          rw [qb] at q2
          subst q2
          exact ⟨out.1, fun σ4 g4 H4 s4 R4 F4 => out.2 σ4 g4 H4 (s13.trans R R3 s4) R4 F4⟩
        | stuck =>
          rw [qb] at q2
          subst q2
          exact False.elim out

/-! ### ghosts and sequences -/
theorem st_nil : PSs X [] (tSt T.S W (evSs C .nil)) := by
  refine PSs.imp pss_nil ?_
  rintro K σ H ⟨g, f, h, R, Fr, out⟩
  rw [Ev.evSs] at out
  exact out σ g H (Step.refl R) R Fr
theorem st_cons {st : Stmt} {rest : List Stmt} {s : CS} {ss : CSs} (h1 : PS X st (tSt T.S W (evS C s))) (h2 : PSs X rest (tSt T.S W (evSs C ss))) : PSs X (st :: rest) (tSt T.S W (evSs C (.cons s ss))) := by
  refine PSs.imp (pss_cons h1 h2) ?_
  rintro K σ H ⟨g, f, h, R, Fr, out⟩
  rw [Ev.evSs] at out
  refine ⟨g, f, h, R, Fr, ?_⟩
  cases q : evS C s f h with
  | nx f1 h1 =>
    rw [q] at out
    exact fun σ1 g1 H1 s1 R1 F1 => ⟨g1, f1, h1, R1, F1, OutS.shift R R1 s1 out⟩
  | bk f1 h1 => rw [q] at out; exact out
  | ct f1 h1 => rw [q] at out; exact out
  | rt d h1 => rw [q] at out; exact out
  | exc c1 x1 f1 h1 => rw [q] at out; exact out
  | stuck => rw [q] at out; exact out
theorem st_fz {rest : List Stmt} {i : Nat} {ss : CSs} (h2 : PSs X rest (tSt T.S W (evSs C ss))) : PSs X rest (tSt T.S W (evSs C (.fz i ss))) := by
  refine PSs.imp h2 ?_
  rintro K σ H ⟨g, f, h, R, Fr, out⟩
  rw [Ev.evSs] at out
  split at out
  · rename_i n qn
    split at out
    · rename_i d qd
      obtain ⟨v, e1, p, e2, e3⟩ := Fr.2 i _ qn
      subst e2
      cases d with
      | lst ds =>
        obtain ⟨a2, ws, f1, f2, f3, R2, E2, V2⟩ := R.gone qd
        have f0 := f1
        rw [e3] at f0
        cases f0
        have st := Step.gone R E2 rfl f1 ⟨_, qd, by intro z; cases z⟩
        have F2 := fr_set (i := i) (Fr.mono E2) V2
        have es : σ.set i (some (V.ref p)) = σ := by
          refine List.ext_getElem? fun j => ?_
          by_cases q : i = j
          · subst q
            rw [List.getElem?_set_self (List.getElem?_eq_some_iff.mp e1).1, e1]
          · rw [List.getElem?_set_ne q]
        rw [es] at F2
        exact ⟨_, _, _, R2, F2, OutS.shift R R2 st out⟩
      | _ => exact False.elim (R.ob n _ _ e3 qd)
    · exact False.elim out
  · exact False.elim out
end
end So
end
section
set_option Elab.async false
set_option autoImplicit false
set_option linter.all false
/-! S17: try; all statements at once. -/
namespace So
open PySem PySem.Spec PyProof.Rows L2
open Ev (D Ob Mem R RS RL RB Bop Cop Bi Mt CE CEs CT CTs FE Src CO Tg Tgs CS CSs Su evE evL evT evF evO evAnd evOr evTA evTO evSrc evS evSs)
section
variable {T : Tx} {k : Nat} {X : Cx} {W : WX} {sc : Sc} {x y z tg it : Expr} {a b c : CE} {pos p1 p2 p3 : Pos} {es : CEs} {vs : List Expr} {t : Tg}
theorem CxS.tr (c : CxS T k X W sc) {pn : List (Addr × Obj)} {xe : Value → Shared → Prop} {W' : WX} (tk : L2N.Takes (X.tr pn xe) W') (po : PassesOwn (model X.prog X.w) X.A X.env xe) : CxS T k (X.tr pn xe) W' sc :=
  ⟨⟨c.c.ok, c.c.prog, c.c.w, c.c.K, c.c.mg, c.c.base, c.c.N, c.c.nd, c.c.nm, c.c.kind, c.c.oc, c.c.gl, c.c.fs, c.c.xs, c.c.sub, c.c.rz, c.c.calm, tk, po, c.c.gd, c.c.rm⟩, c.hs, c.hf⟩
/-- a constant, in any context -/
theorem pe_con {X : Cx} {d : D} {cn : Const} {j : Nat} (hc : ckC d cn = true) : PE X (.Constant cn j pos) (fun σ H Q => ∃ v, (∀ g, VD T.S g d v) ∧ Q v H) := by
  cases d <;> cases cn <;> simp only [ckC] at hc <;> try (cases hc; done)
  · exact PE.imp pe_non fun σ H Q ⟨v, w, q⟩ => by
      have : v = V.non := w ⟨fun _ => none, []⟩
      subst this
      exact q
  · rename_i p q
    have : p = q := by simpa using hc
    subst this
    exact PE.imp pe_bl fun σ H Q ⟨v, w, q⟩ => by
      have : v = V.bl p := w ⟨fun _ => none, []⟩
      subst this
      exact q
  · have := of_decide_eq_true hc
    subst this
    exact PE.imp pe_int fun σ H Q ⟨v, w, q⟩ => by
      have : v = V.int _ := w ⟨fun _ => none, []⟩
      subst this
      exact q
  · simp only [Bool.and_eq_true, decide_eq_true_eq, List.all_eq_true] at hc
    obtain ⟨e, o⟩ := hc
    subst e
    exact PE.imp pe_str fun σ H Q ⟨v, w, q⟩ => by
      obtain ⟨e, _⟩ := w ⟨fun _ => none, []⟩
      subst e
      exact q
theorem con_vd {d : D} {cn : Const} (hc : ckC d cn = true) : ∃ v, ∀ g, VD T.S g d v := by
  cases d <;> cases cn <;> simp only [ckC] at hc <;> try (cases hc; done)
  · exact ⟨.non, fun g => rfl⟩
  · exact ⟨.bl _, fun g => rfl⟩
  · exact ⟨.int _, fun g => rfl⟩
  · simp only [Bool.and_eq_true, decide_eq_true_eq, List.all_eq_true] at hc
    exact ⟨.str _, fun g => ⟨rfl, hc.2⟩⟩
/-- what the body's exceptions wish -/
def suT (T : Tx) (k i f : Nat) (a : Addr) (cls : Value) (dd : Option Addr) : TS := fun K σ H => 1 ≤ k ∧ dd = none ∧ ∃ c d g h, cls = .ref (T.S.ca c) ∧ T.Pg.errT f c = some d ∧ (i < σ.length → σ[i]? = some (some (.ref a))) ∧ Rel T.S g h H ∧ ∀ v g' H', Step g h H g' h H' → Rel T.S g' h H' → VD T.S g' d v → K.rt v H'
theorem su_err (cx : CxS T k X W sc) {i f : Nat} {n en : Str} {np ep cp rp : Pos} (hf : sc.fs[f]? = some n) (hg : glB sc n = true) (he : varB sc i en = true) {ad : Addr} {oe : Obj} {cls : Value} {dd : Option Addr} {pn : List (Addr × Obj)} (hz : L2N.Zn cls dd oe) (hd : ∃ vs, oe.data = .fields vs) :
    PSs (X.suite ad ((ad, oe) :: pn)) [.Return (some (.Call (.Name n np) [.Name en ep] [] cp)) rp] (suT T k i f ad cls dd) := by
  obtain ⟨g1, g2⟩ := cx.c.gl_of hg
  obtain ⟨e1, e2⟩ := cx.c.ok.defs f n (by rw [← cx.c.fs]; exact hf)
  unfold varB at he
  simp only [Bool.and_eq_true, decide_eq_true_eq, Bool.not_eq_true'] at he
  obtain ⟨⟨⟨h1, h2⟩, h3⟩, h4⟩ := he
  have vis : Vis X.env.scope en := by
    unfold Vis
    rw [cx.c.nm]
    unfold visB at h2
    split at h2 <;> rename_i q
    · exact .inl q
    · exact .inr (.inl q)
    · exact .inr (.inr q)
    · cases h2
  refine pss_one (PS.imp (t := tRet (fun σ H Q => suT T k i f ad cls dd { nx := fun _ _ => False, rt := Q } σ H)) (ps_ret ⟨fun pins s σ H Q I hq => ?_⟩) fun K σ H h => h)
  obtain ⟨hk, ed, c, d, g, h, e3, e4, e5, R, q⟩ := hq
  have e5 := e5 (by rw [show σ.length = X.N.length from I.len, cx.c.N]; exact (List.getElem?_eq_some_iff.mp h1).1)
  subst e3
  refine wpAny_Call_Name_kw (ld_glob (X := X.suite ad ((ad, oe) :: pn)) I g1 (show X.mg n = _ by rw [cx.c.mg]; exact e1) ?_ g2)
  have hkp : PySem.W.keepIn X.K (.ref (T.S.fa f)) = true := by rw [cx.c.K]; exact e2
  have ha : PA (X.suite ad ((ad, oe) :: pn)) [.Name en ep] (tCons (fun σ H Q => ∃ v, σ[i]? = some (some v) ∧ Q v H) tNil) := pa_cons (pe_var (i := i) (show X.N[i]? = _ by rw [cx.c.N]; exact h1) vis h3 h4) pa_nil
  refine PySem.W.callWith_K (h₀ := X.base) I.ok.mod.kin hkp (thn (ha.run cp pins s σ H (fun vs H1 => vs = [V.ref ad] ∧ H = H1) I ⟨_, e5, rfl, rfl⟩) fun us s1 hh => ?_)
  obtain ⟨vs, H1, I1, r1, ev, eH⟩ := hh
  subst ev; subst eH
  refine ⟨I1.kIn, ?_⟩
  obtain rfl : us = [Value.ref ad] := by
    cases r1 with
    | cons r rr =>
      cases rr
      cases r
      rfl
  have P1 := I1.pin (ad, oe) (List.mem_append_left _ (List.mem_cons_self : (ad, oe) ∈ (ad, oe) :: pn))
  obtain ⟨ws, hw⟩ := hd
  have hpin : L2H.PinOk X.stack H s1 (ad, oe) := ⟨P1.1, P1.2.1, fun hm => (List.mem_cons.mp (I1.stkSub ad hm)).elim P1.2.2.1 P1.2.2.2.1, P1.2.2.2.2⟩
  have e0 : Env0 T.P T.w T.S.K T.mg T.base (X.suite ad ((ad, oe) :: pn)).A X.stack s1 H := by
    have := I1.env0
    rw [show (X.suite ad ((ad, oe) :: pn)).prog = X.prog from rfl, show (X.suite ad ((ad, oe) :: pn)).w = X.w from rfl, show (X.suite ad ((ad, oe) :: pn)).K = X.K from rfl, show (X.suite ad ((ad, oe) :: pn)).mg = X.mg from rfl, show (X.suite ad ((ad, oe) :: pn)).base = X.base from rfl, cx.c.prog, cx.c.w, cx.c.K, cx.c.mg, cx.c.base] at this
    exact this
  have rm1 := cx.c.rm.mono hk
  have run := cx.c.ok.err f c d e4 (X.suite ad ((ad, oe) :: pn)).A X.stack s1 H (ad, oe) g h Q (fun _ _ _ => False) ⟨rm1.dp, rm1.un⟩ cx.c.gd ⟨rfl, ws, hw, hz.2.2 ws hw⟩ hpin e0 hz.1 (by rw [show (ad, oe).2.dict = dd from hz.2.1]; exact ed) R q
  refine wpAny_call (codeAny_mono (R := CR (L2N.CX X.prog X.w) X.stack X.prog X.w H s1 Q (fun _ _ _ => False)) (by rw [cx.c.prog, cx.c.w]; exact run) fun res s' hq => ?_)
  cases res with
  | error e =>
    obtain ⟨_, _, _, _, _, _, _, _, _, _, _, _, z⟩ := hq
    exact False.elim z
  | ok fl =>
    cases fl with
    | ret u => exact I1.after hq
    | next => exact False.elim hq
    | brk => exact False.elim hq
    | cont => exact False.elim hq
/-- the clause's class -/
structure HdC (sc : Sc) (cs : List Nat) (n : Str) (j : Nat) : Prop where
  gl : glB sc n = true
  xs : sc.xs[j]? = some n
  sb : sc.sub[j]? = some cs
theorem HdC.names (cx : Cxt T k X W sc) {cs : List Nat} {n : Str} {j : Nat} (h : HdC sc cs n j) : Names X n (.ref (T.S.ca j)) := by
  obtain ⟨g1, g2⟩ := cx.gl_of h.gl
  exact ⟨g1, g2, .inl (by rw [cx.mg]; exact cx.ok.xn j n (by rw [← cx.xs]; exact h.xs))⟩
/-- the outcome of the body, as the body's own context has it -/
theorem try_out (cx : Cxt T k X W sc) {W' : WX} {K : Ends} {g : G} {h : Mem} {H : L2.Hp} {f0 : Ev.Fr} {body : CSs} {cs : List Nat} {su : Su} {j : Nat} {n : Str} (hd : HdC sc cs n j) (out : OutS T.S W K g h H (evS (T.cx k) (.try_ body cs su) f0 h))
    (hyes : ∀ c f1 h1, cs.contains c = true → PySem.W.exmOne X.K (.ref (T.S.ca c)) (.ref (T.S.ca j)) = some true → OutS T.S W K g h H (match su with
      | .ret d => if d.pure then .rt d h1 else .stuck
      | .err f => match (T.cx k).errT f c with
        | some d => .rt d h1
        | none => .stuck
      | .asg i d => if i < f1.length ∧ d.pure then .nx (f1.set i (some d)) h1 else .stuck) → ∀ σ g' H', Step g h H g' h1 H' → Rel T.S g' h1 H' → FrR T.S g' f1 σ → W' (.ref (T.S.ca c)) none σ H')
    (hno : ∀ c σ H', PySem.W.exmOne X.K (.ref (T.S.ca c)) (.ref (T.S.ca j)) = some false → W (.ref (T.S.ca c)) none σ H' → W' (.ref (T.S.ca c)) none σ H') : OutS T.S W' K g h H (evSs (T.cx k) body f0 h) := by
  rw [Ev.evS] at out
  cases q : evSs (T.cx k) body f0 h with
  | nx f1 h1 => rw [q] at out; exact out
  | bk f1 h1 => rw [q] at out; exact out
  | ct f1 h1 => rw [q] at out; exact out
  | rt d h1 => rw [q] at out; exact out
  | stuck => rw [q] at out; exact out
  | exc c x1 f1 h1 =>
    rw [q] at out
    cases x1 with
    | non =>
      dsimp only at out
      by_cases hc : cs.contains c = true
      · rw [if_pos hc] at out
        have hl := cx.ok.sbl j c cs (by rw [← cx.sub]; exact hd.sb) hc
        have hx := cx.ok.exm j c cs (by rw [← cx.sub]; exact hd.sb) hl
        rw [hc] at hx
        exact ⟨rfl, hyes c f1 h1 hc (by rw [cx.K]; exact hx) out⟩
      · rw [if_neg hc] at out
        split at out
        · rename_i hl
          have hl : c < T.xs.length := by
            have : c < T.Pg.nx := hl
            rw [cx.ok.nx] at this
            exact this
          have hx := cx.ok.exm j c cs (by rw [← cx.sub]; exact hd.sb) hl
          have hc' : cs.contains c = false := by simpa using hc
          rw [hc'] at hx
          exact ⟨rfl, fun σ g' H' st r fr => hno c σ H' (by rw [cx.K]; exact hx) (out.2 σ g' H' st r fr)⟩
        · exact False.elim out
    | _ => exact False.elim out
theorem st_tryErr (cx : CxS T k X W sc) {body : CSs} {bs : List Stmt} {cs : List Nat} {n fnn en : Str} {f i j : Nat} {np np2 ep cp rp hp : Pos} (hd : HdC sc cs n j) (hf : sc.fs[f]? = some fnn) (hg : glB sc fnn = true) (he : varB sc i en = true) (hel : sc.nm.lookup en = some .local)
    (hb : ∀ (W' : WX) (pn : List (Addr × Obj)) (xe : Value → Shared → Prop), CxS T k (X.tr pn xe) W' sc → PSs (X.tr pn xe) bs (tSt T.S W' (evSs (T.cx k) body))) :
    PS X (.Try bs [.ExceptHandler (some (.Name n np)) (some en) [.Return (some (.Call (.Name fnn np2) [.Name en ep] [] cp)) rp] hp] [] [] pos) (tSt T.S W (evS (T.cx k) (.try_ body cs (.err f)))) := by
  have hi : sc.N[i]? = some en := by
    unfold varB at he
    simp only [Bool.and_eq_true, decide_eq_true_eq] at he
    exact he.1.1.1
  refine PS.imp (L2N.ps_try_as (i := i) (tb := fun W' => tSt T.S W' (evSs (T.cx k) body)) (ts := fun a cls dd => suT T k i f a cls dd) cx.hs cx.hf (by rw [cx.c.N]; exact cx.c.nd) (by rw [cx.c.N]; exact hi) (by show X.env.scope.names.lookup en = _; rw [cx.c.nm]; exact hel) (hd.names cx.c) cx.c.tk
    (fun W' pn xe tk po => hb W' pn xe (cx.tr tk po)) (fun ad oe cls dd pn hz hdt => su_err cx hf hg he hz hdt)) ?_
  rintro K σ H ⟨g, f0, h, R, Fr, out⟩
  refine ⟨g, f0, h, R, Fr, try_out cx.c hd out (fun c f1 h1 hc hx o σ' g' H' st r fr => ⟨true, hx, fun _ ad na => ?_, fun z => by cases z⟩) (fun c σ' H' hx w => ⟨false, hx, (fun z => by cases z), fun _ => w⟩)⟩
  dsimp only at o
  cases k with
  | zero => exact False.elim o
  | succ k =>
    have ek : (T.cx (k + 1)).errT = T.Pg.errT := rfl
    rw [ek] at o
    cases qe : T.Pg.errT f c with
    | none => rw [qe] at o; exact False.elim o
    | some d =>
      rw [qe] at o
      exact ⟨by omega, rfl, c, d, g', h1, rfl, qe, fun il => List.getElem?_set_self (by simpa using il), r, fun v g2 H2 s2 r2 w => o v g2 H2 (st.trans R r s2) r2 w⟩
/-- except X: return d -/
theorem st_tryRet (cx : CxS T k X W sc) {body : CSs} {bs : List Stmt} {cs : List Nat} {n : Str} {j u : Nat} {np cp rp hp : Pos} {d : D} {cn : Const} (hd : HdC sc cs n j) (hc : ckC d cn = true)
    (hb : ∀ (W' : WX) (pn : List (Addr × Obj)) (xe : Value → Shared → Prop), CxS T k (X.tr pn xe) W' sc → PSs (X.tr pn xe) bs (tSt T.S W' (evSs (T.cx k) body))) :
    PS X (.Try bs [.ExceptHandler (some (.Name n np)) none [.Return (some (.Constant cn u cp)) rp] hp] [] [] pos) (tSt T.S W (evS (T.cx k) (.try_ body cs (.ret d)))) := by
  refine PS.imp (L2N.ps_try_many (tb := fun W' => tSt T.S W' (evSs (T.cx k) body)) (l := [(.ref (T.S.ca j), fun _ _ _ => tRet (fun σ H Q => ∃ v, (∀ g, VD T.S g d v) ∧ Q v H))]) cx.hs cx.hf cx.c.tk
    (fun W' pn xe tk po => hb W' pn xe (cx.tr tk po)) (.cons (hd.names cx.c) (fun ad oe cls dd pn hz hdt => pss_one (ps_ret (pe_con hc))) .nil)) ?_
  rintro K σ H ⟨g, f0, h, R, Fr, out⟩
  refine ⟨g, f0, h, R, Fr, try_out cx.c hd out (fun c f1 h1 hc' hx o σ' g' H' st r fr => ⟨true, hx, fun _ ad na => ?_, fun z => by cases z⟩) (fun c σ' H' hx w => ⟨false, hx, (fun z => by cases z), fun _ => w⟩)⟩
  dsimp only at o
  obtain ⟨v, hv⟩ := con_vd (T := T) hc
  split at o
  · exact ⟨v, hv, o v g' H' st r (hv g')⟩
  · exact False.elim o
/-- except X: name = d -/
theorem st_tryAsg (cx : CxS T k X W sc) {body : CSs} {bs : List Stmt} {cs : List Nat} {n m : Str} {i j u : Nat} {np mp cp rp hp : Pos} {d : D} {cn : Const} (hd : HdC sc cs n j) (hc : ckC d cn = true) (hi : sc.N[i]? = some m) (hl : locB sc m = true)
    (hb : ∀ (W' : WX) (pn : List (Addr × Obj)) (xe : Value → Shared → Prop), CxS T k (X.tr pn xe) W' sc → PSs (X.tr pn xe) bs (tSt T.S W' (evSs (T.cx k) body))) :
    PS X (.Try bs [.ExceptHandler (some (.Name n np)) none [.Assign [.Name m mp] (.Constant cn u cp) rp] hp] [] [] pos) (tSt T.S W (evS (T.cx k) (.try_ body cs (.asg i d)))) := by
  obtain ⟨o1, o2⟩ := cx.c.oc m hl
  refine PS.imp (L2N.ps_try_many (tb := fun W' => tSt T.S W' (evSs (T.cx k) body)) (l := [(.ref (T.S.ca j), fun _ _ _ => tAsg (fun σ H Q => ∃ v, (∀ g, VD T.S g d v) ∧ Q v H) (gName i))]) cx.hs cx.hf cx.c.tk
    (fun W' pn xe tk po => hb W' pn xe (cx.tr tk po)) (.cons (hd.names cx.c) (fun ad oe cls dd pn hz hdt => pss_one (ps_set (X := X.suite ad ((ad, oe) :: pn)) (show X.N.Nodup by rw [cx.c.N]; exact cx.c.nd) (show X.N[i]? = some m by rw [cx.c.N]; exact hi) o1 (pe_con hc) rfl o2)) .nil)) ?_
  rintro K σ H ⟨g, f0, h, R, Fr, out⟩
  refine ⟨g, f0, h, R, Fr, try_out cx.c hd out (fun c f1 h1 hc' hx o σ' g' H' st r fr => ⟨true, hx, fun _ ad na => ?_, fun z => by cases z⟩) (fun c σ' H' hx w => ⟨false, hx, (fun z => by cases z), fun _ => w⟩)⟩
  dsimp only at o
  obtain ⟨v, hv⟩ := con_vd (T := T) hc
  split at o
  · exact ⟨v, hv, o _ g' H' st r (fr_set fr (hv g'))⟩
  · exact False.elim o
end

/-! ### the checks -/
def lcOk (sc : Sc) (t : Tg) (tg v : Expr) : Bool := match v with
  | .ListComp _ _ scope p => match t, tg with
    | .nm i, .Name n np => decide (sc.nm.lookup n = some .local) && (np.line == p.line) && !(scope.names.any fun (m, k) => m == n && (k == .local || k == .cell))
    | _, _ => false
  | _ => false
def ckSu (sc : Sc) (cs : List Nat) (su : Su) (hs : List ExceptHandler) : Bool := match su, hs with
  | .err f, [.ExceptHandler (some (.Name n _)) (some en) [.Return (some (.Call (.Name fnn _) [.Name en2 _] [] _)) _] _] =>
    glB sc n && decide (sc.sub[sc.xs.idxOf n]? = some cs) && decide (sc.xs[sc.xs.idxOf n]? = some n) && decide (en = en2) && decide (sc.fs[f]? = some fnn) && glB sc fnn && varB sc (sc.N.idxOf en) en && decide (sc.nm.lookup en = some .local)
  | .ret d, [.ExceptHandler (some (.Name n _)) none [.Return (some (.Constant cn _ _)) _] _] =>
    glB sc n && decide (sc.sub[sc.xs.idxOf n]? = some cs) && decide (sc.xs[sc.xs.idxOf n]? = some n) && ckC d cn
  | .asg i d, [.ExceptHandler (some (.Name n _)) none [.Assign [.Name m _] (.Constant cn _ _) _] _] =>
    glB sc n && decide (sc.sub[sc.xs.idxOf n]? = some cs) && decide (sc.xs[sc.xs.idxOf n]? = some n) && ckC d cn && decide (sc.N[i]? = some m) && locB sc m
  | _, _ => false
mutual
def ckS (sc : Sc) : CS → Stmt → Bool
  | .asg t e, .Assign [tg] v _ => ckTg sc t tg && ckE sc e v && ((notLc v && noSwap tg v) || (lcOk sc t tg v && (match e with | .fr _ => true | .nw _ => true | _ => false)))
  | .par i j a b, .Assign [.Tuple [.Name x px, .Name y py] _ _] (.Tuple [v, w] _ _) _ => decide (sc.N[i]? = some x) && decide (sc.N[j]? = some y) && parC sc x y px py v w && ckL sc (.cons a (.cons b .nil)) [v, w]
  | .setix o i e, .Assign [.Subscript ox ix _] v _ => notLc v && !isSlice ix && ckE sc o ox && ckE sc i ix && ckE sc e v
  | .aug i o e, .AugAssign (.Name x _) op v _ => decide (sc.N[i]? = some x) && locB sc x && decide (bo o = op) && ckE sc e v
  | .expr e, .Expr v _ => notLc v && ckE sc e v
  | .ret e, .Return (some v) _ => ckE sc e v
  | .retn, .Return none _ => true
  | .ite t a b, .If c x y _ => ckT sc t c && ckSs sc a x && ckSs sc b y
  | .for_ t s b, .For tg it body [] _ => ckTg sc t tg && ckSrc sc s it && ckSs sc b body
  | .while_ t b, .While c body [] _ => ckT sc t c && ckSs sc b body
  | .raise c _, .Raise (some (.Call (.Name x _) [.Constant (.str _) _ _] [] _)) none _ => decide (sc.xs[c]? = some x) && sc.rz.contains c && glB sc x
  | .pass, .Pass _ => true
  | .brk, .Break _ => true
  | .cont, .Continue _ => true
  | .try_ b cs su, .Try body hs [] [] _ => ckSs sc b body && ckSu sc cs su hs
  | _, _ => false
def ckSs (sc : Sc) : CSs → List Stmt → Bool
  | .nil, [] => true
  | .cons s ss, x :: xs => ckS sc s x && ckSs sc ss xs
  | .fz _ ss, xs => ckSs sc ss xs
  | _, _ => false
end
end So
end
section
set_option Elab.async false
set_option autoImplicit false
set_option linter.all false
/-! S18: all statements at once. -/
namespace So
open PySem PySem.Spec PyProof.Rows L2
open Ev (D Ob Mem R RS RL RB Bop Cop Bi Mt CE CEs CT CTs FE Src CO Tg Tgs CS CSs Su evE evL evT evF evO evAnd evOr evTA evTO evSrc evS evSs)
section
variable {T : Tx} {k : Nat} {X : Cx} {W : WX} {sc : Sc} {x y z tg it : Expr} {a b c : CE} {pos p1 p2 p3 : Pos} {es : CEs} {vs : List Expr} {t : Tg}
theorem asg_readN {C : Ev.Cx} {tx : TE} {i : Nat} (hx : ∀ σ H Q, tE T.S W (evE C a) σ H Q → tx σ H Q) {K : Ends} {σ : L2.St} {H : L2.Hp} (hq : tSt T.S W (evS C (.asg (.nm i) a)) K σ H) : tAsg tx (gName i) K σ H := by
  obtain ⟨g, f, h, R, Fr, out⟩ := hq
  rw [Ev.evS] at out
  refine hx σ H _ (tE_bind R Fr ?_)
  cases qa : evE C a f h with
  | ok d h1 =>
    rw [qa] at out
    intro v g1 H1 s1 R1 V1 F1
    dsimp only at out
    cases qt : Ev.asgT (.nm i) d f with
    | none => rw [qt] at out; exact False.elim out
    | some f' =>
      rw [qt] at out
      exact out _ g1 H1 s1 R1 (set_frR qt ⟨v, V1, rfl⟩ F1)
  | exc c1 x1 h1 => rw [qa] at out; exact okW_of Fr out
  | stuck => rw [qa] at out; exact False.elim out
/-- name = [..] -/
theorem st_setLc (cx : Cxt T k X W sc) {f : FE} (h : ckF sc f x = true) (hl : lcOk sc t tg x = true) (hg : ckTg sc t tg = true) {tr : TE} (htr : ∀ σ H Q, tr σ H Q → tF T.S W (evF (T.cx k) f) σ H Q) :
    ∃ i, t = .nm i ∧ PS X (.Assign [tg] x pos) (tAsg tr (gName i)) := by
  unfold lcOk at hl
  split at hl
  · rename_i elt gens scope p
    split at hl
    · rename_i i n np
      simp only [Bool.and_eq_true, decide_eq_true_eq, Bool.not_eq_true'] at hl
      obtain ⟨⟨l1, l2⟩, l3⟩ := hl
      simp only [ckTg, Bool.and_eq_true, decide_eq_true_eq] at hg
      refine ⟨i, rfl, ?_⟩
      cases f with
      | lc a t s c =>
        obtain ⟨y, tg, it, ifs, scope', p', e, h1, h2, h3, h4, h5, h6⟩ := iv_lc h
        cases e
        refine (nd_lc cx h1 h2 h3 (sSrcF (T := T) (k := k) s h4) (sSrc s cx h4) (fun X' c' => sE a c' h5) (fun X' c' => ?_)).2 hg.1 l1 l2 l3 htr
        rcases h6 with ⟨rfl, rfl⟩ | ⟨i, rfl, h7⟩
        · exact ⟨fun pins st σ H Q I ⟨g, f, m, R, F0, o⟩ => pts_nil.run pins st σ H Q I (by rw [Ev.evT] at o; exact o g H (Step.refl R) R)⟩
        · exact pts_one (sT c c' h7)
      | lst es =>
        obtain ⟨_, _, e, _⟩ := iv_lst h
        cases e
      | sorted a =>
        obtain ⟨_, _, _, _, e, _⟩ := iv_sorted h
        cases e
      | sortset a => exact (iv_sortset h).elim
      | list_ a =>
        obtain ⟨_, _, _, _, e, _⟩ := iv_list h
        cases e
      | rev a =>
        obtain ⟨_, _, _, _, _, _, e, _⟩ := iv_rev h
        cases e
      | rep a b =>
        obtain ⟨_, _, _, e, _⟩ := iv_rep h
        cases e
    · cases hl
  · cases hl

theorem sv_asg {e : CE} {st : Stmt} (h : ckS sc (.asg t e) st = true) : ∃ tg v p, st = .Assign [tg] v p ∧ ckTg sc t tg = true ∧ ckE sc e v = true ∧ ((notLc v = true ∧ noSwap tg v = true) ∨ (lcOk sc t tg v = true ∧ ((∃ f, e = .fr f) ∨ ∃ f, e = .nw f))) := by
  unfold ckS at h
  split at h <;> first | contradiction | skip
  rename_i heq
  cases heq
  simp only [Bool.and_eq_true, Bool.or_eq_true] at h
  obtain ⟨⟨h1, h2⟩, h3⟩ := h
  refine ⟨_, _, _, rfl, h1, h2, h3.imp id fun q => ⟨q.1, ?_⟩⟩
  have := q.2
  split at this
  · exact .inl ⟨_, rfl⟩
  · exact .inr ⟨_, rfl⟩
  · cases this
theorem sv_par {i j : Nat} {st : Stmt} (h : ckS sc (.par i j a b) st = true) : ∃ x px y py kt pt v w k2 pt2 p, st = .Assign [.Tuple [.Name x px, .Name y py] kt pt] (.Tuple [v, w] k2 pt2) p ∧ sc.N[i]? = some x ∧ sc.N[j]? = some y ∧ parC sc x y px py v w = true ∧ ckL sc (.cons a (.cons b .nil)) [v, w] = true := by
  unfold ckS at h
  split at h <;> first | contradiction | (rename_i heq; cases heq; simp only [Bool.and_eq_true, decide_eq_true_eq] at h; exact ⟨_, _, _, _, _, _, _, _, _, _, _, rfl, h.1.1.1, h.1.1.2, h.1.2, h.2⟩)
theorem sv_setix {st : Stmt} (h : ckS sc (.setix a b c) st = true) : ∃ ox ix p1 v p, st = .Assign [.Subscript ox ix p1] v p ∧ notLc v = true ∧ isSlice ix = false ∧ ckE sc a ox = true ∧ ckE sc b ix = true ∧ ckE sc c v = true := by
  unfold ckS at h
  split at h <;> first | contradiction | (rename_i heq; cases heq; simp only [Bool.and_eq_true, Bool.not_eq_true'] at h; obtain ⟨⟨⟨⟨h1, h2⟩, h3⟩, h4⟩, h5⟩ := h; exact ⟨_, _, _, _, _, rfl, h1, h2, h3, h4, h5⟩)
theorem sv_aug {i : Nat} {o : Bop} {st : Stmt} (h : ckS sc (.aug i o a) st = true) : ∃ x p1 v p, st = .AugAssign (.Name x p1) (bo o) v p ∧ sc.N[i]? = some x ∧ locB sc x = true ∧ ckE sc a v = true := by
  unfold ckS at h
  split at h <;> first | contradiction | (rename_i heq; cases heq; simp only [Bool.and_eq_true, decide_eq_true_eq] at h; obtain ⟨⟨⟨h1, h2⟩, h3⟩, h4⟩ := h; subst h3; exact ⟨_, _, _, _, rfl, h1, h2, h4⟩)
theorem sv_expr {st : Stmt} (h : ckS sc (.expr a) st = true) : ∃ v p, st = .Expr v p ∧ notLc v = true ∧ ckE sc a v = true := by
  unfold ckS at h
  split at h <;> first | contradiction | (rename_i heq; cases heq; simp only [Bool.and_eq_true] at h; exact ⟨_, _, rfl, h.1, h.2⟩)
theorem sv_ret {st : Stmt} (h : ckS sc (.ret a) st = true) : ∃ v p, st = .Return (some v) p ∧ ckE sc a v = true := by
  unfold ckS at h
  split at h <;> first | contradiction | (rename_i heq; cases heq; exact ⟨_, _, rfl, h⟩)
theorem sv_retn {st : Stmt} (h : ckS sc .retn st = true) : ∃ p, st = .Return none p := by
  unfold ckS at h
  split at h <;> first | contradiction | (rename_i heq; cases heq; exact ⟨_, rfl⟩) | exact ⟨_, rfl⟩
theorem sv_pass {st : Stmt} (h : ckS sc .pass st = true) : ∃ p, st = .Pass p := by
  unfold ckS at h
  split at h <;> first | contradiction | (rename_i heq; cases heq; exact ⟨_, rfl⟩) | exact ⟨_, rfl⟩
theorem sv_brk {st : Stmt} (h : ckS sc .brk st = true) : ∃ p, st = .Break p := by
  unfold ckS at h
  split at h <;> first | contradiction | (rename_i heq; cases heq; exact ⟨_, rfl⟩) | exact ⟨_, rfl⟩
theorem sv_cont {st : Stmt} (h : ckS sc .cont st = true) : ∃ p, st = .Continue p := by
  unfold ckS at h
  split at h <;> first | contradiction | (rename_i heq; cases heq; exact ⟨_, rfl⟩) | exact ⟨_, rfl⟩
theorem sv_ite {ct : CT} {sa sb : CSs} {st : Stmt} (h : ckS sc (.ite ct sa sb) st = true) : ∃ c x y p, st = .If c x y p ∧ ckT sc ct c = true ∧ ckSs sc sa x = true ∧ ckSs sc sb y = true := by
  unfold ckS at h
  split at h <;> first | contradiction | (rename_i heq; cases heq; simp only [Bool.and_eq_true] at h; exact ⟨_, _, _, _, rfl, h.1.1, h.1.2, h.2⟩)
theorem sv_for {s : Src} {sa : CSs} {st : Stmt} (h : ckS sc (.for_ t s sa) st = true) : ∃ tg it body p, st = .For tg it body [] p ∧ ckTg sc t tg = true ∧ ckSrc sc s it = true ∧ ckSs sc sa body = true := by
  unfold ckS at h
  split at h <;> first | contradiction | (rename_i heq; cases heq; simp only [Bool.and_eq_true] at h; exact ⟨_, _, _, _, rfl, h.1.1, h.1.2, h.2⟩)
theorem sv_while {ct : CT} {sa : CSs} {st : Stmt} (h : ckS sc (.while_ ct sa) st = true) : ∃ c body p, st = .While c body [] p ∧ ckT sc ct c = true ∧ ckSs sc sa body = true := by
  unfold ckS at h
  split at h <;> first | contradiction | (rename_i heq; cases heq; simp only [Bool.and_eq_true] at h; exact ⟨_, _, _, rfl, h.1, h.2⟩)
theorem sv_raise {cc : Nat} {m : List Nat} {st : Stmt} (h : ckS sc (.raise cc m) st = true) : ∃ x np s j p2 p1 p, st = .Raise (some (.Call (.Name x np) [.Constant (.str s) j p2] [] p1)) none p ∧ sc.xs[cc]? = some x ∧ sc.rz.contains cc = true ∧ glB sc x = true := by
  unfold ckS at h
  split at h <;> first | contradiction | (rename_i heq; cases heq; simp only [Bool.and_eq_true, decide_eq_true_eq] at h; exact ⟨_, _, _, _, _, _, _, rfl, h.1.1, h.1.2, h.2⟩)
theorem sv_try {sa : CSs} {cs : List Nat} {su : Su} {st : Stmt} (h : ckS sc (.try_ sa cs su) st = true) : ∃ body hs p, st = .Try body hs [] [] p ∧ ckSs sc sa body = true ∧ ckSu sc cs su hs = true := by
  unfold ckS at h
  split at h <;> first | contradiction | (rename_i heq; cases heq; simp only [Bool.and_eq_true] at h; exact ⟨_, _, _, rfl, h.1, h.2⟩)
theorem st_try (cx : CxS T k X W sc) {body : CSs} {bs : List Stmt} {cs : List Nat} {su : Su} {hs : List ExceptHandler} (h : ckSu sc cs su hs = true)
    (hb : ∀ (W' : WX) (pn : List (Addr × Obj)) (xe : Value → Shared → Prop), CxS T k (X.tr pn xe) W' sc → PSs (X.tr pn xe) bs (tSt T.S W' (evSs (T.cx k) body))) : PS X (.Try bs hs [] [] pos) (tSt T.S W (evS (T.cx k) (.try_ body cs su))) := by
  unfold ckSu at h
  split at h
  · simp only [Bool.and_eq_true, decide_eq_true_eq] at h
    obtain ⟨⟨⟨⟨⟨⟨⟨h1, h2⟩, h3⟩, h4⟩, h5⟩, h6⟩, h7⟩, h8⟩ := h
    subst h4
    exact st_tryErr cx ⟨h1, h3, h2⟩ h5 h6 h7 h8 hb
  · simp only [Bool.and_eq_true, decide_eq_true_eq] at h
    obtain ⟨⟨⟨h1, h2⟩, h3⟩, h4⟩ := h
    exact st_tryRet cx ⟨h1, h3, h2⟩ h4 hb
  · simp only [Bool.and_eq_true, decide_eq_true_eq] at h
    obtain ⟨⟨⟨⟨⟨h1, h2⟩, h3⟩, h4⟩, h5⟩, h6⟩ := h
    exact st_tryAsg cx ⟨h1, h3, h2⟩ h4 h5 h6 hb
  · cases h
end
section
variable {T : Tx} {k : Nat}
mutual
theorem sS : ∀ (s : CS) {X : Cx} {W : WX} {sc : Sc} {st : Stmt}, CxS T k X W sc → ckS sc s st = true → PS X st (tSt T.S W (evS (T.cx k) s))
  | .asg t e, X, W, sc, st, cx, h => by
    obtain ⟨tg, v, p, rfl, h1, h2, h3⟩ := sv_asg h
    rcases h3 with ⟨h3, h4⟩ | ⟨h3, ⟨f, rfl⟩ | ⟨f, rfl⟩⟩
    · exact st_asg cx.c h3 h4 (sE e cx.c h2) h1
    · obtain ⟨i, rfl, q⟩ := st_setLc (pos := p) cx.c (iv_fr h2) h3 h1 (tr := tE T.S W (evE (T.cx k) (.fr f))) fun _ _ _ => fr_read
      exact PS.imp q fun K σ H hq => asg_readN (fun _ _ _ h => h) hq
    · obtain ⟨i, rfl, q⟩ := st_setLc (pos := p) cx.c (iv_nw h2) h3 h1 (tr := tE T.S W (evE (T.cx k) (.nw f))) fun _ _ _ => nw_read
      exact PS.imp q fun K σ H hq => asg_readN (fun _ _ _ h => h) hq
  | .par i j a b, X, W, sc, st, cx, h => by
    obtain ⟨x, px, y, py, kt, pt, v, w, k2, pt2, p, rfl, h1, h2, h3, h4⟩ := sv_par h
    exact st_par cx.c h1 h2 h3 (sL _ cx.c h4)
  | .setix o i e, X, W, sc, st, cx, h => by
    obtain ⟨ox, ix, p1, v, p, rfl, h1, h2, h3, h4, h5⟩ := sv_setix h
    exact st_setix h1 h2 (sE e cx.c h5) (sE o cx.c h3) (sE i cx.c h4)
  | .aug i o e, X, W, sc, st, cx, h => by
    obtain ⟨x, p1, v, p, rfl, h1, h2, h3⟩ := sv_aug h
    exact st_aug cx.c h1 h2 (sE e cx.c h3)
  | .expr e, X, W, sc, st, cx, h => by
    obtain ⟨v, p, rfl, h1, h2⟩ := sv_expr h
    exact st_expr h1 (sE e cx.c h2)
  | .ret e, X, W, sc, st, cx, h => by
    obtain ⟨v, p, rfl, h1⟩ := sv_ret h
    exact st_ret (sE e cx.c h1)
  | .retn, X, W, sc, st, cx, h => by
    obtain ⟨p, rfl⟩ := sv_retn h
    exact st_retn
  | .ite t a b, X, W, sc, st, cx, h => by
    obtain ⟨c, x, y, p, rfl, h1, h2, h3⟩ := sv_ite h
    exact st_if (sT t cx.c h1) (sSs a cx h2) (sSs b cx h3)
  | .for_ t s b, X, W, sc, st, cx, h => by
    obtain ⟨tg, it, body, p, rfl, h1, h2, h3⟩ := sv_for h
    exact st_for cx.c h1 (sSrcF (T := T) (k := k) s h2) (sSrc s cx.c h2) (sSs b cx h3)
  | .while_ t b, X, W, sc, st, cx, h => by
    obtain ⟨c, body, p, rfl, h1, h2⟩ := sv_while h
    exact st_while cx.c (sT t cx.c h1) (sSs b cx h2)
  | .raise c m, X, W, sc, st, cx, h => by
    obtain ⟨x, np, s, j, p2, p1, p, rfl, h1, h2, h3⟩ := sv_raise h
    exact st_raise cx.c h1 h2 h3
  | .pass, X, W, sc, st, cx, h => by
    obtain ⟨p, rfl⟩ := sv_pass h
    exact st_pass
  | .brk, X, W, sc, st, cx, h => by
    obtain ⟨p, rfl⟩ := sv_brk h
    exact st_brk
  | .cont, X, W, sc, st, cx, h => by
    obtain ⟨p, rfl⟩ := sv_cont h
    exact st_cont
  | .try_ b cs su, X, W, sc, st, cx, h => by
    obtain ⟨body, hs, p, rfl, h1, h2⟩ := sv_try h
    exact st_try cx h2 fun W' pn xe cx' => sSs b cx' h1
theorem sSs : ∀ (ss : CSs) {X : Cx} {W : WX} {sc : Sc} {sts : List Stmt}, CxS T k X W sc → ckSs sc ss sts = true → PSs X sts (tSt T.S W (evSs (T.cx k) ss))
  | .nil, X, W, sc, sts, cx, h => by
    cases sts with
    | nil => exact st_nil
    | cons x xs => simp [ckSs] at h
  | .cons s ss, X, W, sc, sts, cx, h => by
    cases sts with
    | nil => simp [ckSs] at h
    | cons x xs =>
      rw [ckSs, Bool.and_eq_true] at h
      exact st_cons (sS s cx h.1) (sSs ss cx h.2)
  | .fz i ss, X, W, sc, sts, cx, h => by
    rw [ckSs] at h
    exact st_fz (sSs ss cx h)
end
end
end So
end
section
set_option Elab.async false
set_option autoImplicit false
set_option linter.all false
/-! S19: defs. -/
namespace So
open PySem PySem.Spec PyProof.Rows L2
open Ev (D Ob Mem R RS RL RB Bop Cop Bi Mt CE CEs CT CTs FE Src CO Tg Tgs CS CSs Su evE evL evT evF evO evAnd evOr evTA evTO evSrc evS evSs)
section
variable {S : Sx} {g g1 : G} {h h1 : Mem} {H H1 : L2.Hp} {W : WX} {Q : VK}
theorem Step.take (r0 : Rel S g h H) (st : Step g h H g1 h1 H1) (E : Ext g ⟨g1.F, g.μ⟩) : Step g h H ⟨g1.F, g.μ⟩ (h1.take h.length) H1 := by
  refine ⟨E, fun n hn ⟨o, e, k⟩ => st.dead n hn ⟨o, ?_, k⟩, fun n a l e => ?_, st.keep, st.there, st.frz⟩
  · rw [List.getElem?_take, if_pos hn] at e
    exact e
  · have := (List.getElem?_eq_some_iff.mp (show g.μ[n]? = some a from e)).1
    rw [r0.len] at this
    omega
theorem fin_out {gc : Bool} {d : D} (r0 : Rel S g h H) (out : OutE S W [] g h H Q (Ev.fin gc h h1 d)) {v : V} (st : Step g h H g1 h1 H1) (r : Rel S g1 h1 H1) (w : VD S g1 d v) : Q v H1 := by
  unfold Ev.fin at out
  cases gc with
  | false =>
    rw [if_neg (by decide)] at out
    exact out v g1 H1 st r w
  | true =>
    rw [if_pos rfl] at out
    split at out
    · rename_i hg
      obtain ⟨r2, E, w2⟩ := r0.back r st.ext hg w
      exact out v _ H1 (st.take r0 E) r2 w2
    · exact False.elim out
theorem finX_out {gc : Bool} {c : Nat} {d : D} (r0 : Rel S g h H) (out : OutE S W [] g h H Q (Ev.finX gc h h1 c d)) : d = .non ∧ ∀ g1 H1, Step g h H g1 h1 H1 → Rel S g1 h1 H1 → W (.ref (S.ca c)) none [] H1 := by
  unfold Ev.finX at out
  cases gc with
  | false =>
    rw [if_neg (by decide)] at out
    exact out
  | true =>
    rw [if_pos rfl] at out
    split at out
    · rename_i hg
      refine ⟨out.1, fun g1 H1 st r => ?_⟩
      have := out.1
      subst this
      obtain ⟨r2, E, w2⟩ := r0.back (v := .non) r st.ext hg rfl
      exact out.2 _ H1 (st.take r0 E) r2
    · exact False.elim out
theorem start_fr : ∀ {ds : List D} {vs : List V} {n m : Nat}, VDs S g ds vs → FrR S g (ds.map some ++ List.replicate n none) (vs.map some ++ List.replicate n none) := fun {ds vs n m} w => by
  have hl := VDs.length w
  refine ⟨by simp [hl], fun i d e => ?_⟩
  by_cases hi : i < ds.length
  · rw [List.getElem?_append_left (by simpa using hi), List.getElem?_map] at e
    cases q : ds[i]? with
    | none => rw [q] at e; cases e
    | some d' =>
      rw [q] at e
      cases e
      obtain ⟨v, e1, e2⟩ := VDs.get w q
      exact ⟨v, by rw [List.getElem?_append_left (by simpa [← hl] using hi), List.getElem?_map, e1]; rfl, e2⟩
  · rw [List.getElem?_append_right (by simpa using hi), List.getElem?_replicate] at e
    split at e <;> cases e
end

/-- a def of the program is the core text's -/
structure DefOk (T : Tx) (f : Nat) (fd : Ev.Def) (name qual : Str) (params : Arguments) (body : List Stmt) (scope : Scope) (dV kV doc pm cdv ct oc : Value) (an od : Option Addr) (osl : Array (Option Value)) (N ps : List Str) : Prop where
  lk : T.S.K.lookup (T.S.fa f) = some ⟨oc, od, .func (PySem.W.fnOf name qual params body scope dV kV doc pm an cdv ct), osl⟩
  code : PySem.W.codeIn T.S.K cdv qual = true
  sc : FnScope N ps scope
  bd : Binds T.S.K (PySem.W.fnOf name qual params body scope dV kV doc pm an cdv ct) ps []
  ns : N.length = fd.ns
  np : ps.length = fd.np
  ck : ckSs ⟨N, scope.names, scope.names, T.gl, T.fs, T.xs, T.sub, T.rz⟩ fd.body body = true
def DefIn (T : Tx) (f : Nat) (fd : Ev.Def) : Prop := ∃ name qual params body scope dV kV doc pm cdv ct oc an od osl N ps, DefOk T f fd name qual params body scope dV kV doc pm cdv ct oc an od osl N ps

section
variable {T : Tx} {k : Nat}
/-- the context of a def's body -/
theorem def_cx (ok : TOk T k) {N ps : List Str} {qual : Str} {scope : Scope} (fs : FnScope N ps scope) {fa : Addr} {cdv : Value} {A : Around} {outer : List Env} {s : Shared} {H : L2.Hp} {E : XK} (hr : Room (k + 1) A) (hg : A.guards = some []) :
    CxS T k (cxOf (L2N.CX T.P T.w) T.P T.w T.S.K T.mg T.base N qual scope fa cdv A outer s H E) (fun c d _ H => E c d H) ⟨N, scope.names, scope.names, T.gl, T.fs, T.xs, T.sub, T.rz⟩ := by
  refine ⟨⟨ok, rfl, rfl, rfl, rfl, rfl, rfl, fs.nd, rfl, fs.kind, fun x hx => ?_, rfl, rfl, rfl, rfl, rfl, rfl, L2N.takes_of rfl rfl rfl rfl, passes_of rfl, hg, hr.deeper _⟩, rfl, rfl⟩
  unfold locB at hx
  dsimp only at hx
  split at hx <;> rename_i q
  · exact ⟨.inl q, .inl rfl⟩
  · exact ⟨.inr q, .inl rfl⟩
  · cases hx
theorem run_zero (f : Nat) : RunOk T 0 f := by
  intro A outer s H us vs g h ds Q E hr hg e0 rv R w out
  rw [Ev.callF] at out
  exact False.elim out
theorem run_succ (ok : TOk T k) {f : Nat} (DI : ∀ fd, T.Pg.defs[f]? = some fd → fd.np ≤ fd.ns → DefIn T f fd) : RunOk T (k + 1) f := by
  intro A outer s H us vs g h ds Q E hr hg e0 rv R w out
  rw [Ev.callF] at out
  cases qd : T.Pg.defs[f]? with
  | none => rw [qd] at out; exact False.elim out
  | some fd =>
    rw [qd] at out
    dsimp only at out
    split at out
    · rename_i hlen
      obtain ⟨name, qual, params, body, scope, dV, kV, doc, pm, cdv, ct, oc, an, od, osl, N, ps, di⟩ := DI fd qd hlen.2
      have hl : vs.length = ps.length := by rw [← VDs.length w, hlen.1, di.np]
      have hlu : us.length = ps.length := by rw [← rv.length]; exact hl
      have inH : T.S.K.In s.heap := e0.mod.kin.keeps fun b o e => (e0.bs b o e).1
      have nolim : s.heap.NoLimit := e0.mod.nolimit.keeps fun b o e => (e0.bs b o e).1
      have bind := di.bd s us inH (by rw [List.append_nil]; exact hlu)
      rw [List.append_nil] at bind
      have kinds : ∀ y ∈ ps.zip us, scope.names.lookup y.1 = some .local ∨ (scope.names.lookup y.1 = some .cell ∧ ((cellsFrom (s.heap.objs.size + 1) scope.names []).lookup y.1).isSome = true) := by
        rintro ⟨n, v⟩ hy
        refine (di.sc.par n (List.of_mem_zip hy).1).imp id fun q => ⟨q, ?_⟩
        exact PySem.W.cellsFrom_some _ _ _ (.inl q)
      refine codeAny_call_function hr.depth (inH _ _ di.lk) rfl di.sc.co di.sc.gen rfl (PySem.W.codeRec_of inH di.code) (bind _ _ _ _ ?_)
      refine wpAny_newFunctionEnv_cells di.sc.kind kinds fun env he s1 xs => ?_
      subst he
      refine ⟨nolim.keeps xs.toInCall.keep, codeAny_func ?_⟩
      have cx := def_cx (qual := qual) (fa := T.S.fa f) (cdv := cdv) (outer := outer) (s := s) (H := H) (E := E) ok di.sc hr hg
      have body := sSs fd.body cx di.ck
      have I := inv_start (CX := L2N.CX T.P T.w) (E := E) di.sc hr.hd e0 hl rv xs
      have st0 : FrR T.S g (Ev.startF fd.ns ds) (L2.start N vs) := by
        unfold Ev.startF L2.start
        rw [di.ns, ← VDs.length w]
        exact start_fr (m := 0) w
      have hq : tSt T.S (fun c d _ H => E c d H) (evSs (T.cx k) fd.body) { nx := fun _ H' => Q .non H', rt := Q } (L2.start N vs) H := by
        refine ⟨g, _, h, R, st0, ?_⟩
        have : evSs (T.Pg.cx k (Ev.callF T.Pg k)) fd.body (Ev.startF fd.ns ds) h = evSs (T.cx k) fd.body (Ev.startF fd.ns ds) h := rfl
        rw [this] at out
        cases q : evSs (T.cx k) fd.body (Ev.startF fd.ns ds) h with
        | nx f1 h1 =>
          rw [q] at out
          exact fun σ g1 H1 st r fr => fin_out R out st r rfl
        | rt d h1 =>
          rw [q] at out
          exact fun v g1 H1 st r x => fin_out R out st r x
        | exc c x f1 h1 =>
          rw [q] at out
          obtain ⟨e1, e2⟩ := finX_out R out
          exact ⟨e1, fun σ g1 H1 st r fr => e2 g1 H1 st r⟩
        | bk f1 h1 => rw [q] at out; exact False.elim out
        | ct f1 h1 => rw [q] at out; exact False.elim out
        | stuck => rw [q] at out; exact False.elim out
      refine wpAny_mono (body.run [] s1 _ H _ I hq) (fun fl s2 hs => ?_) fun e s2 hs => hs
      match fl, hs with
      | .ret u, ⟨v, σ2, H2, J, r2, q2⟩ => exact ⟨v, H2, J.os, J.bare, J.base, J.hok, r2, q2⟩
      | .next, ⟨σ2, H2, J, q2⟩ => exact ⟨.non, H2, J.os, J.bare, J.base, J.hok, rfl, q2⟩
      | .brk, ⟨_, _, _, q2⟩ => exact False.elim q2
      | .cont, ⟨_, _, _, q2⟩ => exact False.elim q2
    · exact False.elim out
/-- what is fixed of a text -/
structure TFix (T : Tx) : Prop where
  glob : ∀ (i : Nat) x d, T.gl[i]? = some x → T.Pg.glob[i]? = some d → ∃ u v, T.mg x = some u ∧ RelV v u ∧ ∀ g, VD T.S g d v
  defs : ∀ (f : Nat) x, T.fs[f]? = some x → T.mg x = some (.ref (T.S.fa f)) ∧ PySem.W.keepIn T.S.K (.ref (T.S.fa f)) = true
  kp : ∀ f : Nat, PySem.W.keepIn T.S.K (.ref (T.S.fa f)) = true
  blt : ∀ x ∈ used, T.mg x = none
  nx : T.Pg.nx = T.xs.length
  rz : ∀ c ∈ T.rz, ∀ x, T.xs[c]? = some x → RzOk T c x
  xn : ∀ (j : Nat) x, T.xs[j]? = some x → T.mg x = some (.ref (T.S.ca j))
  exm : ∀ (j c : Nat) cs, T.sub[j]? = some cs → c < T.xs.length → PySem.W.exmOne T.S.K (.ref (T.S.ca c)) (.ref (T.S.ca j)) = some (cs.contains c)
  sbl : ∀ (j c : Nat) cs, T.sub[j]? = some cs → cs.contains c = true → c < T.xs.length
  err : ErrOk T
  di : ∀ f fd, T.Pg.defs[f]? = some fd → fd.np ≤ fd.ns → DefIn T f fd
theorem TFix.ok (F : TFix T) : ∀ k, TOk T k
  | 0 => ⟨F.glob, F.defs, F.kp, F.blt, fun f => run_zero f, F.nx, F.rz, F.xn, F.exm, F.sbl, F.err⟩
  | k + 1 => ⟨F.glob, F.defs, F.kp, F.blt, fun f => run_succ (F.ok k) fun fd h h2 => F.di f fd h h2, F.nx, F.rz, F.xn, F.exm, F.sbl, F.err⟩
end
end So
end
section
set_option Elab.async false
set_option autoImplicit false
set_option linter.all false
/-! S20: the law's call at the heap behind the top; what the top leaves, told by one Boolean. -/
namespace So
open PySem PySem.Spec PyProof.Rows L2
open Ev (D Ob Mem)

/-- the script is tracked as known, or it stands in the written part -/
def scrH (a : Addr) (o : Obj) (xs : List V) : L2.Hp := fun b => if b = a then some (.frz o (.lst xs)) else none
/-- what the call of law promises, from what is promised over every base -/
theorem script_run {P : Program} {w : World} {K : PySem.W.Frag} {mg mb : Str → Option Value} {fa a : Addr} {s1 : Shared} {vs : List Value} {ns : List Int}
    (kin : K.In s1.heap) (gl : s1.heap.Ns mainGlobals mg) (bl : s1.heap.Ns builtinsNs mb) (bb : ∀ x : Str, x ≠ "__name__" → mb x = bootBuiltins x) (nl : s1.heap.NoLimit) (gens : s1.gens = #[])
    (ho : s1.heap.get? a = some { cls := .type "list", data := .seq vs.toArray }) (hi : IntsAre vs ns) (hn : ns.length ≤ sizeLine)
    (main : ∀ (base : Heap) (H : L2.Hp), K.In base → base.Ns mainGlobals mg → Env0 P w K mg base callerA [] s1 H → SqL K H a (ns.map V.int) →
      codeAny (model P w) callerA (.call (.ref fa) ⟨[.ref a], []⟩) (CR (L2N.CX P w) [] P w H s1 (fun v _ => v = .bl true) fun _ _ _ => False) s1) :
    codeAny (model P w) callerA (.call (.ref fa) ⟨[.ref a], []⟩) (fun r s2 => r = .ok (.ret (.bool true)) ∧ OldK s1.heap s2.heap ∧ s2.os = s1.os ∧ AllBare s2.gens) s1 := by
  have vals := vals_ints hi
  have len := hi.length
  have key : ∀ H : L2.Hp, (∀ b, H b = none ∨ (b = a ∧ ∃ o xs, H b = some (.frz o (.lst xs)))) → SqL K H a (ns.map V.int) → HOk P w H s1.heap → (H a ≠ none → K.lookup a = none) →
      codeAny (model P w) callerA (.call (.ref fa) ⟨[.ref a], []⟩) (fun r s2 => r = .ok (.ret (.bool true)) ∧ OldK s1.heap s2.heap ∧ s2.os = s1.os ∧ AllBare s2.gens) s1 := by
    intro H only sq ok hK
    have free : ∀ {b : Addr} {o : Obj}, s1.heap.get? b = some o → (∀ xs n, o.data ≠ .seq xs n) → H b = none := fun {b o} e nd => by
      rcases only b with z | ⟨z, _⟩
      · exact z
      · subst z
        rw [ho] at e
        cases e
        exact absurd rfl (nd _ _)
    have nsB : ∀ {b : Addr} {m : Str → Option Value}, s1.heap.Ns b m → (hidT s1.heap H).Ns b m := fun {b m} z => by
      obtain ⟨o, es, ep, e, d, r⟩ := z
      exact ⟨o, es, ep, hidT_get e (free e fun xs n k => by rw [d] at k; cases k), d, r⟩
    have kinB : K.In (hidT s1.heap H) := by
      intro b o e
      refine hidT_get (kin b o e) ?_
      rcases only b with z | ⟨z, oo, xs, q⟩
      · exact z
      · subst z
        rw [hK (by rw [q]; simp)] at e
        cases e
    have modB : Mod K mg (hidT s1.heap H) := by
      obtain ⟨mc, n1, n2⟩ := nl
      exact ⟨kinB, nsB gl, ⟨mb, nsB bl, bb⟩, mc, nsB n1, n2⟩
    have env : Env0 P w K mg (hidT s1.heap H) callerA [] s1 H := by
      refine ⟨rfl, modB, fun b o e => of_hidT e, Nat.le_of_eq (hidT_size _ _), trivial, fun b hb => ?_, ok, .of_eq gens⟩
      have hb : b ∈ ([] : List Addr) := hb
      cases hb
    refine codeAny_mono (main _ H kinB (nsB gl) env sq) fun r s2 h => ?_
    match r, h with
    | .ok (.ret u), h =>
      obtain ⟨v, H2, os, bare, un, ok2, rv, q⟩ := h
      have q : v = .bl true := q
      subst q
      obtain rfl : u = Value.bool true := rv
      refine ⟨rfl, OldK.of_keep fun b o e => ?_, os, bare⟩
      rcases only b with z | ⟨_, ob, xs, z⟩
      · exact un.keep b o e z (by intro k; have k : b ∈ ([] : List Addr) := k; cases k) (by simp)
      · have z2 := un.frzs b ob _ z
        have e1 := (ok b _ z).1
        have e2 := (ok2 b _ z2).1
        rw [e] at e1
        cases e1
        exact e2
    | .ok .next, h => exact False.elim h
    | .ok .brk, h => exact False.elim h
    | .ok .cont, h => exact False.elim h
    | .error e, h =>
      obtain ⟨_, _, _, _, _, _, _, _, _, _, _, _, z⟩ := h
      exact False.elim z
  cases hk : K.lookup a with
  | none =>
    refine key (scrH a { cls := .type "list", data := .seq vs.toArray } (ns.map V.int)) (fun b => ?_) (.inl (.inr ⟨{ cls := .type "list", data := .seq vs.toArray }, if_pos rfl⟩)) (fun b u z => ?_) fun _ => hk
    · by_cases q : b = a
      · exact .inr ⟨q, _, _, if_pos q⟩
      · exact .inl (if_neg q)
    · unfold scrH at z
      split at z
      · rename_i q
        subst q
        cases z
        exact ⟨ho, by rw [List.length_map]; exact hn, vs, _, vals, ho⟩
      · cases z
  | some o =>
    have e := kin a o hk
    rw [ho] at e
    cases e
    refine key (fun _ => none) (fun _ => .inl rfl) (.inr ⟨_, vs.toArray, _, hk, rfl, rfl, rfl, ?_, by simpa using vals⟩) (fun b u z => nomatch (show (none : Option HO) = some u from z)) fun z => absurd rfl z
    rw [List.size_toArray, len]
    exact hn
theorem ints_vd {S : Sx} {g : G} : ∀ ns : List Int, VDs S g (ns.map D.int) (ns.map V.int)
  | [] => rfl
  | n :: ns => ⟨.int n, _, rfl, rfl, ints_vd ns⟩
/-- the law's promise -/
theorem law_run {T : Tx} {k fl : Nat} (ok : TOk T k) {a : Addr} {s1 : Shared} {H : L2.Hp} {ns : List Int} (hr : Room k callerA) (e0 : Env0 T.P T.w T.S.K T.mg T.base callerA [] s1 H) (sq : SqL T.S.K H a (ns.map V.int))
    (h1 : Mem) (hev : Ev.callF T.Pg k fl [.scr (ns.map D.int)] [] = .ok (.bl true) h1) :
    codeAny (model T.P T.w) callerA (.call (.ref (T.S.fa fl)) ⟨[.ref a], []⟩) (CR (L2N.CX T.P T.w) [] T.P T.w H s1 (fun v _ => v = .bl true) fun _ _ _ => False) s1 := by
  have no : ∀ (n : Nat) (b : Addr), ([] : List Addr)[n]? = some b → False := fun n b e => by simp at e
  have R : Rel T.S ⟨H, []⟩ [] H := ⟨fun _ _ e => e, rfl, fun n b o e => (no n b e).elim, fun n b e => (no n b e).elim, fun n m b e => (no n b e).elim⟩
  refine ok.run fl callerA [] s1 H [.ref a] [.ref a] ⟨H, []⟩ [] [.scr (ns.map D.int)] _ _ hr rfl e0 (.cons rfl .nil) R ⟨_, [], rfl, ⟨a, ns.map V.int, rfl, sq, ints_vd ns⟩, rfl⟩ ?_
  rw [hev]
  intro v g' H' st r w
  exact w

/-! ### the top's facts -/
def hookX (n : Nat) (b : PySem.W.Frag → Bool) (fn : List He.DefD) : PySem.W.Hook where
  α := He.AlD
  obs := fun s => let K := He.frG s.heap.get? (He.asD s.heap.get? n); (b K && fn.all fun d => d.ok K, fn.map fun d => He.fnW K d.at_)
  val := fun _ => He.valD fn
  says := fun _ h => ∃ K : PySem.W.Frag, K.In h ∧ b K = true ∧ ∀ d ∈ fn, ∃ fd, FunD K d.name d.qual d.params d.body d.scope (d.dvs K) (d.kws K) (He.fAd K d.at_) fd
  of := fun _ s e => by
    refine ⟨_, He.frG_in (as := He.asD s.heap.get? n), ?_⟩
    have e1 : (b (He.frG s.heap.get? (He.asD s.heap.get? n)) && fn.all fun d => d.ok (He.frG s.heap.get? (He.asD s.heap.get? n))) = true := congrArg (fun z : He.AlD => z.1) e
    have e2 : (fn.map fun d => He.fnW (He.frG s.heap.get? (He.asD s.heap.get? n)) d.at_) = fn.map He.DefD.val := congrArg (fun z : He.AlD => z.2) e
    rw [Bool.and_eq_true] at e1
    refine ⟨e1.1, fun d hd => ?_⟩
    obtain ⟨i, hi⟩ := List.mem_iff_getElem?.mp hd
    have e3 : (fn.map fun d => He.fnW (He.frG s.heap.get? (He.asD s.heap.get? n)) d.at_)[i]? = (fn.map He.DefD.val)[i]? := by rw [e2]
    rw [List.getElem?_map, List.getElem?_map, hi] at e3
    exact He.DefD.funD (Option.some.inj e3) (List.all_eq_true.mp e1.2 d hd)
  keeps := fun _ _ _ ⟨K, hK, c⟩ k => ⟨K, PySem.W.Frag.In.keeps hK k, c⟩
def obX (n : Nat) (b : PySem.W.Frag → Bool) (fn : List He.DefD) (s : PySem.W.SharedT) : He.AlD :=
  let g := HandSHeadRun.getT s
  let K := He.frG g (He.asD g n)
  (b K && fn.all fun d => d.ok K, fn.map fun d => He.fnW K d.at_)
theorem obX_eq {n : Nat} {b : PySem.W.Frag → Bool} {fn : List He.DefD} (s : PySem.W.SharedT) : obX n b fn s = (hookX n b fn).obs s.abs := by
  have e : HandSHeadRun.getT s = s.abs.heap.get? := funext (HandSHeadRun.getT_eq s)
  unfold obX
  rw [e]
  rfl
end So
end
section
set_option Elab.async false
set_option autoImplicit false
set_option linter.all false
/-! S21: from the top's facts to what is fixed of a text. -/
namespace So
open PySem PySem.Spec PyProof.Rows L2
open Ev (D Ob Mem)

structure Txt where
  pg : Ev.Prog
  gl : List Str
  fs : List Str
  xs : List Str
  sub : List (List Nat)
  rz : List Nat
/-- a def of the text: its slots, its parameters, its statement -/
structure DT where
  name : Str
  N : List Str
  ps : List Str
  st : Stmt
def Txt.sx (t : Txt) (K : PySem.W.Frag) : Sx := ⟨K, fun i => He.ga K ((t.fs[i]?).getD (t.fs.headD "")), fun j => He.ga K ((t.xs[j]?).getD (t.xs.headD ""))⟩
def Txt.tx (t : Txt) (P : Program) (w : World) (K : PySem.W.Frag) (mg : Str → Option Value) (base : Heap) : Tx := ⟨P, w, mg, base, t.sx K, t.pg, t.gl, t.fs, t.xs, t.sub, t.rz⟩
mutual
def relD (K : PySem.W.Frag) : D → Value → Bool
  | .non, .none => true
  | .bl a, .bool b => a == b
  | .int i, .int j _ => decide (i = j)
  | .str s, .str x _ => decide (tx s = x) && s.all fun c => decide (c < 1114112)
  | .tup ds, .ref a => match K.lookup a with
    | some ⟨.type c, _, .seq its _, _⟩ => decide (c = "tuple") && decide (its.size ≤ sizeLine) && relDs K ds its.toList
    | _ => false
  | _, _ => false
def relDs (K : PySem.W.Frag) : List D → List Value → Bool
  | [], [] => true
  | d :: ds, u :: us => relD K d u && relDs K ds us
  | _, _ => false
end
section
variable {S : Sx}
mutual
theorem relD_ok : ∀ (d : D) (u : Value), relD S.K d u = true → ∃ v, RelV v u ∧ ∀ g, VD S g d v
  | .non, u, h => by
    cases u <;> first | (simp [relD] at h; done) | exact ⟨.non, rfl, fun g => rfl⟩
  | .bl a, u, h => by
    cases u <;> first | (simp [relD] at h; done) | skip
    rename_i b
    have e : a = b := by simpa [relD] using h
    subst e
    exact ⟨.bl a, rfl, fun g => rfl⟩
  | .int a, u, h => by
    cases u <;> first | (simp [relD] at h; done) | skip
    rename_i b t
    have e : a = b := by simpa [relD] using h
    subst e
    exact ⟨.int a, ⟨t, rfl⟩, fun g => rfl⟩
  | .str a, u, h => by
    cases u <;> first | (simp [relD] at h; done) | skip
    rename_i b t
    simp only [relD, Bool.and_eq_true, decide_eq_true_eq, List.all_eq_true] at h
    obtain ⟨e, o⟩ := h
    subst e
    exact ⟨.str (tx a), ⟨t, rfl⟩, fun g => ⟨rfl, o⟩⟩
  | .tup ds, u, h => by
    cases u <;> first | (simp [relD] at h; done) | skip
    rename_i a
    rw [relD] at h
    split at h
    · rename_i c od its n sl q
      simp only [Bool.and_eq_true, decide_eq_true_eq] at h
      obtain ⟨⟨h1, h2⟩, h3⟩ := h
      obtain ⟨vs, r, w⟩ := relDs_ok ds _ h3
      exact ⟨.ref a, rfl, fun g => ⟨a, vs, rfl, .inr ⟨_, its, n, q, congrArg Value.type h1, rfl, h2, r⟩, w g⟩⟩
    · cases h
  | .lst _, u, h => by cases u <;> simp [relD] at h
  | .loc _, u, h => by cases u <;> simp [relD] at h
  | .fn _, u, h => by cases u <;> simp [relD] at h
  | .scr _, u, h => by cases u <;> simp [relD] at h
  | .rep _, u, h => by cases u <;> simp [relD] at h
theorem relDs_ok : ∀ (ds : List D) (us : List Value), relDs S.K ds us = true → ∃ vs, Vals vs us ∧ ∀ g, VDs S g ds vs
  | [], us, h => by
    cases us with
    | nil => exact ⟨[], .nil, fun g => rfl⟩
    | cons u us => simp [relDs] at h
  | d :: ds, us, h => by
    cases us with
    | nil => simp [relDs] at h
    | cons u us =>
      rw [relDs, Bool.and_eq_true] at h
      obtain ⟨v, r1, w1⟩ := relD_ok d u h.1
      obtain ⟨vs, r2, w2⟩ := relDs_ok ds us h.2
      exact ⟨v :: vs, .cons r1 r2, fun g => ⟨v, vs, rfl, w1 g, w2 g⟩⟩
end
end
def exBase : List Value := [.type "Exception", .type "BaseException", .type "object"]
def gloB (K : PySem.W.Frag) (x : Str) : Bool := He.eqO (PySem.W.nsIn K mainGlobals x) (some (some (.ref (He.ga K x))))
def factB (t : Txt) (K : PySem.W.Frag) : Bool :=
  ((t.gl.zip t.pg.glob).all fun q => match PySem.W.nsIn K mainGlobals q.1 with
    | some (some u) => relD K q.2 u
    | _ => false) &&
  (t.fs.all fun x => gloB K x && PySem.W.keepIn K (.ref (He.ga K x))) && (t.xs.all fun x => gloB K x) && (used.all fun x => He.eqO (PySem.W.nsIn K mainGlobals x) (some none)) &&
  (t.rz.all fun c => match t.xs[c]? with
    | some x => PySem.W.excIn K (He.ga K x) exBase "Exception.__new__" && PySem.W.keepIn K (.ref (He.ga K x)) && decide (PySem.W.subIn K (.ref (He.ga K x)) (.type "BaseException") = some true) && decide (PySem.W.typeIn K (.ref (He.ga K x)) = some (.type "type"))
    | none => false) &&
  ((List.range t.sub.length).all fun j => (List.range t.xs.length).all fun c => decide (PySem.W.exmOne K (.ref ((t.sx K).ca c)) (.ref ((t.sx K).ca j)) = some ((t.sub.getD j []).contains c)))
/-- what of a text needs no run -/
def textB (t : Txt) : Bool := !t.fs.isEmpty && decide (t.pg.nx = t.xs.length) && (t.sub.all fun cs => cs.all fun c => decide (c < t.xs.length))
def scB (N ps : List Str) (sc : Scope) : Bool :=
  decide (sc.kind = .function) && !sc.isCoroutine && !sc.isGenerator && decide N.Nodup && decide (N.take ps.length = ps) && (ps.all fun x => decide (sc.names.lookup x = some .local) || decide (sc.names.lookup x = some .cell)) && (sc.names.all fun y => decide (y.2 ≠ .free))
def defB (t : Txt) (fd : Ev.Def) (d : DT) : Bool :=
  decide (fd.ns < fd.np) || scB d.N d.ps (C8.fnScope d.st) && decide (d.N.length = fd.ns) && decide (d.ps.length = fd.np) && ckSs ⟨d.N, (C8.fnScope d.st).names, (C8.fnScope d.st).names, t.gl, t.fs, t.xs, t.sub, t.rz⟩ fd.body (C8.fnBody d.st)
def defsB (t : Txt) : List Ev.Def → List DT → Bool
  | [], [] => true
  | fd :: fds, d :: ds => defB t fd d && defsB t fds ds
  | _, _ => false
def DT.dd (d : DT) : He.DefD := ⟨(d.name, none), d.name, d.name, C8.fnArgs d.st, C8.fnBody d.st, C8.fnScope d.st, [], []⟩
def BindP (d : DT) : Prop := ∀ (kV doc pm : Value) (an : Option Addr) (cdv ct : Value) (us : List Value), us.length = d.ps.length → bindArgs (PySem.W.fnOf d.name d.name (C8.fnArgs d.st) (C8.fnBody d.st) (C8.fnScope d.st) .none kV doc pm an cdv ct) ⟨us, []⟩ = pure (d.ps.zip us)
theorem sc_of {N ps : List Str} {sc : Scope} (h : scB N ps sc = true) : FnScope N ps sc := by
  unfold scB at h
  simp only [Bool.and_eq_true, Bool.not_eq_true', decide_eq_true_eq, List.all_eq_true, Bool.or_eq_true] at h
  obtain ⟨⟨⟨⟨⟨⟨h1, h2⟩, h3⟩, h4⟩, h5⟩, h6⟩, h7⟩ := h
  exact ⟨h1, h2, h3, h4, h5, h6, h7⟩
section
variable {t : Txt} {P : Program} {w : World} {K : PySem.W.Frag} {mg : Str → Option Value} {base : Heap} {ds : List DT}
theorem fs_at {i : Nat} {x : Str} (h : t.fs[i]? = some x) : (t.sx K).fa i = He.ga K x := by
  show He.ga K ((t.fs[i]?).getD _) = _
  rw [h]
  rfl
theorem xs_at {i : Nat} {x : Str} (h : t.xs[i]? = some x) : (t.sx K).ca i = He.ga K x := by
  show He.ga K ((t.xs[i]?).getD _) = _
  rw [h]
  rfl
theorem defs_at : ∀ {fds : List Ev.Def} {ds : List DT} {f : Nat} {fd : Ev.Def}, defsB t fds ds = true → fds[f]? = some fd → ∃ d, ds[f]? = some d ∧ defB t fd d = true
  | [], [], f, fd, _, e => by simp at e
  | [], _ :: _, _, _, h, _ => by simp [defsB] at h
  | _ :: _, [], _, _, h, _ => by simp [defsB] at h
  | a :: fds, d :: ds, 0, fd, h, e => by
    rw [defsB, Bool.and_eq_true] at h
    simp at e
    subst e
    exact ⟨d, rfl, h.1⟩
  | a :: fds, d :: ds, f + 1, fd, h, e => by
    rw [defsB, Bool.and_eq_true] at h
    obtain ⟨d', e1, e2⟩ := defs_at h.2 (by simpa using e : fds[f]? = some fd)
    exact ⟨d', by simpa using e1, e2⟩
theorem tfix (X : K.In base) (G : base.Ns mainGlobals mg) (fb : factB t K = true) (tb : textB t = true) (hds : ds.map DT.name = t.fs) (db : defsB t t.pg.defs ds = true)
    (FD : ∀ d ∈ ds, ∃ fd, FunD K d.name d.name (C8.fnArgs d.st) (C8.fnBody d.st) (C8.fnScope d.st) [] [] (He.ga K d.name) fd) (bp : ∀ d ∈ ds, BindP d) (err : ErrOk (t.tx P w K mg base)) : TFix (t.tx P w K mg base) := by
  unfold factB at fb
  simp only [Bool.and_eq_true] at fb
  obtain ⟨⟨⟨⟨⟨f1, f2⟩, f3⟩, f4⟩, f5⟩, f6⟩ := fb
  unfold textB at tb
  simp only [Bool.and_eq_true, decide_eq_true_eq, Bool.not_eq_true', List.all_eq_true] at tb
  obtain ⟨⟨t1, t2⟩, t3⟩ := tb
  have gx : ∀ x, gloB K x = true → mg x = some (.ref (He.ga K x)) := fun x h => PySem.W.mg_of X G (He.eqO_ok h)
  have f2' : ∀ (f : Nat) x, t.fs[f]? = some x → mg x = some (.ref ((t.sx K).fa f)) ∧ PySem.W.keepIn K (.ref ((t.sx K).fa f)) = true := fun f x e => by
    have := List.all_eq_true.mp f2 x (List.mem_of_getElem? e)
    rw [Bool.and_eq_true] at this
    rw [fs_at e]
    exact ⟨gx x this.1, this.2⟩
  have f3' : ∀ (j : Nat) x, t.xs[j]? = some x → mg x = some (.ref ((t.sx K).ca j)) := fun j x e => by
    rw [xs_at e]
    exact gx x (List.all_eq_true.mp f3 x (List.mem_of_getElem? e))
  refine ⟨fun i x d e1 e2 => ?_, f2', fun f => ?_, fun x hx => ?_, t2, fun c hc x e => ?_, f3', fun j c cs e hl => ?_, fun j c cs e hc => ?_, err, fun f fd e hnp => ?_⟩
  · have := List.all_eq_true.mp f1 (x, d) (List.mem_of_getElem? (i := i) (by rw [List.getElem?_zip_eq_some]; exact ⟨e1, e2⟩))
    dsimp only at this
    split at this
    · rename_i u q
      obtain ⟨v, r, w⟩ := relD_ok (S := t.sx K) d u this
      exact ⟨u, v, PySem.W.mg_of X G q, r, w⟩
    · cases this
  · cases e : t.fs[f]? with
    | some x => exact (f2' f x e).2
    | none =>
      cases q : t.fs with
      | nil => rw [q] at t1; cases t1
      | cons y ys =>
        have e0 : t.fs[0]? = some y := by rw [q]; rfl
        have := (f2' 0 y e0).2
        have ea : (t.sx K).fa f = (t.sx K).fa 0 := by
          show He.ga K ((t.fs[f]?).getD _) = He.ga K ((t.fs[0]?).getD _)
          rw [e, e0, q]
          rfl
        show PySem.W.keepIn K (.ref ((t.sx K).fa f)) = true
        rw [ea]
        exact this
  · exact PySem.W.mg_none_of X G (He.eqO_ok (List.all_eq_true.mp f4 x hx))
  · have := List.all_eq_true.mp f5 c hc
    have e' : t.xs[c]? = some x := e
    rw [e'] at this
    simp only [Bool.and_eq_true, decide_eq_true_eq] at this
    obtain ⟨⟨⟨h1, h2⟩, h3⟩, h4⟩ := this
    have ec := xs_at (K := K) e'
    refine ⟨?_, ?_, ⟨_, _, _, _, PySem.F.excBase_Exception, ?_⟩, ?_, ?_⟩
    · exact f3' c x e
    · show PySem.W.keepIn K (.ref ((t.sx K).ca c)) = true
      rw [ec]; exact h2
    · show PySem.W.excIn K ((t.sx K).ca c) _ _ = true
      rw [ec]; exact h1
    · show PySem.W.subIn K (.ref ((t.sx K).ca c)) _ = some true
      rw [ec]; exact h3
    · show PySem.W.typeIn K (.ref ((t.sx K).ca c)) = _
      rw [ec]; exact h4
  · have e' : t.sub[j]? = some cs := e
    have := List.all_eq_true.mp f6 j (List.mem_range.mpr (List.getElem?_eq_some_iff.mp e').1)
    have := of_decide_eq_true (List.all_eq_true.mp this c (List.mem_range.mpr hl))
    have eg : t.sub.getD j [] = cs := by rw [List.getD_eq_getElem?_getD, e']; rfl
    rw [eg] at this
    exact this
  · have e' : t.sub[j]? = some cs := e
    show c < t.xs.length
    simpa using t3 cs (List.mem_of_getElem? e') c (by simpa using hc)
  · obtain ⟨d, e1, e2⟩ := defs_at db e
    have hd := List.mem_of_getElem? e1
    obtain ⟨fdt, oc, od, dV, kV, doc, pm, an, cdv, ct, osl, efd, lk, cd, dv, kw⟩ := FD d hd |>.imp fun fd F => F.ex
    subst efd
    have en : t.fs[f]? = some d.name := by rw [← hds, List.getElem?_map, e1]; rfl
    unfold defB at e2
    rw [Bool.or_eq_true] at e2
    have e2 := e2.resolve_left fun z => absurd (of_decide_eq_true z) (by omega)
    simp only [Bool.and_eq_true, decide_eq_true_eq] at e2
    obtain ⟨⟨⟨c1, c2⟩, c3⟩, c4⟩ := e2
    obtain rfl : dV = .none := by
      rcases dv with ⟨_, z⟩ | ⟨z, _⟩
      · exact z
      · exact absurd rfl z
    refine ⟨d.name, d.name, _, _, _, _, kV, doc, pm, cdv, ct, oc, an, od, osl, d.N, d.ps, ⟨?_, cd, sc_of c1, .all (bp d hd kV doc pm an cdv ct), c2, c3, c4⟩⟩
    show K.lookup ((t.sx K).fa f) = _
    rw [fs_at en]
    exact lk
end
end So
end
section
set_option Elab.async false
set_option autoImplicit false
set_option linter.all false
/-! S22: walking a list while an exception is handled; the def that tells an error's kind. -/
namespace So
open PySem PySem.Spec PyProof.Rows L2 HotX
open Ev (D Ob Mem)
section
variable {prog : Program} {w : World} {A : Around} {E : Value → Shared → Prop} {s : Shared}
theorem list_end_hot {it l y : Addr} {i : Nat} {xs : Array Value} {Q : Option Value → Shared → Prop} (hot : HotAt A y s.heap) (ne : it ≠ y) (hi : s.heap.IsListIter it l i) (hl : s.heap.IsList l xs) (hx : xs[i]? = none)
    (fin : ∀ h2, (∀ b o, b ≠ it → s.heap.get? b = some o → h2.get? b = some o) → Q none { s with heap := h2 }) : wpAny (model prog w) A (pyNext (.ref it)) Q E s := by
  obtain ⟨o, e1, e2, e3⟩ := id hi
  obtain ⟨ol, f1, _, nl, f3⟩ := hl
  obtain ⟨hh, oy, ys, y1, y2, y3⟩ := hot
  unfold pyNext
  refine wpAny_bind (wpAny_attempt (wpAny_callSpecial?_slot (name := Str.ofString "__next__") hi.typeIs slot_listiter_next (wpAny_call_entry slot_listiter_next hi.typeIs entry_listiter_next ?_ (args_listiter_next _))))
  show wpAny _ _ (field (.ref it) 0 >>= fun _ => _) _ _ s
  refine wpAny_bind (wpAny_field e1 e3 (x := .ref l) rfl ?_)
  show wpAny _ _ (ite ((Value.ref l == Value.none) = true) _ _) _ _ s
  rw [if_neg (show ¬ (Value.ref l == Value.none) = true from Bool.false_ne_true)]
  show wpAny _ _ (field (.ref it) 1 >>= fun _ => _) _ _ s
  refine wpAny_bind (wpAny_field e1 e3 (x := .int i 0) rfl ?_)
  show wpAny _ _ (seqItems? (.ref l) >>= fun _ => _) _ _ s
  refine wpAny_bind (wpAny_seqItems f1 f3 ?_)
  simp only [Int.toNat_natCast, hx]
  refine wpAny_bind (wpAny_rule (wpAny_bind (wpAny_setField e1 e3 (by simp) ?_)))
  show wpAny _ _ (newExc (.type "StopIteration") [] >>= fun _ => _) _ _ _
  refine wpAny_bind ?_
  simp only [newExc, newTuple]
  refine wpAny_bind (wpAny_newObj_type ?_ (by size_fits))
  refine wpAny_bind (m := firstArgMember _ _) (wpAny_of_eq (a := Value.none) (by first | (simp only [firstArgMember]; rfl) | rfl) ?_)
  refine wpAny_newObj_type ?_ (by size_fits)
  have yk : ∀ f, (s.heap.update it f).get? y = some oy := fun f => (Heap.get?_update_other _ _ ne).trans y1
  refine raiseNew_hot ⟨hh, oy, ys, Heap.get?_push_of_some _ (Heap.get?_push_of_some _ (yk _)), y2, y3⟩ (Nat.ne_of_lt (Heap.lt_size (Heap.get?_push_of_some _ (yk _)))) (Heap.get?_push_size _ rfl) rfl (by first | (simp; done) | (simp; omega)) ?_
  refine wpAny_bind (wpAny_isInstance (T := "StopIteration") (b := true) ⟨_, Heap.get?_update_self _ (Heap.get?_push_size _ rfl) rfl, rfl⟩ isSubtype_stop ?_)
  refine wpAny_pure (fin _ fun b o hb e => ?_)
  have bk : ∀ f, (s.heap.update it f).get? b = some o := fun f => (Heap.get?_update_other _ _ (Ne.symm hb)).trans e
  rw [Heap.get?_update_other _ _ (Nat.ne_of_gt (Heap.lt_size (Heap.get?_push_of_some _ (bk _))))]
  exact Heap.get?_push_of_some _ (Heap.get?_push_of_some _ (bk _))
/-- a list is walked, the handled exception standing by -/
theorem walk_hot {it l y : Addr} {oy : Obj} {ys : Array Value} (hh : A.handled = some (.ref y)) (y2 : oy.data = .fields ys) (y3 : ys[2]? = some .none) (ne : it ≠ y) (nl : l ≠ it) (xs : Array Value) :
    Walks prog w A it [it, l, y] [it] xs.size (fun i v => xs[i]? = some v) (fun i h => h.IsListIter it l i ∧ h.IsList l xs ∧ h.get? y = some oy) where
  sub := fun b hb => by simp at hb; simp [hb]
  frame := fun _ _ _ st k => ⟨st.1.at fun o e => k it (by simp) o e, st.2.1.at fun o e => k l (by simp) o e, k y (by simp) _ st.2.2⟩
  item := fun i s Q E hi st fin => by
    refine wpAny_pyNext_list_item st.1 st.2.1 (x := xs[i]) (by simp [hi]) fun h2 i2 sb => ?_
    exact fin _ h2 s.toks (by simp [hi]) ⟨i2, st.2.1.extBut sb.extBut nl, sb.extBut y oy (Ne.symm ne) st.2.2⟩ fun b o hb e => sb.extBut b o (fun z => hb (by simp [z])) e
  done := fun s Q E st fin => list_end_hot ⟨hh, oy, ys, st.2.2, y2, y3⟩ ne st.1 st.2.1 (by simp) fun h2 k => fin h2 s.toks fun b o hb e => k b o (fun z => hb (by simp [z])) e
  self := fun _ _ _ _ st fin => wpAny_pyIter_listiter st.1 fin
end
end So
end
section
set_option Elab.async false
set_option autoImplicit false
set_option linter.all false
/-! S23: sum([int(one) for one in names]) while an exception is handled. -/
namespace So
open PySem PySem.Spec PyProof.Rows L2 HotX
open Ev (D Ob Mem)
def toI (b : Bool) : Int := if b then 1 else 0
theorem toI_le (b : Bool) : 0 ≤ toI b ∧ toI b ≤ 1 := by cases b <;> decide
theorem preSum_take (es : List Int) : ∀ j, j ≤ es.length → preSum (fun i => es.getD i 0) j = (es.take j).sum
  | 0, _ => by simp [preSum]
  | j + 1, h => by
    have hj : j < es.length := h
    rw [preSum, preSum_take es j (by omega), List.take_add_one, List.getElem?_eq_getElem hj, List.sum_append, List.getD_eq_getElem?_getD, List.getElem?_eq_getElem hj]
    simp
theorem sum_small : ∀ (bs : List Bool), 0 ≤ (bs.map toI).sum ∧ (bs.map toI).sum ≤ bs.length
  | [] => by simp
  | b :: bs => by
    have h1 := sum_small bs
    have h2 := toI_le b
    rw [List.map_cons, List.sum_cons, List.length_cons]
    omega
theorem paired_int : ∀ {vs : List Value} {us : List Value} {bs : List Bool}, Paired (fun v y => ∃ b t, v = Value.bool b ∧ y = Value.int (toI b) t) vs us → vs = bs.map Value.bool → IntsAre us (bs.map toI)
  | _, _, [], .nil, _ => .nil
  | _, _, _ :: _, .nil, e => by cases e
  | _, _, [], .cons _ _, e => by cases e
  | _, _, b :: bs, .cons ⟨b', t, e1, e2⟩ r, e => by
    rw [List.map_cons] at e
    obtain ⟨e3, e4⟩ := List.cons.inj e
    subst e2
    rw [e1] at e3
    cases e3
    exact .cons _ _ (paired_int r e4)
theorem vals_bool : ∀ {bs : List Bool} {us : List Value}, Vals (bs.map V.bl) us → us = bs.map Value.bool
  | [], _, .nil => rfl
  | b :: bs, _, .cons r t => by
    have e : _ = Value.bool b := r
    rw [e, vals_bool t]
    rfl
theorem ints_at : ∀ {us : List Value} {es : List Int}, IntsAre us es → ∀ (i : Nat) v, us[i]? = some v → ∃ t, v = .int (es.getD i 0) t
  | _, _, .nil, i, v, e => by simp at e
  | _, _, .cons n t r, 0, v, e => by
    simp at e
    exact ⟨t, by rw [← e]; rfl⟩
  | _, _, .cons n t r, i + 1, v, e => by
    obtain ⟨t2, e2⟩ := ints_at r i v (by simpa using e)
    exact ⟨t2, by rw [e2]; simp⟩
def tSumH (i : Nat) : TE := fun σ H Q => ∃ (l : Addr) (bs : List Bool), σ[i]? = some (some (V.ref l)) ∧ H l = some (.lst (bs.map V.bl)) ∧ bs.length ≤ 50 ∧ Q (.int (bs.map toI).sum) H
section
variable {X : Cx} {i : Nat} {x y : Str} {p1 p2 p3 p4 p5 p6 p7 pos : Pos} {scope : Scope}
/-- the block's scope, as it must be -/
structure LcS (scope : Scope) (y : Str) : Prop where
  free : ∀ z ∈ scope.names, z.2 ≠ .free
  cell : ∀ z ∈ scope.names, z.2 ≠ .cell
  kind : scope.kind = .function
  uniq : ∀ z ∈ scope.names, z.2 = .local → scope.names.lookup z.1 = some .local
  own : scope.names.lookup y = some .local
  int : scope.names.lookup ("int" : Str) = some .globalImplicit
theorem pe_sumH (hot : L2H.HotC X) (hi : X.N[i]? = some x) (vis : Vis X.env.scope x) (hd : (x == ("__debug__" : Str)) = false) (hcd : (x == ("__classdict__" : Str)) = false) (gs : Gl X "sum") (ms : X.mg "sum" = none) (mi : X.mg "int" = none) (ls : LcS scope y)
    (hy : (y == ("__debug__" : Str)) = false) (hyc : (y == ("__classdict__" : Str)) = false) :
    PE X (.Call (.Name "sum" p1) [.ListComp (.Call (.Name "int" p2) [.Name y p3] [] p4) [⟨.Name y p5, .Name x p6, [], 0⟩] scope p7] [] pos) (tSumH i) := by
  refine ⟨fun pins s σ H Q I hq => ?_⟩
  obtain ⟨l, bs, e1, e2, e3, fin⟩ := hq
  obtain ⟨p, ⟨hh, ys, y2, y3⟩, hp⟩ := hot
  refine Call_ (ld_blt I gs ms PyProof.Rows.boot_sum ?_)
  refine callWith_builtin1 (args_cons ?_ rfl) rfl rfl
  refine wpAny_ListComp_walk (p := fun _ => true) (F := fun v y => ∃ b t, v = Value.bool b ∧ y = Value.int (toI b) t) ls.free ls.cell ls.kind ls.uniq ls.own ?_ (fun _ => rfl)
  refine thn ((pe_var (pos := p6) (i := i) hi vis hd hcd).run pins s σ H (fun v H1 => v = V.ref l ∧ H = H1) I ⟨_, e1, rfl, rfl⟩) fun u s1 ⟨v, H1, I1, ru, ev, eH⟩ => ?_
  subst ev; subst eH
  obtain rfl : u = Value.ref l := ru
  obtain ⟨its, n, rv, ob, _⟩ := I1.lst e2
  have eits := vals_bool rv
  have isl : s1.heap.IsList l its.toArray := ⟨_, ob, rfl, _, rfl⟩
  have P1 := I1.pin p (List.mem_append_left _ hp)
  have lt : l < s1.heap.objs.size := Heap.lt_size ob
  have ltp : p.1 < s1.heap.objs.size := Heap.lt_size P1.1
  refine wpAny_pyIter_list isl ?_
  refine ⟨s1.heap.objs.size, _, _, _, _, _, rfl, walk_hot hh y2 y3 (Nat.ne_of_gt ltp) (Nat.ne_of_lt lt) its.toArray, ?_, ⟨⟨_, Heap.get?_push_size _ rfl, rfl, rfl⟩, ?_, Heap.get?_push_of_some _ P1.1⟩, fun b hb => ?_, ⟨?_, ?_⟩, ?_⟩
  · rw [List.size_toArray, eits, List.length_map]
    have := sizeLine_eq
    omega
  · exact ⟨_, Heap.get?_push_of_some _ ob, rfl, _, rfl⟩
  · show b < (s1.heap.push _).objs.size
    rw [Heap.size_push]
    simp only [List.mem_cons, List.not_mem_nil, or_false] at hb
    rcases hb with hb | hb | hb
    · rw [hb]; exact Nat.lt_succ_self _
    · rw [hb]; exact Nat.lt_succ_of_lt lt
    · rw [hb]; exact Nat.lt_succ_of_lt ltp
  · intro C j v s3 m3 E' hv hns hm hk ht
    exact wpAny_tests_nil ⟨rfl, s3.heap, s3.toks, rfl, fun _ _ e => e⟩
  · intro C j v s3 m3 E' hv hpv hns hm hk ht
    -- int(one) in the block
    have keep : ∀ b o, s1.heap.get? b = some o → s3.heap.get? b = some o := fun b o e => hk b o (by
      simp only [List.mem_cons, List.not_mem_nil, or_false]
      exact Nat.ne_of_lt (Heap.lt_size e)) (Heap.get?_push_of_some _ e)
    obtain ⟨mb, b1, b2⟩ := I1.mod.blt
    obtain ⟨b, hb⟩ : ∃ b, v = Value.bool b := by
      have hv : its.toArray[j]? = some v := hv
      rw [eits, List.getElem?_toArray, List.getElem?_map] at hv
      cases q : bs[j]? with
      | none => rw [q] at hv; cases hv
      | some b => rw [q] at hv; cases hv; exact ⟨b, rfl⟩
    subst hb
    refine Call_ (Calls.Name_function_global ls.kind ls.int (Calls.loadGlobal_builtin (mg := X.mg) (mb := mb) ?_ mi ?_ ((b2 "int" (by decide)).trans (by decide +kernel : bootBuiltins "int" = some (.type "int"))) ?_) (by decide))
    · show s3.heap.Ns X.env.globals X.mg
      rw [I1.ok.glob]
      exact (I1.mod.glob.keeps I1.bk).keeps keep
    · show s3.heap.Ns X.env.builtins mb
      rw [I1.ok.blt]
      exact (b1.keeps I1.bk).keeps keep
    · refine callWith_type1 (args_cons ?_ rfl) rfl rfl
      refine wpAny_Name (wpAny_loadName_local ls.kind ls.own hns hm ?_) hy
      refine args_nil (call_int_bool ⟨⟨b, _, rfl, rfl⟩, s3.heap, s3.toks + 1, rfl, fun _ _ e => e⟩)
  · intro D h2 tk us vs hD isD pl hl hP pr hk
    refine args_nil (call_sum_walk (wpAny_pyIter_list isD ?_))
    have all : vs.filter (fun _ => true) = vs := List.filter_eq_self.mpr fun _ _ => rfl
    rw [all] at pr
    have evs : vs = bs.map Value.bool := by
      refine List.ext_getElem? fun j => ?_
      rw [← eits]
      by_cases hj : j < vs.length
      · have := hP j vs[j] (List.getElem?_eq_getElem hj)
        rw [List.getElem?_eq_getElem hj, ← this, List.getElem?_toArray]
      · have hl' : its.length = vs.length := by rw [hl, List.size_toArray]
        rw [List.getElem?_eq_none (by omega), List.getElem?_eq_none (by omega)]
    have ia := paired_int pr evs
    have es := ia.length
    rw [List.length_map] at es
    have hl2 : us.size = bs.length := by rw [← es]; simp
    have keep : ∀ b o, s1.heap.get? b = some o → h2.get? b = some o := fun b o e => hk b o (by
      simp only [List.mem_cons, List.not_mem_nil, or_false]
      exact Nat.ne_of_lt (Heap.lt_size e)) (Heap.get?_push_of_some _ e)
    have ltD : D < h2.objs.size := by obtain ⟨_, e, _⟩ := isD; exact Heap.lt_size e
    have Pp := keep _ _ P1.1
    have ltp2 := Heap.lt_size Pp
    have val : ∀ j, j ≤ bs.length → preSum (fun i => (bs.map toI).getD i 0) j = ((bs.map toI).take j).sum := fun j hj => preSum_take _ j (by rw [List.length_map]; exact hj)
    refine ⟨h2.objs.size, _, _, _, _, _, fun i => (bs.map toI).getD i 0, rfl, walk_hot (show X.A.in1.handled = _ from hh) y2 y3 (Nat.ne_of_gt ltp2) (Nat.ne_of_lt ltD) us, ⟨⟨_, Heap.get?_push_size _ rfl, rfl, rfl⟩, isD.push _, Heap.get?_push_of_some _ Pp⟩, fun b hb => ?_, fun j v hv => ?_, fun j hj => ?_, fun h3 tk3 t3 hk3 => ?_⟩
    · show b < (h2.push _).objs.size
      rw [Heap.size_push]
      simp only [List.mem_cons, List.not_mem_nil, or_false] at hb
      rcases hb with hb | hb | hb
      · rw [hb]; exact Nat.lt_succ_self _
      · rw [hb]; exact Nat.lt_succ_of_lt ltD
      · rw [hb]; exact Nat.lt_succ_of_lt ltp2
    · exact ints_at ia j v (by simpa using hv)
    · have hj : j < bs.length := by rw [← hl2]; exact hj
      have e4 : (bs.map toI).getD j 0 = toI bs[j] := by rw [List.getD_eq_getElem?_getD, List.getElem?_map, List.getElem?_eq_getElem hj]; rfl
      have e5 := toI_le bs[j]
      have e6 := sum_small (bs.take (j + 1))
      rw [val (j + 1) hj, ← List.map_take]
      have e7 : (bs.take (j + 1)).length ≤ bs.length := List.length_take_le' ..
      unfold InLong
      dsimp only
      rw [e4]
      omega
    · have e8 : preSum (fun i => (bs.map toI).getD i 0) us.size = (bs.map toI).sum := by
        rw [hl2, val bs.length (Nat.le_refl _), List.take_of_length_le (by rw [List.length_map]; exact Nat.le_refl _)]
      rw [e8]
      refine ⟨V.int (bs.map toI).sum, H, ?_, ⟨_, rfl⟩, fin⟩
      exact I1.kept (t' := tk3) fun b o e => hk3 b o (by
        simp only [List.mem_cons, List.not_mem_nil, or_false]
        exact Nat.ne_of_lt (Heap.lt_size (keep b o e))) (Heap.get?_push_of_some _ (keep b o e))
end
end So
end
section
set_option Elab.async false
set_option autoImplicit false
set_option linter.all false
/-! S24: the def that tells an error's kind, called in an except suite. -/
namespace So
open PySem PySem.Spec PyProof.Rows L2 HotX
open Ev (D Ob Mem)
/-! ### its text -/
def isB (c : Expr) (n : Str) : Bool := match c with
  | .Call (.Name f _) [.Name e _, .Name k _] [] _ => decide (f = "isinstance") && decide (e = "e") && decide (k = n)
  | _ => false
theorem isB_iv {c : Expr} {n : Str} (h : isB c n = true) : ∃ p1 p2 p3 p, c = .Call (.Name "isinstance" p1) [.Name "e" p2, .Name n p3] [] p := by
  unfold isB at h
  split at h
  · simp only [Bool.and_eq_true, decide_eq_true_eq] at h
    obtain ⟨⟨h1, h2⟩, h3⟩ := h
    subst h1 h2 h3
    exact ⟨_, _, _, _, rfl⟩
  · cases h
def kB (c : Expr) (s : Str) : Bool := match c with
  | .Constant (.str x) _ _ => decide (x = s)
  | _ => false
theorem kB_iv {c : Expr} {s : Str} (h : kB c s = true) : ∃ j p, c = .Constant (.str s) j p := by
  unfold kB at h
  split at h
  · have := of_decide_eq_true h
    subst this
    exact ⟨_, _, rfl⟩
  · cases h
def lcSB (sc : Scope) : Bool := (sc.names.all fun z => decide (z.2 ≠ .free)) && (sc.names.all fun z => decide (z.2 ≠ .cell)) && decide (sc.kind = .function) && (sc.names.all fun z => decide (z.2 ≠ .local) || decide (sc.names.lookup z.1 = some .local)) &&
  decide (sc.names.lookup ("one" : Str) = some .local) && decide (sc.names.lookup ("int" : Str) = some .globalImplicit)
theorem lcSB_ok {sc : Scope} (h : lcSB sc = true) : LcS sc "one" := by
  unfold lcSB at h
  simp only [Bool.and_eq_true, decide_eq_true_eq, List.all_eq_true, Bool.or_eq_true] at h
  obtain ⟨⟨⟨⟨⟨h1, h2⟩, h3⟩, h4⟩, h5⟩, h6⟩ := h
  exact ⟨h1, h2, h3, fun z hz e => (h4 z hz).resolve_left fun k => k e, h5, h6⟩
def cl5 : List Str := ["NotAllowed", "TooLarge", "Missing", "BadPaper", "BadForm"]
def tx5 : List Str := ["refused", "large", "missing", "paper", "form"]
def clB : List Expr → List Str → Bool
  | [], [] => true
  | c :: cs, n :: ns => isB c n && clB cs ns
  | _, _ => false
def ksB : List Expr → List Str → Bool
  | [], [] => true
  | c :: cs, n :: ns => kB c n && ksB cs ns
  | _, _ => false
def errB (b : List Stmt) : Bool := match b with
  | [.Assign [.Name n1 _] (.List cs _) _,
     .If (.Compare (.Call (.Name n2 _) [.ListComp (.Call (.Name n3 _) [.Name n4 _] [] _) [⟨.Name n5 _, .Name n6 _, [], a⟩] scope _] [] _) [.NotEq] [.Constant (.int k) _ _] _) [.Return (some (.Constant (.str o) _ _)) _] [] _,
     .Return (some (.Subscript (.List ks _) (.Call (.Attribute (.Name n7 _) n8 ap) [.Constant (.bool bb) _ _] [] cp) _)) _] =>
    decide (n1 = "names") && clB cs cl5 && decide (n2 = "sum") && decide (n3 = "int") && decide (n4 = "one") && decide (n5 = "one") && decide (n6 = "names") && decide (a = 0) && lcSB scope && decide (k = 1) && decide (o = "odd") && ksB ks tx5 && decide (n7 = "names") && decide (n8 = "index") && bb && (ap.endLine == cp.line)
  | _ => false

/-! ### its readings -/
section
variable {X : Cx} {pos : Pos}
/-- what is asked of the class D: the answers for the classes ns -/
def KitL (K : PySem.W.Frag) (D : Addr) : List Str → List Bool → Prop
  | [], [] => True
  | n :: ns, b :: bs => PySem.W.kitOne K (.ref D) (.ref (He.ga K n)) = some b ∧ KitL K D ns bs
  | _, _ => False
theorem cr_isH {D : Addr} {p : Addr × Obj} (hp : p ∈ X.pn) (C : ExcC X.K D) (h1 : p.2.cls = .ref D) (h2 : p.2.dict = none) (h3 : ∃ vs, p.2.data = .fields vs) : CallR X (.builtin "isinstance") (rIsE X.K D p.1) := by
  intro pins s σ H xs us Q I r h
  obtain ⟨c, cv, b, rfl, hcv, e, q⟩ := h
  match us, r with
  | [u, w], .cons rx (.cons rt .nil) =>
    obtain rfl : u = Value.ref p.1 := rx
    have ew := hcv _ rt
    subst ew
    have get := (I.pin p (List.mem_append_left _ hp)).1
    have J : PySem.W.InstAt s.heap p.1 p.2 D none := by
      obtain ⟨pa, oc, od, dt, sl⟩ := p
      dsimp only at h1 h2 h3 get ⊢
      obtain ⟨vs, h3⟩ := h3
      subst h1 h2 h3
      exact ⟨get, rfl, rfl, trivial⟩
    exact PySem.W.kia_one (PySem.W.handS_kitx_exc C.hg C.hk C.hs C.hd C.ha C.hn C.ht C.hm) I.kIn J e (fun z => nomatch z) fun tk => ⟨.bl b, H, I.kept (t' := tk) fun _ _ z => z, rfl, q⟩
/-- the context of the def's body -/
structure ErrX (X : Cx) (p : Addr × Obj) (D : Addr) : Prop where
  N : X.N = ([("e" : Str), ("names" : Str), ("one" : Str)] : List Str)
  pn : p ∈ X.pn
  ex : ExcC X.K D
  h1 : p.2.cls = .ref D
  h2 : p.2.dict = none
  h3 : ∃ vs, p.2.data = .fields vs
  hot : L2H.HotC X
  le : X.env.scope.names.lookup ("e" : Str) = some .local
  ln : X.env.scope.names.lookup ("names" : Str) = some .local
  gi : Gl X "isinstance"
  gs : Gl X "sum"
  mi : X.mg "isinstance" = none
  ms : X.mg "sum" = none
  mt : X.mg "int" = none
  cl : ∀ n ∈ cl5, Gl X n ∧ X.mg n = some (.ref (He.ga X.K n))
def tIsL (a : Addr) (bs : List Bool) : TA := fun σ H Q => σ[0]? = some (some (V.ref a)) ∧ Q (bs.map V.bl) H
theorem pa_isL {p : Addr × Obj} {D : Addr} (c : ErrX X p D) : ∀ {cs : List Expr} {ns : List Str} {bs : List Bool}, clB cs ns = true → (∀ n ∈ ns, n ∈ cl5) → KitL X.K D ns bs → PA X cs (tIsL p.1 bs)
  | [], [], [], _, _, _ => PA.imp pa_nil fun σ H Q h => h.2
  | [], [], _ :: _, _, _, k => False.elim k
  | [], _ :: _, _, h, _, _ => by simp [clB] at h
  | _ :: _, [], _, h, _, _ => by simp [clB] at h
  | _ :: _, _ :: _, [], _, _, k => False.elim k
  | e :: cs, n :: ns, b :: bs, h, hn, k => by
    rw [clB, Bool.and_eq_true] at h
    obtain ⟨p1, p2, p3, p4, rfl⟩ := isB_iv h.1
    obtain ⟨g1, m1⟩ := c.cl n (hn n List.mem_cons_self)
    have hd : (n == ("__debug__" : Str)) = false := by
      have := hn n List.mem_cons_self
      simp only [cl5, List.mem_cons, List.not_mem_nil, or_false] at this
      rcases this with z | z | z | z | z <;> subst z <;> decide
    have a1 : PA X [.Name "e" p2, .Name n p3] (tCons (tVar 0) (tCons (tC (.ref (He.ga X.K n))) tNil)) :=
      pa_cons (pe_var (by rw [c.N]; rfl) (.inl c.le)) (pa_cons (pe_glob g1 m1 rfl hd) pa_nil)
    have e1 : PE X (.Call (.Name "isinstance" p1) [.Name "e" p2, .Name n p3] [] p4) (fun σ H Q => σ[0]? = some (some (V.ref p.1)) ∧ Q (.bl b) H) := by
      refine PE.imp (pe_callB (cr_isH c.pn c.ex c.h1 c.h2 c.h3) c.gi c.mi (by decide +kernel) a1) ?_
      rintro σ H Q ⟨h1, q⟩
      exact ⟨_, h1, .ref (He.ga X.K n), _, b, rfl, fun u hu => hu, k.1, q⟩
    exact PA.imp (pa_cons e1 (pa_isL c h.2 (fun m hm => hn m (List.mem_cons_of_mem _ hm)) k.2)) fun σ H Q ⟨q1, q2⟩ => ⟨q1, q1, q2⟩
theorem pa_kL : ∀ {cs : List Expr} {ns : List Str}, ksB cs ns = true → PA X cs (fun σ H Q => Q (ns.map V.str) H)
  | [], [], _ => PA.imp pa_nil fun σ H Q h => h
  | [], _ :: _, h => by simp [ksB] at h
  | _ :: _, [], h => by simp [ksB] at h
  | e :: cs, n :: ns, h => by
    rw [ksB, Bool.and_eq_true] at h
    obtain ⟨j, p, rfl⟩ := kB_iv h.1
    exact PA.imp (pa_cons pe_str (pa_kL h.2)) fun σ H Q q => q
def tErr (K : PySem.W.Frag) (a : Addr) (bs : List Bool) : TS :=
  tSeq (tAsg (tLst (tIsL a bs)) (gName 1)) (tSeq (tIfS (tTest (tOp rNe (tSumH 1) (tC (.int 1)))) (tRet (tC (.str "odd"))) tNext)
    (tRet (tOp (rIxL K) (tLst (fun σ H Q => Q (tx5.map V.str) H)) (tBM K "list" (rIndex K) (tVar 1) (tCons (tC (.bl true)) tNil)))))
theorem err_pss {p : Addr × Obj} {D : Addr} (c : ErrX X p D) {b : List Stmt} {bs : List Bool} (h : errB b = true) (k : KitL X.K D cl5 bs) : PSs X b (tErr X.K p.1 bs) := by
  unfold errB at h
  split at h
  · simp only [Bool.and_eq_true, decide_eq_true_eq] at h
    obtain ⟨⟨⟨⟨⟨⟨⟨⟨⟨⟨⟨⟨⟨⟨⟨h1, h2⟩, h3⟩, h4⟩, h5⟩, h6⟩, h7⟩, h8⟩, h9⟩, h10⟩, h11⟩, h12⟩, h13⟩, h14⟩, h15⟩, h16⟩ := h
    subst h1 h3 h4 h5 h6 h7 h8 h10 h11 h13 h14 h15
    have hN : X.N.Nodup := by rw [c.N]; decide
    have i1 : X.N[1]? = some ("names" : Str) := by rw [c.N]; rfl
    refine pss_cons (ps_set (i := 1) hN i1 (.inl c.ln) (pe_lst (pa_isL c h2 (fun _ h => h) k)) rfl (.inr c.ln)) (pss_cons (ps_if (pt_cmpR op_ne ?_ pe_int (nomark _)) (pss_one (ps_ret pe_str)) pss_nil)
      (pss_one (ps_ret (pe_ix ix_list (pe_lst (pa_kL h12)) (pe_bm PySem.F.plainAttrs_list PySem.F.slot_list_index PySem.F.type_list_index mt_index (pe_var i1 (.inl c.ln)) (pa_cons pe_bl pa_nil) rfl rfl h16) (fun _ _ => rfl)))))
    exact pe_sumH c.hot i1 (.inl c.ln) (by decide) (by decide) c.gs c.ms c.mt (lcSB_ok h9) (by decide) (by decide)
  · cases h
end
end So
end
section
set_option Elab.async false
set_option autoImplicit false
set_option linter.all false
/-! S25: .. its outcome, its call. -/
namespace So
open PySem PySem.Spec PyProof.Rows L2 HotX
open Ev (D Ob Mem)
/-- what it tells, from the five answers -/
def codes5 : List (List Nat) := [[114, 101, 102, 117, 115, 101, 100], [108, 97, 114, 103, 101], [109, 105, 115, 115, 105, 110, 103], [112, 97, 112, 101, 114], [102, 111, 114, 109]]
def errD (bs : List Bool) : D := if (bs.map toI).sum = 1 then .str (codes5.getD (bs.idxOf true) []) else .str [111, 100, 100]
theorem codes_tx : codes5.map tx = tx5 := by decide +kernel
theorem odd_tx : tx [111, 100, 100] = ("odd" : Str) := by decide +kernel
theorem codes_ok : ∀ s ∈ codes5, OkS s := by
  intro s hs c hc
  simp only [codes5, List.mem_cons, List.not_mem_nil, or_false] at hs
  rcases hs with h | h | h | h | h <;> subst h <;> (simp only [List.mem_cons, List.not_mem_nil, or_false] at hc; omega)
theorem mem_of_sum {bs : List Bool} (h : (bs.map toI).sum = 1) : true ∈ bs := by
  refine Classical.byContradiction fun n => ?_
  have : ∀ l : List Bool, true ∉ l → (l.map toI).sum = 0 := by
    intro l
    induction l with
    | nil => intro _; rfl
    | cons b l ih =>
      intro hn
      cases b with
      | true => exact absurd List.mem_cons_self hn
      | false =>
        rw [List.map_cons, List.sum_cons, ih fun z => hn (List.mem_cons_of_mem _ z)]
        rfl
  rw [this bs n] at h
  cases h
theorem tErr_ok {S : Sx} {a : Addr} {bs : List Bool} {H : L2.Hp} {g : G} {h : Mem} {Q : VK} {nx : L2.St → L2.Hp → Prop} (hl : bs.length = 5) (R : Rel S g h H)
    (fin : ∀ v g' H', Step g h H g' h H' → Rel S g' h H' → VD S g' (errD bs) v → Q v H') : tErr S.K a bs { nx := nx, rt := Q } [some (V.ref a), none, none] H := by
  refine ⟨rfl, by rw [List.length_map, hl]; exact sizeLine_eq ▸ by decide, fun q hq => ?_⟩
  have R1 : Rel S g h (upd H q (.lst (bs.map V.bl))) := R.new hq
  have s1 : Step g h H g h (upd H q (.lst (bs.map V.bl))) := Step.new R hq
  have e1 : (upd H q (.lst (bs.map V.bl))) q = some (.lst (bs.map V.bl)) := upd_same
  generalize upd H q (.lst (bs.map V.bl)) = H1 at R1 s1 e1
  refine ⟨q, bs, rfl, e1, by omega, rfl, !decide (V.int (bs.map toI).sum = V.int 1), rfl, ?_⟩
  by_cases hs : (bs.map toI).sum = 1
  · have ed : errD bs = .str (codes5.getD (bs.idxOf true) []) := if_pos hs
    dsimp only
    rw [if_neg (by rw [hs]; decide)]
    refine ⟨by rw [show (tx5.map V.str).length = 5 from rfl]; exact sizeLine_eq ▸ by decide, fun q2 hq2 => ?_⟩
    have m := mem_of_sum hs
    have li : bs.idxOf true < bs.length := List.idxOf_lt_length_iff.mpr m
    have gi : bs[bs.idxOf true]? = some true := by
      rw [List.getElem?_eq_getElem li]
      exact congrArg some (List.getElem_idxOf li)
    have ne : q2 ≠ q := fun z => by rw [z, e1] at hq2; cases hq2
    have e2 : (upd H1 q2 (.lst (tx5.map V.str))) q = some (.lst (bs.map V.bl)) := by rw [upd_ne (Ne.symm ne)]; exact e1
    refine ⟨.ref q, rfl, .inl ⟨rfl, _, .inl (.inl e2)⟩, q, bs.map V.bl, .bl true, bs.idxOf true, .bl true, rfl, rfl, .inl (.inl e2), rfl, ?_, by rw [List.getElem?_map, gi]; rfl, rfl, fun j z hj hz => ?_, ?_⟩
    · rw [List.all_eq_true]
      intro z hz
      obtain ⟨b, _, e⟩ := List.mem_map.mp hz
      subst e
      rfl
    · rw [List.getElem?_map] at hz
      have hjl : j < bs.length := by omega
      rw [List.getElem?_eq_getElem hjl] at hz
      cases hz
      have := List.not_of_lt_findIdx (p := (· == true)) (xs := bs) (by simpa [List.idxOf] using hj)
      cases hb : bs[j] with
      | false => rfl
      | true => rw [hb] at this; cases this
    · have c5 : ∃ s, codes5[bs.idxOf true]? = some s := ⟨codes5[bs.idxOf true]'(by rw [hl] at li; exact li), List.getElem?_eq_getElem _⟩
      obtain ⟨s, es⟩ := c5
      have ds : codes5.getD (bs.idxOf true) [] = s := by rw [List.getD_eq_getElem?_getD, es]; rfl
      have tj : (tx5.map V.str)[bs.idxOf true]? = some (.str (tx s)) := by rw [← codes_tx, List.getElem?_map, List.getElem?_map, es]; rfl
      refine ⟨q2, tx5.map V.str, (bs.idxOf true : Int), .str (tx s), rfl, rfl, .inl (.inl upd_same), ?_, ?_⟩
      · unfold L2.atI L2.ixN
        rw [if_pos (by omega), if_pos (by rw [show (tx5.map V.str).length = 5 from rfl]; omega)]
        exact tj
      · have R2 := R1.new (o := .lst (tx5.map V.str)) hq2
        refine fin _ g _ (s1.trans R R1 (Step.new R1 hq2)) R2 ?_
        rw [ed, ds]
        exact ⟨rfl, codes_ok s (List.mem_of_getElem? es)⟩
  · have ed : errD bs = .str [111, 100, 100] := if_neg hs
    dsimp only
    rw [if_pos (by simp; exact hs)]
    refine fin _ g H1 s1 R1 ?_
    rw [ed]
    exact ⟨congrArg V.str odd_tx.symm, fun c hc => by simp only [List.mem_cons, List.not_mem_nil, or_false] at hc; omega⟩

/-- the checks of that def -/
def errS (sc : Scope) : Bool := decide (sc.names.lookup ("e" : Str) = some .local) && decide (sc.names.lookup ("names" : Str) = some .local) && decide (sc.names.lookup ("isinstance" : Str) = some .globalImplicit) && decide (sc.names.lookup ("sum" : Str) = some .globalImplicit) && cl5.all fun n => decide (sc.names.lookup n = some .globalImplicit)
def excB (K : PySem.W.Frag) (D : Addr) : Bool :=
  He.eqO (PySem.W.findIn K (.ref D) "__getattribute__") (some (some (.builtin "BaseException.__getattribute__"))) && He.eqO (PySem.W.findIn K (.ref D) "__getattr__") (some none) && decide (PySem.W.subIn K (.ref D) (.type "BaseException") = some true) && PySem.W.hasDictIn K D &&
    He.eqO (PySem.W.findIn K (.ref D) "__class__") (some (some (.builtin "object.__class__"))) && He.eqO (PySem.W.specialIn K (.builtin "object.__class__") "__get__") (some (some (.builtin "getset_descriptor.__get__"))) && decide (PySem.W.takesIn K (.builtin "object.__class__") = some true) && decide (PySem.W.mroIn K D (.type "object") = some true)
theorem excB_ok {K : PySem.W.Frag} {D : Addr} (h : excB K D = true) : ExcC K D := by
  unfold excB at h
  simp only [Bool.and_eq_true, decide_eq_true_eq] at h
  obtain ⟨⟨⟨⟨⟨⟨⟨h1, h2⟩, h3⟩, h4⟩, h5⟩, h6⟩, h7⟩, h8⟩ := h
  exact ⟨He.eqO_ok h1, He.eqO_ok h2, h3, h4, He.eqO_ok h5, He.eqO_ok h6, h7, h8⟩
def kitB (K : PySem.W.Frag) (D : Addr) : List Str → List Bool → Bool
  | [], [] => true
  | n :: ns, b :: bs => decide (PySem.W.kitOne K (.ref D) (.ref (He.ga K n)) = some b) && kitB K D ns bs
  | _, _ => false
theorem kitB_ok {K : PySem.W.Frag} {D : Addr} : ∀ {ns : List Str} {bs : List Bool}, kitB K D ns bs = true → KitL K D ns bs
  | [], [], _ => trivial
  | [], _ :: _, h => by simp [kitB] at h
  | _ :: _, [], h => by simp [kitB] at h
  | n :: ns, b :: bs, h => by
    rw [kitB, Bool.and_eq_true, decide_eq_true_eq] at h
    exact ⟨h.1, kitB_ok h.2⟩
/-- what the top must say for it: cs, the classes with their five answers -/
def errK (t : Txt) (cs : List (Nat × List Bool)) (K : PySem.W.Frag) : Bool :=
  (cl5.all fun n => gloB K n) && He.eqO (PySem.W.nsIn K mainGlobals "isinstance") (some none) && cs.all fun q => excB K ((t.sx K).ca q.1) && kitB K ((t.sx K).ca q.1) cl5 q.2
section
variable {t : Txt} {P : Program} {w : World} {K : PySem.W.Frag} {mg : Str → Option Value} {base : Heap}
theorem err_ok {cs : List (Nat × List Bool)} {f0 : Nat} {d0 : DT} (X : K.In base) (G : base.Ns mainGlobals mg) (fb : factB t K = true) (ek : errK t cs K = true)
    (hn : d0.name = "_law_error") (hN : d0.N = ([("e" : Str), ("names" : Str), ("one" : Str)] : List Str)) (hp : d0.ps = ([("e" : Str)] : List Str)) (hf : t.fs[f0]? = some "_law_error") (sc : scB d0.N d0.ps (C8.fnScope d0.st) = true) (es : errS (C8.fnScope d0.st) = true) (eb : errB (C8.fnBody d0.st) = true)
    (FD : ∃ fd, FunD K d0.name d0.name (C8.fnArgs d0.st) (C8.fnBody d0.st) (C8.fnScope d0.st) [] [] (He.ga K d0.name) fd) (bp : BindP d0)
    (tab : ∀ f c d, t.pg.errT f c = some d → f = f0 ∧ ∃ bs, (c, bs) ∈ cs ∧ bs.length = 5 ∧ d = errD bs) : ErrOk (t.tx P w K mg base) := by
  intro f c d hd A outer s H p g h Q E hr hg hot hpin e0 hc1 hc2 R fin
  obtain ⟨rfl, bs, hbs, hl, rfl⟩ := tab f c d hd
  obtain ⟨fdt, oc, od, dV, kV, doc, pm, an, cdv, ct, osl, efd, lk, cd, dv, kw⟩ := FD.imp fun fd F => F.ex
  subst efd
  obtain rfl : dV = .none := by
    rcases dv with ⟨_, z⟩ | ⟨z, _⟩
    · exact z
    · exact absurd rfl z
  unfold errK at ek
  simp only [Bool.and_eq_true] at ek
  obtain ⟨⟨k1, k2⟩, k3⟩ := ek
  have k4 := List.all_eq_true.mp k3 (c, bs) hbs
  rw [Bool.and_eq_true] at k4
  unfold errS at es
  simp only [Bool.and_eq_true, decide_eq_true_eq, List.all_eq_true] at es
  obtain ⟨⟨⟨⟨s1, s2⟩, s3⟩, s4⟩, s5⟩ := es
  unfold factB at fb
  simp only [Bool.and_eq_true] at fb
  have f4 := fb.1.1.2
  have blt : ∀ x ∈ used, mg x = none := fun x hx => PySem.W.mg_none_of X G (He.eqO_ok (List.all_eq_true.mp f4 x hx))
  have S := sc_of sc
  have efa : (t.sx K).fa f = He.ga K d0.name := by rw [hn]; exact fs_at hf
  have inH : K.In s.heap := e0.mod.kin.keeps fun b o e => (e0.bs b o e).1
  have nolim : s.heap.NoLimit := e0.mod.nolimit.keeps fun b o e => (e0.bs b o e).1
  have bind : BindsTo s (PySem.W.fnOf d0.name d0.name (C8.fnArgs d0.st) (C8.fnBody d0.st) (C8.fnScope d0.st) .none kV doc pm an cdv ct) ⟨[.ref p.1], []⟩ (d0.ps.zip [.ref p.1]) := .of_eq (bp kV doc pm an cdv ct [.ref p.1] (by rw [hp]; rfl))
  have kinds : ∀ y ∈ d0.ps.zip [Value.ref p.1], (C8.fnScope d0.st).names.lookup y.1 = some .local ∨ ((C8.fnScope d0.st).names.lookup y.1 = some .cell ∧ ((cellsFrom (s.heap.objs.size + 1) (C8.fnScope d0.st).names []).lookup y.1).isSome = true) := by
    rintro ⟨n, v⟩ hy
    refine (S.par n (List.of_mem_zip hy).1).imp id fun q => ⟨q, ?_⟩
    exact PySem.W.cellsFrom_some _ _ _ (.inl q)
  show codeAny (model P w) A (.call (.ref ((t.sx K).fa f)) ⟨[.ref p.1], []⟩) _ s
  rw [efa]
  refine codeAny_call_function hr.depth (inH _ _ lk) rfl S.co S.gen rfl (PySem.W.codeRec_of inH cd) (bind _ _ _ _ ?_)
  refine wpAny_newFunctionEnv_cells S.kind kinds fun env he s1' xs => ?_
  subst he
  refine ⟨nolim.keeps xs.toInCall.keep, codeAny_func ?_⟩
  have e0' : Env0 P w K mg base A outer s H := e0
  have I := L2H.inv_startH (CX := L2N.CX P w) (E := E) (p := p) S hpin e0' (vs := [V.ref p.1]) (by rw [hp]; rfl) (.cons rfl .nil) xs
  obtain ⟨hh, ws, w1, w2⟩ := id hot
  have ex : ErrX (L2H.cxH (L2N.CX P w) P w K mg base d0.N d0.name (C8.fnScope d0.st) (He.ga K d0.name) cdv A outer s H E p) p ((t.sx K).ca c) := by
    refine ⟨hN, List.mem_cons_self, excB_ok k4.1, hc1, hc2, ⟨ws, w1⟩, ⟨p, ⟨hh, ws, w1, w2⟩, List.mem_cons_self⟩, s1, s2, s3, s4, PySem.W.mg_none_of X G (He.eqO_ok k2), blt "sum" (by decide), blt "int" (by decide), fun n hn => ⟨s5 n hn, ?_⟩⟩
    exact PySem.W.mg_of X G (He.eqO_ok (List.all_eq_true.mp k1 n hn))
  have body := err_pss ex eb (kitB_ok k4.2)
  have hq : tErr K p.1 bs { nx := fun _ H' => Q .non H', rt := Q } (L2.start d0.N [V.ref p.1]) H := by
    have e : L2.start d0.N [V.ref p.1] = [some (V.ref p.1), none, none] := by rw [hN]; rfl
    rw [e]
    exact tErr_ok (S := t.sx K) hl R fin
  refine wpAny_mono (body.run [] s1' _ H _ I hq) (fun fl s2 hs => ?_) fun e s2 hs => hs
  match fl, hs with
  | .ret u, ⟨v, σ2, H2, J, r2, q2⟩ => exact ⟨v, H2, J.os, J.bare, J.base, J.hok, r2, q2⟩
  | .next, ⟨σ2, H2, J, q2⟩ => exact ⟨.non, H2, J.os, J.bare, J.base, J.hok, rfl, q2⟩
  | .brk, ⟨_, _, _, q2⟩ => exact False.elim q2
  | .cont, ⟨_, _, _, q2⟩ => exact False.elim q2
end
end So
end
section
set_option autoImplicit false
set_option maxRecDepth 100000
namespace K21
open Ev
def e_is_label_0 : CE := (.cmp .in_ (.v 1) (.g 5))
/-- is_label(text): 0=text 1=sign -/
def d_is_label : Def := ⟨1, 2, true, (.cons (.ite (.or (.cons (.not (.e (.chn .le .le (.c (.int 1)) (.bi .len (.cons (.v 0) .nil)) (.g 0)))) (.cons (.e (.cmp .notin (.ix (.v 0) (.c (.int 0))) (.g 4))) .nil))) (.cons (.ret (.c (.bl false)))
    .nil) .nil)
    (.cons (.ret (.bi .all (.cons (.fr (.lc e_is_label_0 (.nm 1) (.it (.v 0)) .yes)) .nil)))
    .nil))⟩
def b_measured_0 : CSs := (.cons (.asg (.tp (.cons (.nm 4) (.cons (.nm 5) .nil))) (.call 1 (.cons (.v 1) .nil)))
    (.cons (.aug 2 .add (.v 4))
    (.cons (.asg (.nm 3) (.bi .max2 (.cons (.v 3) (.cons (.bin .add (.v 5) (.c (.int 1))) .nil))))
    .nil)))
/-- measured(document): 0=document 1=inner 2=size 3=deep 4=more 5=below -/
def d_measured : Def := ⟨1, 6, true, (.cons (.asg (.tp (.cons (.nm 2) (.cons (.nm 3) .nil))) (.tup (.cons (.c (.int 1)) (.cons (.c (.int 0)) .nil))))
    (.cons (.for_ (.nm 1) (.it (.sl (.v 0) (.so (.c (.int 1))) .no)) b_measured_0)
    (.cons (.ret (.tup (.cons (.v 2) (.cons (.v 3) .nil))))
    .nil)))⟩
def b_nodes_0 : CSs := (.cons (.expr (.mt .append (.v 2) (.cons (.tup (.cons (.tup (.star (.v 4) (.cons (.bin .sub (.v 3) (.c (.int 1))) .nil))) (.cons (.ix (.v 5) (.v 3)) .nil))) .nil)))
    .nil)
def b_nodes_1 : CSs := (.cons (.asg (.tp (.cons (.nm 4) (.cons (.nm 5) .nil))) (.mt .pop0 (.v 2) .nil))
    (.cons (.expr (.mt .append (.v 1) (.cons (.tup (.cons (.v 4) (.cons (.v 5) .nil))) .nil)))
    (.cons (.for_ (.nm 3) (.rng (.cons (.bin .sub (.bi .len (.cons (.v 5) .nil)) (.c (.int 1))) (.cons (.c (.int 0)) (.cons (.neg (.c (.int 1))) .nil)))) b_nodes_0)
    .nil)))
/-- nodes(document): 0=document 1=found 2=waiting 3=at 4=path 5=here -/
def d_nodes : Def := ⟨1, 6, true, (.cons (.asg (.nm 1) (.nw (.lst .nil)))
    (.cons (.asg (.nm 2) (.nw (.lst (.cons (.tup (.cons (.tup .nil) (.cons (.v 0) .nil))) .nil))))
    (.cons (.while_ (.e (.cmp .gt (.bi .len (.cons (.v 2) .nil)) (.c (.int 0)))) b_nodes_1)
    (.cons (.ret (.frz (.v 1)))
    .nil))))⟩
def b_check_document_0 : CSs := (.cons (.ite (.or (.cons (.not (.e (.call 0 (.cons (.ix (.v 4) (.c (.int 0))) .nil)))) (.cons (.e (.cmp .gt (.bin .sub (.bi .len (.cons (.v 4) .nil)) (.c (.int 1))) (.g 1))) .nil))) (.cons (.raise 1 [116, 104, 105, 115, 32, 105, 115, 32, 110, 111, 32, 100, 111, 99, 117, 109, 101, 110, 116])
    .nil) .nil)
    .nil)
/-- check_document(document): 0=document 1=size 2=deep 3=_ 4=here -/
def d_check_document : Def := ⟨1, 5, true, (.cons (.asg (.tp (.cons (.nm 1) (.cons (.nm 2) .nil))) (.call 1 (.cons (.v 0) .nil)))
    (.cons (.ite (.or (.cons (.e (.cmp .gt (.v 1) (.g 2))) (.cons (.e (.cmp .gt (.v 2) (.g 3))) .nil))) (.cons (.raise 2 [116, 104, 101, 32, 100, 111, 99, 117, 109, 101, 110, 116, 32, 105, 115, 32, 116, 111, 111, 32, 108, 97, 114, 103, 101])
    .nil) .nil)
    (.cons (.for_ (.tp (.cons (.nm 3) (.cons (.nm 4) .nil))) (.it (.call 2 (.cons (.v 0) .nil))) b_check_document_0)
    (.cons (.ret (.c .non))
    .nil))))⟩
def s_merged_0 : CS := (.ite (.or (.cons (.e (.cmp .eq (.v 1) (.v 2))) (.cons (.e (.cmp .eq (.v 2) (.v 0))) .nil))) (.cons (.ret (.v 1))
    .nil) .nil)
def s_merged_1 : CS := (.ite (.e (.cmp .eq (.v 1) (.v 0))) (.cons (.ret (.v 2))
    .nil) .nil)
def s_merged_2 : CS := (.ite (.or (.cons (.e (.cmp .ne (.bi .len (.cons (.v 0) .nil)) (.bi .len (.cons (.v 1) .nil)))) (.cons (.e (.cmp .ne (.bi .len (.cons (.v 0) .nil)) (.bi .len (.cons (.v 2) .nil)))) .nil))) (.cons (.expr (.mt .append (.v 4) (.cons (.v 3) .nil)))
    (.cons (.ret (.v 0))
    .nil)) .nil)
def s_merged_3 : CS := (.asg (.nm 5) (.call 5 (.cons (.ix (.v 0) (.c (.int 0))) (.cons (.ix (.v 1) (.c (.int 0))) (.cons (.ix (.v 2) (.c (.int 0))) .nil)))))
def s_merged_4 : CS := (.ite (.e (.cmp .is_ (.v 5) (.c .non))) (.cons (.expr (.mt .append (.v 4) (.cons (.v 3) .nil)))
    (.cons (.asg (.nm 5) (.ix (.v 0) (.c (.int 0))))
    .nil)) .nil)
def s_merged_5 : CS := (.asg (.nm 6) (.nw (.lst .nil)))
def b_merged_0 : CSs := (.cons (.expr (.mt .append (.v 6) (.cons (.call 4 (.cons (.ix (.v 0) (.bin .add (.v 7) (.c (.int 1)))) (.cons (.ix (.v 1) (.bin .add (.v 7) (.c (.int 1)))) (.cons (.ix (.v 2) (.bin .add (.v 7) (.c (.int 1)))) (.cons (.tup (.star (.v 3) (.cons (.v 7) .nil))) (.cons (.v 4) .nil)))))) .nil)))
    .nil)
def s_merged_6 : CS := (.for_ (.nm 7) (.rng (.cons (.bin .sub (.bi .len (.cons (.v 0) .nil)) (.c (.int 1))) .nil)) b_merged_0)
def s_merged_7 : CS := (.ret (.tup (.cons (.v 5) (.star (.v 6) .nil))))
/-- merged(base, first, second, path, clashes): 0=base 1=first 2=second 3=path 4=clashes 5=label 6=inner 7=at -/
def d_merged : Def := ⟨5, 8, true, (.cons s_merged_0
    (.cons s_merged_1
    (.cons s_merged_2
    (.cons s_merged_3
    (.cons s_merged_4
    (.cons s_merged_5
    (.cons s_merged_6
    (.cons s_merged_7
    .nil))))))))⟩
/-- merged_label(base, first, second): 0=base 1=first 2=second -/
def d_merged_label : Def := ⟨3, 3, true, (.cons (.ite (.or (.cons (.e (.cmp .eq (.v 1) (.v 2))) (.cons (.e (.cmp .eq (.v 2) (.v 0))) .nil))) (.cons (.ret (.v 1))
    .nil) .nil)
    (.cons (.ret (.ite (.e (.cmp .eq (.v 1) (.v 0))) (.v 2) (.c .non)))
    .nil))⟩
def b_check_three_0 : CSs := (.cons (.expr (.call 3 (.cons (.v 3) .nil)))
    .nil)
/-- check_three(base, first, second): 0=base 1=first 2=second 3=document -/
def d_check_three : Def := ⟨3, 4, true, (.cons (.for_ (.nm 3) (.it (.tup (.cons (.v 0) (.cons (.v 1) (.cons (.v 2) .nil))))) b_check_three_0)
    (.cons (.ret (.c .non))
    .nil))⟩
/-- clashes(base, first, second): 0=base 1=first 2=second 3=found -/
def d_clashes : Def := ⟨3, 4, true, (.cons (.expr (.call 6 (.cons (.v 0) (.cons (.v 1) (.cons (.v 2) .nil)))))
    (.cons (.asg (.nm 3) (.nw (.lst .nil)))
    (.cons (.expr (.call 4 (.cons (.v 0) (.cons (.v 1) (.cons (.v 2) (.cons (.tup .nil) (.cons (.v 3) .nil)))))))
    (.cons (.ret (.frz (.v 3)))
    .nil))))⟩
def s_merge_0 : CS := (.expr (.call 6 (.cons (.v 0) (.cons (.v 1) (.cons (.v 2) .nil)))))
def s_merge_1 : CS := (.asg (.nm 3) (.nw (.lst .nil)))
def s_merge_2 : CS := (.asg (.nm 4) (.call 4 (.cons (.v 0) (.cons (.v 1) (.cons (.v 2) (.cons (.tup .nil) (.cons (.v 3) .nil)))))))
def s_merge_3 : CS := (.ite (.e (.cmp .gt (.bi .len (.cons (.v 3) .nil)) (.c (.int 0)))) (.cons (.raise 3 [116, 104, 101, 114, 101, 32, 97, 114, 101, 32, 99, 108, 97, 115, 104, 101, 115])
    .nil) .nil)
def s_merge_4 : CS := (.asg (.tp (.cons (.nm 5) (.cons (.nm 6) .nil))) (.call 1 (.cons (.v 4) .nil)))
def s_merge_5 : CS := (.ite (.or (.cons (.e (.cmp .gt (.v 5) (.g 2))) (.cons (.e (.cmp .gt (.v 6) (.g 3))) .nil))) (.cons (.raise 2 [116, 104, 101, 32, 100, 111, 99, 117, 109, 101, 110, 116, 32, 103, 101, 116, 115, 32, 116, 111, 111, 32, 108, 97, 114, 103, 101])
    .nil) .nil)
def s_merge_6 : CS := (.ret (.v 4))
/-- merge(base, first, second): 0=base 1=first 2=second 3=found 4=told 5=size 6=deep -/
def d_merge : Def := ⟨3, 7, true, (.cons s_merge_0
    (.cons s_merge_1
    (.cons s_merge_2
    (.cons s_merge_3
    (.cons s_merge_4
    (.cons s_merge_5
    (.cons s_merge_6
    .nil)))))))⟩
def s_chosen_0 : CS := (.ite (.or (.cons (.e (.cmp .eq (.v 1) (.v 2))) (.cons (.e (.cmp .eq (.v 2) (.v 0))) .nil))) (.cons (.ret (.v 1))
    .nil) .nil)
def s_chosen_1 : CS := (.ite (.e (.cmp .eq (.v 1) (.v 0))) (.cons (.ret (.v 2))
    .nil) .nil)
def s_chosen_2 : CS := (.ite (.or (.cons (.e (.cmp .ne (.bi .len (.cons (.v 0) .nil)) (.bi .len (.cons (.v 1) .nil)))) (.cons (.e (.cmp .ne (.bi .len (.cons (.v 0) .nil)) (.bi .len (.cons (.v 2) .nil)))) .nil))) (.cons (.ret (.ite (.e (.cmp .eq (.mt .pop1 (.v 3) (.cons (.c (.int 0)) .nil)) (.c (.str [102, 105, 114, 115, 116])))) (.v 1) (.v 2)))
    .nil) .nil)
def s_chosen_3 : CS := (.asg (.nm 4) (.call 5 (.cons (.ix (.v 0) (.c (.int 0))) (.cons (.ix (.v 1) (.c (.int 0))) (.cons (.ix (.v 2) (.c (.int 0))) .nil)))))
def s_chosen_4 : CS := (.ite (.e (.cmp .is_ (.v 4) (.c .non))) (.cons (.asg (.nm 4) (.ite (.e (.cmp .eq (.mt .pop1 (.v 3) (.cons (.c (.int 0)) .nil)) (.c (.str [102, 105, 114, 115, 116])))) (.ix (.v 1) (.c (.int 0))) (.ix (.v 2) (.c (.int 0)))))
    .nil) .nil)
def e_chosen_0 : CE := (.call 9 (.cons (.ix (.v 0) (.v 5)) (.cons (.ix (.v 1) (.v 5)) (.cons (.ix (.v 2) (.v 5)) (.cons (.v 3) .nil)))))
def s_chosen_5 : CS := (.ret (.tup (.cons (.v 4) (.star (.fr (.lc e_chosen_0 (.nm 5) (.rng (.cons (.c (.int 1)) (.cons (.bi .len (.cons (.v 0) .nil)) .nil))) .yes)) .nil))))
/-- chosen(base, first, second, choices): 0=base 1=first 2=second 3=choices 4=label 5=at -/
def d_chosen : Def := ⟨4, 6, true, (.cons s_chosen_0
    (.cons s_chosen_1
    (.cons s_chosen_2
    (.cons s_chosen_3
    (.cons s_chosen_4
    (.cons s_chosen_5
    .nil))))))⟩
def s_merge_by_0 : CS := (.asg (.nm 4) (.bi .len (.cons (.call 7 (.cons (.v 0) (.cons (.v 1) (.cons (.v 2) .nil)))) .nil)))
def e_merge_by_0 : CE := (.cmp .in_ (.v 8) (.g 6))
def s_merge_by_1 : CS := (.ite (.or (.cons (.e (.cmp .ne (.bi .len (.cons (.v 3) .nil)) (.v 4))) (.cons (.not (.e (.bi .all (.cons (.fr (.lc e_merge_by_0 (.nm 8) (.it (.v 3)) .yes)) .nil)))) .nil))) (.cons (.raise 1 [116, 104, 101, 114, 101, 32, 105, 115, 32, 110, 111, 116, 32, 97, 32, 99, 104, 111, 105, 99, 101, 32, 102, 111, 114, 32, 101, 97, 99, 104, 32, 99, 108, 97, 115, 104])
    .nil) .nil)
def s_merge_by_2 : CS := (.asg (.nm 5) (.call 9 (.cons (.v 0) (.cons (.v 1) (.cons (.v 2) (.cons (.nw (.list_ (.v 3))) .nil))))))
def s_merge_by_3 : CS := (.asg (.tp (.cons (.nm 6) (.cons (.nm 7) .nil))) (.call 1 (.cons (.v 5) .nil)))
def s_merge_by_4 : CS := (.ite (.or (.cons (.e (.cmp .gt (.v 6) (.g 2))) (.cons (.e (.cmp .gt (.v 7) (.g 3))) .nil))) (.cons (.raise 2 [116, 104, 101, 32, 100, 111, 99, 117, 109, 101, 110, 116, 32, 103, 101, 116, 115, 32, 116, 111, 111, 32, 108, 97, 114, 103, 101])
    .nil) .nil)
def s_merge_by_5 : CS := (.ret (.v 5))
/-- merge_by(base, first, second, choices): 0=base 1=first 2=second 3=choices 4=many 5=told 6=size 7=deep 8=choice -/
def d_merge_by : Def := ⟨4, 9, true, (.cons s_merge_by_0
    (.cons s_merge_by_1
    (.cons s_merge_by_2
    (.cons s_merge_by_3
    (.cons s_merge_by_4
    (.cons s_merge_by_5
    .nil))))))⟩
/-- apart_paths(first, second): 0=first 1=second -/
def d_apart_paths : Def := ⟨2, 2, true, (.cons (.expr (.call 3 (.cons (.v 0) .nil)))
    (.cons (.expr (.call 3 (.cons (.v 1) .nil)))
    (.cons (.ret (.call 12 (.cons (.v 0) (.cons (.v 1) (.cons (.tup .nil) .nil)))))
    .nil)))⟩
def b_known_apart_0 : CSs := (.cons (.expr (.mt .extend (.v 3) (.cons (.call 12 (.cons (.ix (.v 0) (.bin .add (.v 4) (.c (.int 1)))) (.cons (.ix (.v 1) (.bin .add (.v 4) (.c (.int 1)))) (.cons (.tup (.star (.v 2) (.cons (.v 4) .nil))) .nil)))) .nil)))
    .nil)
/-- known_apart(first, second, path): 0=first 1=second 2=path 3=found 4=at -/
def d_known_apart : Def := ⟨3, 5, true, (.cons (.ite (.e (.cmp .eq (.v 0) (.v 1))) (.cons (.ret (.fr (.lst .nil)))
    .nil) .nil)
    (.cons (.ite (.or (.cons (.e (.cmp .ne (.ix (.v 0) (.c (.int 0))) (.ix (.v 1) (.c (.int 0))))) (.cons (.e (.cmp .ne (.bi .len (.cons (.v 0) .nil)) (.bi .len (.cons (.v 1) .nil)))) .nil))) (.cons (.ret (.fr (.lst (.cons (.v 2) .nil))))
    .nil) .nil)
    (.cons (.asg (.nm 3) (.nw (.lst .nil)))
    (.cons (.for_ (.nm 4) (.rng (.cons (.bin .sub (.bi .len (.cons (.v 0) .nil)) (.c (.int 1))) .nil)) b_known_apart_0)
    (.cons (.ret (.frz (.v 3)))
    .nil)))))⟩
/-- _law_same(told, due): 0=told 1=due -/
def d_law_same : Def := ⟨2, 2, true, (.cons (.ret (.cmp .eq (.bi .repr (.cons (.fr (.lst (.cons (.v 0) .nil))) .nil)) (.bi .repr (.cons (.fr (.lst (.cons (.v 1) .nil))) .nil))))
    .nil)⟩
def b_law_stream_0 : CSs := (.cons (.expr (.mt .append (.v 1) (.cons (.bin .mod (.bi .int_ (.cons (.v 3) .nil)) (.c (.int 1009))) .nil)))
    (.cons (.asg (.nm 3) (.bin .fdiv (.v 3) (.c (.int 1009))))
    (.cons (.ite (.e (.cmp .eq (.v 3) (.c (.int 0)))) (.cons .brk
    .nil) .nil)
    .nil)))
def b_law_stream_1 : CSs := (.cons (.asg (.nm 5) (.bin .mod (.bi .int_ (.cons (.bin .add (.bin .add (.bin .mul (.v 5) (.c (.int 48271))) (.bin .mul (.c (.int 7)) (.v 4))) (.c (.int 11))) .nil)) (.c (.int 2147483647))))
    (.cons (.expr (.mt .append (.v 1) (.cons (.bin .mod (.bin .mod (.bi .int_ (.cons (.bin .add (.bin .mul (.v 5) (.c (.int 69621))) (.v 4)) .nil)) (.c (.int 2147483629))) (.c (.int 1009))) .nil)))
    .nil))
def b_law_stream_2 : CSs := (.cons (.asg (.nm 3) (.bi .abs (.cons (.bi .int_ (.cons (.v 2) .nil)) .nil)))
    (.cons (.ite (.e (.cmp .ge (.v 3) (.bin .pow (.c (.int 10)) (.c (.int 18))))) (.cons (.for_ (.nm 4) (.rng (.cons (.c (.int 60)) .nil)) b_law_stream_0)
    .nil) (.cons (.asg (.nm 5) (.bin .mod (.bi .int_ (.cons (.v 3) .nil)) (.c (.int 2147483647))))
    (.cons (.for_ (.nm 4) (.rng (.cons (.c (.int 10)) .nil)) b_law_stream_1)
    .nil)))
    .nil))
/-- _law_stream(script): 0=script 1=numbers 2=cell 3=rest 4=k 5=stirred -/
def d_law_stream : Def := ⟨1, 6, true, (.cons (.asg (.nm 1) (.nw (.lst .nil)))
    (.cons (.for_ (.nm 2) (.it (.sl (.v 0) .no (.so (.c (.int 63))))) b_law_stream_2)
    (.cons (.ite (.e (.cmp .eq (.bi .len (.cons (.v 1) .nil)) (.c (.int 0)))) (.cons (.expr (.mt .append (.v 1) (.cons (.c (.int 0)) .nil)))
    .nil) .nil)
    (.cons (.ret (.frz (.v 1)))
    .nil))))⟩
/-- _law_next(state, many): 0=state 1=many 2=turn -/
def d_law_next : Def := ⟨2, 3, true, (.cons (.setix (.v 0) (.c (.int 1)) (.bin .add (.ix (.v 0) (.c (.int 1))) (.c (.int 1))))
    (.cons (.asg (.nm 2) (.bin .fdiv (.ix (.v 0) (.c (.int 1))) (.bi .len (.cons (.ix (.v 0) (.c (.int 0))) .nil))))
    (.cons (.ret (.bin .mod (.bi .int_ (.cons (.bin .add (.bin .add (.ix (.ix (.v 0) (.c (.int 0))) (.bin .mod (.ix (.v 0) (.c (.int 1))) (.bi .len (.cons (.ix (.v 0) (.c (.int 0))) .nil)))) (.bin .mul (.v 2) (.c (.int 389)))) (.bin .mul (.bin .mul (.ix (.v 0) (.c (.int 1))) (.v 2)) (.c (.int 17)))) .nil)) (.v 1)))
    .nil)))⟩
def d_law_error : Def := ⟨1, 0, true, .nil⟩
def b_law_nodes_0 : CSs := (.cons (.expr (.mt .extend (.v 2) (.cons (.call 17 (.cons (.ix (.v 0) (.bin .add (.v 3) (.c (.int 1)))) (.cons (.bin .add (.v 1) (.tup (.cons (.v 3) .nil))) .nil))) .nil)))
    .nil)
/-- _law_nodes(document, path): 0=document 1=path 2=found 3=k -/
def d_law_nodes : Def := ⟨2, 4, true, (.cons (.asg (.nm 2) (.nw (.lst (.cons (.tup (.cons (.v 1) (.cons (.v 0) .nil))) .nil))))
    (.cons (.for_ (.nm 3) (.rng (.cons (.bin .sub (.bi .len (.cons (.v 0) .nil)) (.c (.int 1))) .nil)) b_law_nodes_0)
    (.cons (.ret (.frz (.v 2)))
    .nil)))⟩
/-- _law_put(document, path, other): 0=document 1=path 2=other 3=at -/
def d_law_put : Def := ⟨3, 4, true, (.cons (.ite (.e (.cmp .eq (.bi .len (.cons (.v 1) .nil)) (.c (.int 0)))) (.cons (.ret (.v 2))
    .nil) .nil)
    (.cons (.asg (.nm 3) (.bin .add (.ix (.v 1) (.c (.int 0))) (.c (.int 1))))
    (.cons (.ret (.bin .add (.bin .add (.sl (.v 0) .no (.so (.v 3))) (.tup (.cons (.call 18 (.cons (.ix (.v 0) (.v 3)) (.cons (.sl (.v 1) (.so (.c (.int 1))) .no) (.cons (.v 2) .nil)))) .nil))) (.sl (.v 0) (.so (.bin .add (.v 3) (.c (.int 1)))) .no)))
    .nil)))⟩
def e_law_document_0 : CE := (.v 10)
def s_law_document_0 : CS := (.asg (.nm 3) (.fr (.lc e_law_document_0 (.tp (.cons (.nm 9) (.cons (.nm 10) .nil))) (.it (.v 1)) .yes)))
def c_law_document_0 : CT := (.e (.cmp .eq (.v 10) (.c (.int 0))))
def e_law_document_1 : CE := (.v 9)
def s_law_document_1 : CS := (.asg (.nm 4) (.fr (.lc e_law_document_1 (.tp (.cons (.nm 9) (.cons (.nm 10) .nil))) (.it (.v 1)) c_law_document_0)))
def s_law_document_2 : CS := (.ite (.or (.cons (.e (.cmp .lt (.v 2) (.c (.int 2)))) (.cons (.e (.cmp .eq (.bi .max1 (.cons (.v 3) .nil)) (.c (.int 0)))) .nil))) (.cons (.ret (.tup (.cons (.ix (.v 4) (.call 15 (.cons (.v 0) (.cons (.bi .len (.cons (.v 4) .nil)) .nil)))) .nil)))
    .nil) .nil)
def c_law_document_1 : CT := (.and (.cons (.e (.cmp .gt (.ix (.v 12) (.c (.int 1))) (.c (.int 0)))) (.cons (.e (.cmp .lt (.ix (.v 12) (.c (.int 1))) (.v 2))) .nil)))
def e_law_document_2 : CE := (.v 12)
def s_law_document_3 : CS := (.asg (.nm 5) (.fr (.lc e_law_document_2 (.nm 12) (.it (.v 1)) c_law_document_1)))
def s_law_document_4 : CS := (.ite (.e (.cmp .eq (.bi .len (.cons (.v 5) .nil)) (.c (.int 0)))) (.cons (.ret (.tup (.cons (.ix (.v 4) (.call 15 (.cons (.v 0) (.cons (.bi .len (.cons (.v 4) .nil)) .nil)))) .nil)))
    .nil) .nil)
def s_law_document_5 : CS := (.asg (.tp (.cons (.nm 9) (.cons (.nm 10) .nil))) (.ix (.v 5) (.call 15 (.cons (.v 0) (.cons (.bi .len (.cons (.v 5) .nil)) .nil)))))
def s_law_document_6 : CS := (.asg (.nm 6) (.bin .sub (.v 2) (.c (.int 1))))
def s_law_document_7 : CS := (.asg (.nm 7) (.nw (.lst .nil)))
def b_law_document_0 : CSs := (.cons (.asg (.nm 11) (.bin .sub (.v 6) (.bin .sub (.bin .sub (.v 10) (.v 8)) (.c (.int 1)))))
    (.cons (.ite (.e (.cmp .lt (.v 8) (.bin .sub (.v 10) (.c (.int 1))))) (.cons (.asg (.nm 11) (.bin .add (.c (.int 1)) (.call 15 (.cons (.v 0) (.cons (.v 11) .nil)))))
    .nil) .nil)
    (.cons (.expr (.mt .append (.v 7) (.cons (.call 19 (.cons (.v 0) (.cons (.v 1) (.cons (.v 11) .nil)))) .nil)))
    (.cons (.asg (.nm 6) (.bin .sub (.v 6) (.v 11)))
    .nil))))
def s_law_document_8 : CS := (.for_ (.nm 8) (.rng (.cons (.v 10) .nil)) b_law_document_0)
def s_law_document_9 : CS := (.ret (.bin .add (.tup (.cons (.v 9) .nil)) (.bi .tuple_ (.cons (.v 7) .nil))))
/-- _law_document(state, signs, whole): 0=state 1=signs 2=whole 3=ranks 4=leaves 5=rows 6=left 7=inner 8=k 9=label 10=rank 11=own 12=sign -/
def d_law_document : Def := ⟨3, 13, true, (.cons s_law_document_0
    (.cons s_law_document_1
    (.cons s_law_document_2
    (.cons s_law_document_3
    (.cons s_law_document_4
    (.cons s_law_document_5
    (.cons s_law_document_6
    (.cons s_law_document_7
    (.cons s_law_document_8
    (.cons s_law_document_9
    .nil))))))))))⟩
/-- _law_exact(many): 0=many 1=third -/
def d_law_exact : Def := ⟨1, 2, true, (.cons (.ite (.e (.cmp .eq (.v 0) (.c (.int 1)))) (.cons (.ret (.tup (.cons (.c (.str [97])) .nil)))
    .nil) .nil)
    (.cons (.ite (.e (.cmp .lt (.v 0) (.c (.int 4)))) (.cons (.ret (.tup (.cons (.c (.str [103])) (.cons (.call 20 (.cons (.bin .sub (.v 0) (.c (.int 1))) .nil)) .nil))))
    .nil) .nil)
    (.cons (.asg (.nm 1) (.bin .fdiv (.bin .sub (.v 0) (.c (.int 1))) (.c (.int 3))))
    (.cons (.ret (.tup (.cons (.c (.str [102])) (.cons (.call 20 (.cons (.v 1) .nil)) (.cons (.call 20 (.cons (.v 1) .nil)) (.cons (.call 20 (.cons (.bin .sub (.bin .sub (.v 0) (.c (.int 1))) (.bin .mul (.c (.int 2)) (.v 1))) .nil)) .nil))))))
    .nil))))⟩
/-- _law_small_signs(state): 0=state 1=found -/
def d_law_small_signs : Def := ⟨1, 2, true, (.cons (.asg (.nm 1) (.nw (.lst (.cons (.tup (.cons (.c (.str [97])) (.cons (.c (.int 0)) .nil))) (.cons (.tup (.cons (.c (.str [103])) (.cons (.c (.int 1)) .nil))) .nil)))))
    (.cons (.ite (.e (.cmp .eq (.call 15 (.cons (.v 0) (.cons (.c (.int 2)) .nil))) (.c (.int 0)))) (.cons (.expr (.mt .append (.v 1) (.cons (.tup (.cons (.c (.str [102])) (.cons (.c (.int 2)) .nil))) .nil)))
    .nil) .nil)
    (.cons (.ite (.e (.cmp .eq (.call 15 (.cons (.v 0) (.cons (.c (.int 2)) .nil))) (.c (.int 0)))) (.cons (.expr (.mt .append (.v 1) (.cons (.tup (.cons (.c (.str [98])) (.cons (.c (.int 0)) .nil))) .nil)))
    .nil) .nil)
    (.cons (.ite (.e (.cmp .eq (.call 15 (.cons (.v 0) (.cons (.c (.int 4)) .nil))) (.c (.int 0)))) (.cons (.expr (.mt .append (.v 1) (.cons (.tup (.cons (.c (.str [104])) (.cons (.c (.int 3)) .nil))) .nil)))
    .nil) .nil)
    (.cons (.ret (.bi .tuple_ (.cons (.fr (.sorted (.v 1))) .nil)))
    .nil)))))⟩
/-- _law_told(kind, base, first, second, choices): 0=kind 1=base 2=first 3=second 4=choices 5=e -/
def d_law_told : Def := ⟨5, 6, true, (.cons (.try_ (.cons (.ite (.e (.cmp .lt (.v 0) (.c (.int 2)))) (.cons (.ret (.tup (.cons (.c (.str [116, 111, 108, 100])) (.cons (.callv (.ix (.fr (.lst (.cons (.f 7) (.cons (.f 8) .nil)))) (.v 0)) (.cons (.v 1) (.cons (.v 2) (.cons (.v 3) .nil)))) .nil))))
    .nil) .nil)
    (.cons (.ite (.e (.cmp .eq (.v 0) (.c (.int 2)))) (.cons (.ret (.tup (.cons (.c (.str [116, 111, 108, 100])) (.cons (.call 10 (.cons (.v 1) (.cons (.v 2) (.cons (.v 3) (.cons (.v 4) .nil))))) .nil))))
    .nil) .nil)
    (.cons (.ret (.tup (.cons (.c (.str [116, 111, 108, 100])) (.cons (.call 11 (.cons (.v 2) (.cons (.v 3) .nil))) .nil))))
    .nil))) [0, 1, 2, 3, 4, 5] (.err 16))
    .nil)⟩
def s_law_merge_0 : CS := (.ite (.or (.cons (.e (.cmp .eq (.v 1) (.v 2))) (.cons (.e (.cmp .eq (.v 2) (.v 0))) .nil))) (.cons (.ret (.v 1))
    .nil) .nil)
def s_law_merge_1 : CS := (.ite (.e (.cmp .eq (.v 1) (.v 0))) (.cons (.ret (.v 2))
    .nil) .nil)
def s_law_merge_2 : CS := (.ite (.e (.cmp .gt (.bi .lenset (.cons (.fr (.lst (.cons (.bi .len (.cons (.v 0) .nil)) (.cons (.bi .len (.cons (.v 1) .nil)) (.cons (.bi .len (.cons (.v 2) .nil)) .nil))))) .nil)) (.c (.int 1)))) (.cons (.expr (.mt .append (.v 4) (.cons (.v 3) .nil)))
    (.cons (.ret (.ix (.fr (.lst (.cons (.v 1) (.cons (.v 2) .nil)))) (.bi .int_ (.cons (.cmp .eq (.ix (.v 5) (.bin .sub (.bi .len (.cons (.v 4) .nil)) (.c (.int 1)))) (.c (.str [115, 101, 99, 111, 110, 100]))) .nil))))
    .nil)) .nil)
def s_law_merge_3 : CS := (.asg (.nm 6) (.ix (.fr (.lst (.cons (.ix (.v 2) (.c (.int 0))) (.cons (.ix (.v 1) (.c (.int 0))) .nil)))) (.bi .int_ (.cons (.cmp .eq (.ix (.v 2) (.c (.int 0))) (.ix (.v 0) (.c (.int 0)))) .nil))))
def s_law_merge_4 : CS := (.ite (.and (.cons (.e (.cmp .ne (.ix (.v 1) (.c (.int 0))) (.ix (.v 2) (.c (.int 0))))) (.cons (.e (.cmp .notin (.ix (.v 0) (.c (.int 0))) (.fr (.lst (.cons (.ix (.v 1) (.c (.int 0))) (.cons (.ix (.v 2) (.c (.int 0))) .nil)))))) .nil))) (.cons (.expr (.mt .append (.v 4) (.cons (.v 3) .nil)))
    (.cons (.asg (.nm 6) (.ix (.fr (.lst (.cons (.ix (.v 1) (.c (.int 0))) (.cons (.ix (.v 2) (.c (.int 0))) .nil)))) (.bi .int_ (.cons (.cmp .eq (.ix (.v 5) (.bin .sub (.bi .len (.cons (.v 4) .nil)) (.c (.int 1)))) (.c (.str [115, 101, 99, 111, 110, 100]))) .nil))))
    .nil)) .nil)
def s_law_merge_5 : CS := (.asg (.nm 7) (.nw (.lst .nil)))
def b_law_merge_0 : CSs := (.cons (.expr (.mt .append (.v 7) (.cons (.call 23 (.cons (.ix (.v 0) (.v 8)) (.cons (.ix (.v 1) (.v 8)) (.cons (.ix (.v 2) (.v 8)) (.cons (.bin .add (.v 3) (.tup (.cons (.bin .sub (.v 8) (.c (.int 1))) .nil))) (.cons (.v 4) (.cons (.v 5) .nil))))))) .nil)))
    .nil)
def s_law_merge_6 : CS := (.for_ (.nm 8) (.rng (.cons (.c (.int 1)) (.cons (.bi .len (.cons (.v 0) .nil)) .nil))) b_law_merge_0)
def s_law_merge_7 : CS := (.ret (.bin .add (.tup (.cons (.v 6) .nil)) (.bi .tuple_ (.cons (.v 7) .nil))))
/-- _law_merge(base, first, second, path, found, choices): 0=base 1=first 2=second 3=path 4=found 5=choices 6=label 7=inner 8=k -/
def d_law_merge : Def := ⟨6, 9, true, (.cons s_law_merge_0
    (.cons s_law_merge_1
    (.cons s_law_merge_2
    (.cons s_law_merge_3
    (.cons s_law_merge_4
    (.cons s_law_merge_5
    (.cons s_law_merge_6
    (.cons s_law_merge_7
    .nil))))))))⟩
def b_law_apart_0 : CSs := (.cons (.expr (.mt .extend (.v 3) (.cons (.call 24 (.cons (.ix (.v 0) (.v 4)) (.cons (.ix (.v 1) (.v 4)) (.cons (.bin .add (.v 2) (.tup (.cons (.bin .sub (.v 4) (.c (.int 1))) .nil))) .nil)))) .nil)))
    .nil)
/-- _law_apart(first, second, path): 0=first 1=second 2=path 3=found 4=k -/
def d_law_apart : Def := ⟨3, 5, true, (.cons (.ite (.or (.cons (.e (.cmp .ne (.ix (.v 0) (.c (.int 0))) (.ix (.v 1) (.c (.int 0))))) (.cons (.e (.cmp .ne (.bi .len (.cons (.v 0) .nil)) (.bi .len (.cons (.v 1) .nil)))) .nil))) (.cons (.ret (.fr (.lst (.cons (.v 2) .nil))))
    .nil) .nil)
    (.cons (.asg (.nm 3) (.nw (.lst .nil)))
    (.cons (.for_ (.nm 4) (.rng (.cons (.c (.int 1)) (.cons (.bi .len (.cons (.v 0) .nil)) .nil))) b_law_apart_0)
    (.cons (.ret (.frz (.v 3)))
    .nil))))⟩
def b_law_made_0 : CSs := (.cons (.asg (.nm 5) (.call 17 (.cons (.v 1) (.cons (.tup .nil) .nil))))
    (.cons (.asg (.tp (.cons (.nm 6) (.cons (.nm 7) .nil))) (.ix (.v 5) (.call 15 (.cons (.v 0) (.cons (.bi .len (.cons (.v 5) .nil)) .nil)))))
    (.cons (.asg (.nm 1) (.call 18 (.cons (.v 1) (.cons (.v 6) (.cons (.ix (.fr (.lst (.cons (.bin .add (.tup (.cons (.ix (.fr (.lst (.cons (.c (.str [107])) (.cons (.c (.str [109])) .nil)))) (.call 15 (.cons (.v 0) (.cons (.c (.int 2)) .nil)))) .nil)) (.sl (.v 7) (.so (.c (.int 1))) .no)) (.cons (.call 19 (.cons (.v 0) (.cons (.v 2) (.cons (.bin .add (.c (.int 1)) (.call 15 (.cons (.v 0) (.cons (.c (.int 4)) .nil)))) .nil)))) .nil)))) (.call 15 (.cons (.v 0) (.cons (.c (.int 2)) .nil)))) .nil)))))
    .nil)))
/-- _law_made(state, base, signs, most): 0=state 1=base 2=signs 3=most 4=k 5=rows 6=path 7=here -/
def d_law_made : Def := ⟨4, 8, true, (.cons (.for_ (.nm 4) (.rng (.cons (.call 15 (.cons (.v 0) (.cons (.bin .add (.v 3) (.c (.int 1))) .nil))) .nil)) b_law_made_0)
    (.cons (.ret (.v 1))
    .nil))⟩
def s_law_0 : CS := (.asg (.nm 1) (.nw (.lst (.cons (.call 14 (.cons (.v 0) .nil)) (.cons (.c (.int 0)) .nil)))))
def u_law_0 : CS := (.asg (.nm 6) (.call 21 (.cons (.v 1) .nil)))
def u_law_1 : CS := (.asg (.nm 3) (.call 19 (.cons (.v 1) (.cons (.v 6) (.cons (.bin .add (.c (.int 1)) (.call 15 (.cons (.v 1) (.cons (.c (.int 12)) .nil)))) .nil)))))
def u_law_2 : CS := (.asg (.nm 7) (.call 25 (.cons (.v 1) (.cons (.v 3) (.cons (.v 6) (.cons (.c (.int 3)) .nil))))))
def u_law_3 : CS := (.asg (.nm 8) (.call 25 (.cons (.v 1) (.cons (.v 3) (.cons (.v 6) (.cons (.c (.int 3)) .nil))))))
def u_law_4 : CS := (.asg (.nm 9) (.bi .repr (.cons (.tup (.cons (.v 3) (.cons (.v 7) (.cons (.v 8) .nil)))) .nil)))
def u_law_5 : CS := (.asg (.nm 10) (.nw (.lst .nil)))
def u_law_6 : CS := (.expr (.call 23 (.cons (.v 3) (.cons (.v 7) (.cons (.v 8) (.cons (.tup .nil) (.cons (.v 10) (.cons (.fr (.rep (.fr (.lst (.cons (.c (.str [102, 105, 114, 115, 116])) .nil))) (.c (.int 99)))) .nil))))))))
def u_law_7 : CS := (.asg (.nm 11) (.c (.str [109, 105, 115, 115, 105, 110, 103])))
def u_law_8 : CS := (.ite (.e (.cmp .eq (.bi .len (.cons (.v 10) .nil)) (.c (.int 0)))) (.cons (.asg (.nm 11) (.tup (.cons (.c (.str [116, 111, 108, 100])) (.cons (.call 23 (.cons (.v 3) (.cons (.v 7) (.cons (.v 8) (.cons (.tup .nil) (.cons (.nw (.lst .nil)) (.cons (.fr (.rep (.fr (.lst (.cons (.c (.str [102, 105, 114, 115, 116])) .nil))) (.c (.int 99)))) .nil))))))) .nil))))
    .nil) .nil)
def u_law_9 : CS := (.ite (.not (.e (.call 13 (.cons (.fr (.lst (.cons (.call 22 (.cons (.c (.int 0)) (.cons (.v 3) (.cons (.v 7) (.cons (.v 8) (.cons (.tup .nil) .nil)))))) (.cons (.call 22 (.cons (.c (.int 1)) (.cons (.v 3) (.cons (.v 7) (.cons (.v 8) (.cons (.tup .nil) .nil)))))) .nil)))) (.cons (.fr (.lst (.cons (.tup (.cons (.c (.str [116, 111, 108, 100])) (.cons (.v 10) .nil))) (.cons (.v 11) .nil)))) .nil))))) (.cons (.ret (.c (.bl false)))
    .nil) .nil)
def u_law_10 : CS := (.ite (.and (.cons (.e (.cmp .ne (.v 11) (.c (.str [109, 105, 115, 115, 105, 110, 103])))) (.cons (.not (.e (.call 13 (.cons (.call 22 (.cons (.c (.int 1)) (.cons (.v 3) (.cons (.v 8) (.cons (.v 7) (.cons (.tup .nil) .nil)))))) (.cons (.v 11) .nil))))) .nil))) (.cons (.ret (.c (.bl false)))
    .nil) .nil)
def u_law_11 : CS := (.ite (.not (.e (.call 13 (.cons (.fr (.lst (.cons (.call 22 (.cons (.c (.int 1)) (.cons (.v 3) (.cons (.v 3) (.cons (.v 8) (.cons (.tup .nil) .nil)))))) (.cons (.call 22 (.cons (.c (.int 1)) (.cons (.v 3) (.cons (.v 7) (.cons (.v 3) (.cons (.tup .nil) .nil)))))) .nil)))) (.cons (.fr (.lst (.cons (.tup (.cons (.c (.str [116, 111, 108, 100])) (.cons (.v 8) .nil))) (.cons (.tup (.cons (.c (.str [116, 111, 108, 100])) (.cons (.v 7) .nil))) .nil)))) .nil))))) (.cons (.ret (.c (.bl false)))
    .nil) .nil)
def e_law_0 : CE := (.ix (.fr (.lst (.cons (.c (.str [102, 105, 114, 115, 116])) (.cons (.c (.str [115, 101, 99, 111, 110, 100])) .nil)))) (.call 15 (.cons (.v 1) (.cons (.c (.int 2)) .nil))))
def u_law_12 : CS := (.asg (.nm 12) (.bi .tuple_ (.cons (.fr (.lc e_law_0 (.nm 18) (.it (.v 10)) .yes)) .nil)))
def u_law_13 : CS := (.asg (.nm 13) (.call 23 (.cons (.v 3) (.cons (.v 7) (.cons (.v 8) (.cons (.tup .nil) (.cons (.nw (.lst .nil)) (.cons (.bin .add (.fr (.list_ (.v 12))) (.fr (.lst (.cons (.c (.str [102, 105, 114, 115, 116])) .nil)))) .nil))))))))
def u_law_14 : CS := (.ite (.not (.e (.call 13 (.cons (.fr (.lst (.cons (.call 22 (.cons (.c (.int 2)) (.cons (.v 3) (.cons (.v 7) (.cons (.v 8) (.cons (.v 12) .nil)))))) (.cons (.call 22 (.cons (.c (.int 3)) (.cons (.v 3) (.cons (.v 7) (.cons (.v 8) (.cons (.tup .nil) .nil)))))) .nil)))) (.cons (.fr (.lst (.cons (.tup (.cons (.c (.str [116, 111, 108, 100])) (.cons (.v 13) .nil))) (.cons (.tup (.cons (.c (.str [116, 111, 108, 100])) (.cons (.call 24 (.cons (.v 7) (.cons (.v 8) (.cons (.tup .nil) .nil)))) .nil))) .nil)))) .nil))))) (.cons (.ret (.c (.bl false)))
    .nil) .nil)
def u_law_15 : CS := (.ite (.or (.cons (.e (.cmp .ne (.bi .len (.cons (.call 24 (.cons (.v 7) (.cons (.v 7) (.cons (.tup .nil) .nil)))) .nil)) (.c (.int 0)))) (.cons (.e (.cmp .ne (.call 22 (.cons (.c (.int 3)) (.cons (.tup .nil) (.cons (.v 3) (.cons (.v 3) (.cons (.tup .nil) .nil)))))) (.tup (.cons (.c (.str [116, 111, 108, 100])) (.cons (.fr (.lst .nil)) .nil))))) .nil))) (.cons (.ret (.c (.bl false)))
    .nil) .nil)
def c_law_0 : CT := (.e (.cmp .eq (.bi .len (.cons (.v 19) .nil)) (.c (.int 1))))
def e_law_1 : CE := (.v 18)
def u_law_16 : CS := (.asg (.nm 14) (.fr (.lc e_law_1 (.tp (.cons (.nm 18) (.cons (.nm 19) .nil))) (.it (.call 17 (.cons (.v 3) (.cons (.tup .nil) .nil)))) c_law_0)))
def u_law_17 : CS := (.ite (.e (.cmp .gt (.bi .len (.cons (.v 14) .nil)) (.c (.int 1)))) (.cons (.asg (.nm 16) (.call 18 (.cons (.v 3) (.cons (.ix (.v 14) (.c (.int 0))) (.cons (.tup (.cons (.c (.str [110, 101, 119])) .nil)) .nil)))))
    (.cons (.asg (.nm 17) (.call 18 (.cons (.v 3) (.cons (.ix (.v 14) (.neg (.c (.int 1)))) (.cons (.tup (.cons (.c (.str [103])) (.cons (.tup (.cons (.c (.str [110, 101, 119])) .nil)) .nil))) .nil)))))
    (.cons (.ite (.not (.e (.call 13 (.cons (.call 22 (.cons (.c (.int 1)) (.cons (.v 3) (.cons (.v 16) (.cons (.v 17) (.cons (.tup .nil) .nil)))))) (.cons (.tup (.cons (.c (.str [116, 111, 108, 100])) (.cons (.call 18 (.cons (.v 16) (.cons (.ix (.v 14) (.neg (.c (.int 1)))) (.cons (.tup (.cons (.c (.str [103])) (.cons (.tup (.cons (.c (.str [110, 101, 119])) .nil)) .nil))) .nil)))) .nil))) .nil))))) (.cons (.ret (.c (.bl false)))
    .nil) .nil)
    .nil))) .nil)
def u_law_18 : CS := (.asg (.nm 15) (.fr (.lst (.cons (.call 22 (.cons (.c (.int 2)) (.cons (.v 3) (.cons (.v 7) (.cons (.v 8) (.cons (.bin .add (.v 12) (.tup (.cons (.c (.str [102, 105, 114, 115, 116])) .nil))) .nil)))))) (.cons (.call 22 (.cons (.c (.int 2)) (.cons (.v 3) (.cons (.v 7) (.cons (.v 7) (.cons (.tup (.cons (.c (.str [116, 104, 105, 114, 100])) .nil)) .nil)))))) (.cons (.call 22 (.cons (.c (.int 0)) (.cons (.tup (.cons (.c (.str [65])) .nil)) (.cons (.v 7) (.cons (.v 8) (.cons (.tup .nil) .nil)))))) (.cons (.call 22 (.cons (.c (.int 1)) (.cons (.v 3) (.cons (.tup (.cons (.c (.str [65])) .nil)) (.cons (.v 8) (.cons (.tup .nil) .nil)))))) .nil)))))))
def u_law_19 : CS := (.asg (.nm 15) (.bin .add (.v 15) (.fr (.lst (.cons (.call 22 (.cons (.c (.int 2)) (.cons (.v 3) (.cons (.v 7) (.cons (.tup (.cons (.c (.str [65])) .nil)) (.cons (.tup .nil) .nil)))))) (.cons (.call 22 (.cons (.c (.int 3)) (.cons (.tup .nil) (.cons (.tup (.cons (.c (.str [65])) .nil)) (.cons (.v 3) (.cons (.tup .nil) .nil)))))) .nil))))))
def u_law_20 : CS := (.ite (.or (.cons (.e (.cmp .ne (.v 15) (.fr (.rep (.fr (.lst (.cons (.c (.str [114, 101, 102, 117, 115, 101, 100])) .nil))) (.c (.int 6)))))) (.cons (.e (.cmp .ne (.bi .repr (.cons (.tup (.cons (.v 3) (.cons (.v 7) (.cons (.v 8) .nil)))) .nil)) (.v 9))) .nil))) (.cons (.ret (.c (.bl false)))
    .nil) .nil)
def b_law_0 : CSs := (.cons u_law_0
    (.cons u_law_1
    (.cons u_law_2
    (.cons u_law_3
    (.cons u_law_4
    (.cons u_law_5
    (.cons u_law_6
    (.cons u_law_7
    (.cons u_law_8
    (.cons u_law_9
    (.cons u_law_10
    (.cons u_law_11
    (.fz 10 (.cons u_law_12
    (.cons u_law_13
    (.cons u_law_14
    (.cons u_law_15
    (.cons u_law_16
    (.cons u_law_17
    (.cons u_law_18
    (.cons u_law_19
    (.cons u_law_20
    .nil))))))))))))))))))))))
def s_law_1 : CS := (.for_ (.nm 2) (.rng (.cons (.c (.int 6)) .nil)) b_law_0)
def s_law_2 : CS := (.asg (.nm 3) (.tup (.cons (.c (.str [102])) (.cons (.tup (.cons (.c (.str [97])) .nil)) (.cons (.tup (.cons (.c (.str [98])) .nil)) .nil)))))
def s_law_3 : CS := (.asg (.nm 4) (.bin .add (.c (.int 150)) (.call 15 (.cons (.v 1) (.cons (.c (.int 2)) .nil)))))
def s_law_4 : CS := (.asg (.nm 5) (.fr (.lst (.cons (.call 22 (.cons (.c (.int 1)) (.cons (.v 3) (.cons (.tup (.cons (.c (.str [102])) (.cons (.call 20 (.cons (.c (.int 149)) .nil)) (.cons (.tup (.cons (.c (.str [98])) .nil)) .nil)))) (.cons (.tup (.cons (.c (.str [102])) (.cons (.tup (.cons (.c (.str [97])) .nil)) (.cons (.call 20 (.cons (.v 4) .nil)) .nil)))) (.cons (.tup .nil) .nil)))))) .nil))))
def s_law_5 : CS := (.ret (.call 13 (.cons (.v 5) (.cons (.fr (.lst (.cons (.ite (.e (.cmp .gt (.v 4) (.c (.int 150)))) (.c (.str [108, 97, 114, 103, 101])) (.tup (.cons (.c (.str [116, 111, 108, 100])) (.cons (.tup (.cons (.c (.str [102])) (.cons (.call 20 (.cons (.c (.int 149)) .nil)) (.cons (.call 20 (.cons (.c (.int 150)) .nil)) .nil)))) .nil)))) .nil))) .nil))))
/-- law(script): 0=script 1=state 2=turn 3=base 4=many 5=wide 6=signs 7=first 8=second 9=kept 10=found 11=due 12=choices 13=own 14=rows 15=odd 16=one 17=other 18=path 19=here -/
def d_law : Def := ⟨1, 20, false, (.cons s_law_0
    (.cons s_law_1
    (.cons s_law_2
    (.cons s_law_3
    (.cons s_law_4
    (.cons s_law_5
    .nil))))))⟩
def defs : List Def := [d_is_label, d_measured, d_nodes, d_check_document, d_merged, d_merged_label, d_check_three, d_clashes, d_merge, d_chosen, d_merge_by, d_apart_paths, d_known_apart, d_law_same, d_law_stream, d_law_next, d_law_error, d_law_nodes, d_law_put, d_law_document, d_law_exact, d_law_small_signs, d_law_told, d_law_merge, d_law_apart, d_law_made, d_law]
def glob : List D := [.int 12, .int 3, .int 300, .int 40, .str [97, 98, 99, 100, 101, 102, 103, 104, 105, 106, 107, 108, 109, 110, 111, 112, 113, 114, 115, 116, 117, 118, 119, 120, 121, 122], .str [97, 98, 99, 100, 101, 102, 103, 104, 105, 106, 107, 108, 109, 110, 111, 112, 113, 114, 115, 116, 117, 118, 119, 120, 121, 122, 48, 49, 50, 51, 52, 53, 54, 55, 56, 57], .tup [.str [102, 105, 114, 115, 116], .str [115, 101, 99, 111, 110, 100]]]
def errT (f c : Nat) : Option D := if f = 16 then (match c with | 0 => some (.str [111, 100, 100]) | 1 => some (.str [114, 101, 102, 117, 115, 101, 100]) | 2 => some (.str [108, 97, 114, 103, 101]) | 3 => some (.str [109, 105, 115, 115, 105, 110, 103]) | 4 => some (.str [112, 97, 112, 101, 114]) | _ => none) else none
def prog : Prog := ⟨defs, glob, errT, 6⟩
abbrev i_is_label : Nat := 0
abbrev i_measured : Nat := 1
abbrev i_nodes : Nat := 2
abbrev i_check_document : Nat := 3
abbrev i_merged : Nat := 4
abbrev i_merged_label : Nat := 5
abbrev i_check_three : Nat := 6
abbrev i_clashes : Nat := 7
abbrev i_merge : Nat := 8
abbrev i_chosen : Nat := 9
abbrev i_merge_by : Nat := 10
abbrev i_apart_paths : Nat := 11
abbrev i_known_apart : Nat := 12
abbrev i_law_same : Nat := 13
abbrev i_law_stream : Nat := 14
abbrev i_law_next : Nat := 15
abbrev i_law_error : Nat := 16
abbrev i_law_nodes : Nat := 17
abbrev i_law_put : Nat := 18
abbrev i_law_document : Nat := 19
abbrev i_law_exact : Nat := 20
abbrev i_law_small_signs : Nat := 21
abbrev i_law_told : Nat := 22
abbrev i_law_merge : Nat := 23
abbrev i_law_apart : Nat := 24
abbrev i_law_made : Nat := 25
abbrev i_law : Nat := 26
abbrev x_FormError : Nat := 0
abbrev x_NotAllowed : Nat := 1
abbrev x_TooLarge : Nat := 2
abbrev x_Missing : Nat := 3
abbrev x_BadPaper : Nat := 4
abbrev x_BadForm : Nat := 5
end K21
end
section
set_option Elab.async false
set_option autoImplicit false
set_option maxRecDepth 100000
set_option maxHeartbeats 0
namespace K21
open PySem PySem.Spec
def top (i : Nat) : Stmt := PySem.Challenge.pw_recastform_k21_whole_merges.main.body.getD i (.Pass ⟨0, 0, 0, 0⟩)
abbrev t_0 : So.DT := ⟨"is_label", ["text", "sign"], ["text"], top 14⟩
abbrev t_1 : So.DT := ⟨"measured", ["document", "inner", "size", "deep", "more", "below"], ["document"], top 15⟩
abbrev t_2 : So.DT := ⟨"nodes", ["document", "found", "waiting", "at", "path", "here"], ["document"], top 16⟩
abbrev t_3 : So.DT := ⟨"check_document", ["document", "size", "deep", "_", "here"], ["document"], top 17⟩
abbrev t_4 : So.DT := ⟨"merged", ["base", "first", "second", "path", "clashes", "label", "inner", "at"], ["base", "first", "second", "path", "clashes"], top 20⟩
abbrev t_5 : So.DT := ⟨"merged_label", ["base", "first", "second"], ["base", "first", "second"], top 21⟩
abbrev t_6 : So.DT := ⟨"check_three", ["base", "first", "second", "document"], ["base", "first", "second"], top 22⟩
abbrev t_7 : So.DT := ⟨"clashes", ["base", "first", "second", "found"], ["base", "first", "second"], top 23⟩
abbrev t_8 : So.DT := ⟨"merge", ["base", "first", "second", "found", "told", "size", "deep"], ["base", "first", "second"], top 24⟩
abbrev t_9 : So.DT := ⟨"chosen", ["base", "first", "second", "choices", "label", "at"], ["base", "first", "second", "choices"], top 25⟩
abbrev t_10 : So.DT := ⟨"merge_by", ["base", "first", "second", "choices", "many", "told", "size", "deep", "choice"], ["base", "first", "second", "choices"], top 26⟩
abbrev t_11 : So.DT := ⟨"apart_paths", ["first", "second"], ["first", "second"], top 27⟩
abbrev t_12 : So.DT := ⟨"known_apart", ["first", "second", "path", "found", "at"], ["first", "second", "path"], top 28⟩
abbrev t_13 : So.DT := ⟨"_law_same", ["told", "due"], ["told", "due"], top 30⟩
abbrev t_14 : So.DT := ⟨"_law_stream", ["script", "numbers", "cell", "rest", "k", "stirred"], ["script"], top 31⟩
abbrev t_15 : So.DT := ⟨"_law_next", ["state", "many", "turn"], ["state", "many"], top 32⟩
abbrev t_16 : So.DT := ⟨"_law_error", ["e", "names", "one"], ["e"], top 33⟩
abbrev t_17 : So.DT := ⟨"_law_nodes", ["document", "path", "found", "k"], ["document", "path"], top 34⟩
abbrev t_18 : So.DT := ⟨"_law_put", ["document", "path", "other", "at"], ["document", "path", "other"], top 35⟩
abbrev t_19 : So.DT := ⟨"_law_document", ["state", "signs", "whole", "ranks", "leaves", "rows", "left", "inner", "k", "label", "rank", "own", "sign"], ["state", "signs", "whole"], top 36⟩
abbrev t_20 : So.DT := ⟨"_law_exact", ["many", "third"], ["many"], top 37⟩
abbrev t_21 : So.DT := ⟨"_law_small_signs", ["state", "found"], ["state"], top 38⟩
abbrev t_22 : So.DT := ⟨"_law_told", ["kind", "base", "first", "second", "choices", "e"], ["kind", "base", "first", "second", "choices"], top 39⟩
abbrev t_23 : So.DT := ⟨"_law_merge", ["base", "first", "second", "path", "found", "choices", "label", "inner", "k"], ["base", "first", "second", "path", "found", "choices"], top 40⟩
abbrev t_24 : So.DT := ⟨"_law_apart", ["first", "second", "path", "found", "k"], ["first", "second", "path"], top 41⟩
abbrev t_25 : So.DT := ⟨"_law_made", ["state", "base", "signs", "most", "k", "rows", "path", "here"], ["state", "base", "signs", "most"], top 42⟩
abbrev t_26 : So.DT := ⟨"law", ["script", "state", "turn", "base", "many", "wide", "signs", "first", "second", "kept", "found", "due", "choices", "own", "rows", "odd", "one", "other", "path", "here"], ["script"], top 43⟩
def dts : List So.DT := [t_0, t_1, t_2, t_3, t_4, t_5, t_6, t_7, t_8, t_9, t_10, t_11, t_12, t_13, t_14, t_15, t_16, t_17, t_18, t_19, t_20, t_21, t_22, t_23, t_24, t_25, t_26]
def txt : So.Txt where
  pg := prog
  gl := ["MAX_LABEL", "MAX_RANK", "MAX_SIZE", "MAX_DEPTH", "FIRST", "LATER", "CHOICES"]
  fs := ["is_label", "measured", "nodes", "check_document", "merged", "merged_label", "check_three", "clashes", "merge", "chosen", "merge_by", "apart_paths", "known_apart", "_law_same", "_law_stream", "_law_next", "_law_error", "_law_nodes", "_law_put", "_law_document", "_law_exact", "_law_small_signs", "_law_told", "_law_merge", "_law_apart", "_law_made", "law"]
  xs := ["FormError", "NotAllowed", "TooLarge", "Missing", "BadPaper", "BadForm"]
  sub := [[0, 1, 2, 3, 4, 5], [1], [2], [3], [4], [5]]
  rz := [0, 1, 2, 3, 4]
theorem bn_0 : So.BindP t_0 := fun _ _ _ _ _ _ us hl => match us, hl with | [_], _ => rfl
theorem bn_1 : So.BindP t_1 := fun _ _ _ _ _ _ us hl => match us, hl with | [_], _ => rfl
theorem bn_2 : So.BindP t_2 := fun _ _ _ _ _ _ us hl => match us, hl with | [_], _ => rfl
theorem bn_3 : So.BindP t_3 := fun _ _ _ _ _ _ us hl => match us, hl with | [_], _ => rfl
theorem bn_4 : So.BindP t_4 := fun _ _ _ _ _ _ us hl => match us, hl with | [_, _, _, _, _], _ => rfl
theorem bn_5 : So.BindP t_5 := fun _ _ _ _ _ _ us hl => match us, hl with | [_, _, _], _ => rfl
theorem bn_6 : So.BindP t_6 := fun _ _ _ _ _ _ us hl => match us, hl with | [_, _, _], _ => rfl
theorem bn_7 : So.BindP t_7 := fun _ _ _ _ _ _ us hl => match us, hl with | [_, _, _], _ => rfl
theorem bn_8 : So.BindP t_8 := fun _ _ _ _ _ _ us hl => match us, hl with | [_, _, _], _ => rfl
theorem bn_9 : So.BindP t_9 := fun _ _ _ _ _ _ us hl => match us, hl with | [_, _, _, _], _ => rfl
theorem bn_10 : So.BindP t_10 := fun _ _ _ _ _ _ us hl => match us, hl with | [_, _, _, _], _ => rfl
theorem bn_11 : So.BindP t_11 := fun _ _ _ _ _ _ us hl => match us, hl with | [_, _], _ => rfl
theorem bn_12 : So.BindP t_12 := fun _ _ _ _ _ _ us hl => match us, hl with | [_, _, _], _ => rfl
theorem bn_13 : So.BindP t_13 := fun _ _ _ _ _ _ us hl => match us, hl with | [_, _], _ => rfl
theorem bn_14 : So.BindP t_14 := fun _ _ _ _ _ _ us hl => match us, hl with | [_], _ => rfl
theorem bn_15 : So.BindP t_15 := fun _ _ _ _ _ _ us hl => match us, hl with | [_, _], _ => rfl
theorem bn_16 : So.BindP t_16 := fun _ _ _ _ _ _ us hl => match us, hl with | [_], _ => rfl
theorem bn_17 : So.BindP t_17 := fun _ _ _ _ _ _ us hl => match us, hl with | [_, _], _ => rfl
theorem bn_18 : So.BindP t_18 := fun _ _ _ _ _ _ us hl => match us, hl with | [_, _, _], _ => rfl
theorem bn_19 : So.BindP t_19 := fun _ _ _ _ _ _ us hl => match us, hl with | [_, _, _], _ => rfl
theorem bn_20 : So.BindP t_20 := fun _ _ _ _ _ _ us hl => match us, hl with | [_], _ => rfl
theorem bn_21 : So.BindP t_21 := fun _ _ _ _ _ _ us hl => match us, hl with | [_], _ => rfl
theorem bn_22 : So.BindP t_22 := fun _ _ _ _ _ _ us hl => match us, hl with | [_, _, _, _, _], _ => rfl
theorem bn_23 : So.BindP t_23 := fun _ _ _ _ _ _ us hl => match us, hl with | [_, _, _, _, _, _], _ => rfl
theorem bn_24 : So.BindP t_24 := fun _ _ _ _ _ _ us hl => match us, hl with | [_, _, _], _ => rfl
theorem bn_25 : So.BindP t_25 := fun _ _ _ _ _ _ us hl => match us, hl with | [_, _, _, _], _ => rfl
theorem bn_26 : So.BindP t_26 := fun _ _ _ _ _ _ us hl => match us, hl with | [_], _ => rfl
theorem bnAll : ∀ d ∈ dts, So.BindP d := by
  intro d hd
  unfold dts at hd
  simp only [List.mem_cons, List.not_mem_nil, or_false] at hd
  rcases hd with rfl | rfl | rfl | rfl | rfl | rfl | rfl | rfl | rfl | rfl | rfl | rfl | rfl | rfl | rfl | rfl | rfl | rfl | rfl | rfl | rfl | rfl | rfl | rfl | rfl | rfl | rfl
  · exact bn_0
  · exact bn_1
  · exact bn_2
  · exact bn_3
  · exact bn_4
  · exact bn_5
  · exact bn_6
  · exact bn_7
  · exact bn_8
  · exact bn_9
  · exact bn_10
  · exact bn_11
  · exact bn_12
  · exact bn_13
  · exact bn_14
  · exact bn_15
  · exact bn_16
  · exact bn_17
  · exact bn_18
  · exact bn_19
  · exact bn_20
  · exact bn_21
  · exact bn_22
  · exact bn_23
  · exact bn_24
  · exact bn_25
  · exact bn_26
abbrev Rw : PySem.W.OpenRow := PySem.W.OpenLaw.row PySem.Challenge.rw_recastform_k21_whole_merges
def errCs : List (Nat × List Bool) := [(0, [false, false, false, false, false]), (1, [true, false, false, false, false]), (2, [false, true, false, false, false]), (3, [false, false, true, false, false]), (4, [false, false, false, true, false])]
theorem errTab : ∀ f c d, txt.pg.errT f c = some d → f = 16 ∧ ∃ bs, (c, bs) ∈ errCs ∧ bs.length = 5 ∧ d = So.errD bs := by
  intro f c d h
  have h : errT f c = some d := h
  unfold errT at h
  split at h
  · rename_i e
    refine ⟨e, ?_⟩
    split at h <;> first | (cases h; exact ⟨_, by simp [errCs]; rfl, rfl, rfl⟩) | cases h
  · cases h
def factsB (K : PySem.W.Frag) : Bool := So.factB txt K && So.errK txt errCs K
abbrev hk : PySem.W.Hook := So.hookX 4 factsB (dts.map So.DT.dd)
abbrev ob (s : PySem.W.SharedT) : He.AlD := So.obX 4 factsB (dts.map So.DT.dd) s
abbrev vw : Program := PySem.W.view Rw.prog [43]
def loose0 : List PySem.Str := ["FormError", "NotAllowed", "TooLarge", "Missing", "BadPaper", "BadForm", "MAX_LABEL", "MAX_RANK", "MAX_SIZE", "MAX_DEPTH", "FIRST", "LATER", "is_label", "measured", "nodes", "check_document", "CHOICES", "merged", "merged_label", "check_three"]
def loose1 : List PySem.Str := ["clashes", "merge", "chosen", "merge_by", "apart_paths", "known_apart", "_law_same", "_law_stream", "_law_next", "_law_error", "_law_nodes", "_law_put", "_law_document", "_law_exact", "_law_small_signs", "_law_told", "_law_merge", "_law_apart", "_law_made"]
def loose : List PySem.Str := loose0 ++ loose1
abbrev lawAt : Nat := 43
abbrev lawF : Nat := 26
theorem run (w : World) : HandSHeadRun.RunEq Rw vw hk ob 8000 loose w := by
  intro os
  kernel_rfl
theorem textOk : So.textB txt = true := by kernel_rfl
theorem namesOk : dts.map So.DT.name = txt.fs := by kernel_rfl
theorem defsOk : So.defsB txt txt.pg.defs dts = true := by kernel_rfl

theorem errSc : So.scB t_16.N t_16.ps (C8.fnScope t_16.st) = true := by kernel_rfl
theorem errSs : So.errS (C8.fnScope t_16.st) = true := by kernel_rfl
theorem errBs : So.errB (C8.fnBody t_16.st) = true := by kernel_rfl

theorem fixOk {P : Program} {w : World} {K : PySem.W.Frag} {mg : Str → Option Value} {base : Heap} (X : K.In base) (G : base.Ns mainGlobals mg) (fb : factsB K = true)
    (FD : ∀ d ∈ dts, ∃ fd, L2.FunD K d.name d.name (C8.fnArgs d.st) (C8.fnBody d.st) (C8.fnScope d.st) [] [] (He.ga K d.name) fd) : So.TFix (txt.tx P w K mg base) := by
  unfold factsB at fb
  obtain ⟨fb, ek⟩ := Bool.and_eq_true_iff.mp fb
  exact So.tfix X G fb textOk namesOk defsOk FD bnAll (So.err_ok (f0 := 16) (d0 := t_16) (cs := errCs) X G fb ek rfl rfl rfl rfl errSc errSs errBs (FD t_16 (by simp [dts])) bn_16 errTab)
theorem ends {k : Nat} (hr : L2.Room k callerA) (main : ∀ ns : List Int, ns.length ≤ 63 → ∃ h1, Ev.callF prog k lawF [.scr (ns.map .int)] [] = .ok (.bl true) h1) : PySem.Challenge.rw_recastform_k21_whole_merges.Holds := by
  w_on; o_law
  refine HandSHeadRun.head_any (r := Rw) (q := vw) (H := hk) (ob := ob) (M := 8000) (loose := loose) (d := HandSHeadRun.topDef Rw.prog lawAt) (kwd := []) (fun s => So.obX_eq s)
    (by kernel_rfl) (fun s => by kernel_rfl) run (by kernel_rfl) (by kernel_rfl) (by kernel_rfl) (by rfl) (by first | assumption | decide +kernel) (by decide +kernel) ⟨rfl, rfl, rfl, rfl, rfl, by decide +kernel⟩ ?hw ?hc
  case hw => w_witness2
  case hc =>
    refine Att.attach_call (n := 63) rfl (by kernel_rfl) fun w s₀ s₁ mg mb fa o pm cd doc a vs ns G Y ho hd hcd hmg hobj hints hlen hg => ?_
    obtain ⟨K, KX, fb, FD⟩ := Y
    have FD' : ∀ d ∈ dts, ∃ fd, L2.FunD K d.name d.name (C8.fnArgs d.st) (C8.fnBody d.st) (C8.fnScope d.st) [] [] (He.ga K d.name) fd := fun d hd => FD d.dd (List.mem_map_of_mem hd)
    refine So.script_run KX G.T.g G.T.b G.T.builtins G.T.nolimit hg hobj hints (Nat.le_trans hlen (by decide)) fun base H X2 G2 e0 sq => ?_
    have F := fixOk (P := (PySem.Challenge.rw_recastform_k21_whole_merges).prog) (w := w) X2 G2 fb FD'
    obtain ⟨h1, ev⟩ := main ns hlen
    have e : fa = (txt.sx K).fa lawF := by
      have e1 : (HandSHeadRun.topDef Rw.prog lawAt).name = ("law" : PySem.Str) := by kernel_rfl
      rw [e1] at hmg
      have e2 := (F.defs lawF "law" rfl).1
      exact Value.ref.inj (Option.some.inj (hmg.symm.trans e2))
    rw [e]
    exact So.law_run (T := txt.tx _ w K mg base) (F.ok k) hr e0 sq h1 ev

end K21
end
section
set_option autoImplicit false
set_option linter.all false
/-! M0: plain lemmas about the evaluator. -/
namespace Ev
mutual
theorem D.beq_refl : ∀ d : D, d.beq d = true
  | .non => rfl
  | .bl b => by simp [D.beq]
  | .int i => by simp [D.beq]
  | .str s => by simp [D.beq]
  | .tup xs => by rw [D.beq]; exact D.beqs_refl xs
  | .lst xs => by rw [D.beq]; exact D.beqs_refl xs
  | .loc n => by simp [D.beq]
  | .fn n => by simp [D.beq]
  | .scr xs => by rw [D.beq]; exact D.beqs_refl xs
  | .rep x => by rw [D.beq]; exact D.beq_refl x
theorem D.beqs_refl : ∀ ds : List D, D.beqs ds ds = true
  | [] => rfl
  | d :: ds => by rw [D.beqs, D.beq_refl d, D.beqs_refl ds]; rfl
end
mutual
theorem D.pure_ok (n : Nat) : ∀ d : D, d.pure = true → d.okB n = true
  | .non, _ => rfl
  | .bl _, _ => rfl
  | .int _, _ => rfl
  | .str _, _ => rfl
  | .tup xs, h => by rw [D.pure] at h; rw [D.okB]; exact D.pures_ok n xs h
  | .lst xs, h => by rw [D.pure] at h; rw [D.okB]; exact D.pures_ok n xs h
  | .loc _, h => by cases h
  | .fn _, h => by cases h
  | .scr _, h => by cases h
  | .rep _, h => by cases h
theorem D.pures_ok (n : Nat) : ∀ ds : List D, D.pures ds = true → D.okBs n ds = true
  | [], _ => rfl
  | d :: ds, h => by
    rw [D.pures, Bool.and_eq_true] at h
    rw [D.okBs, D.pure_ok n d h.1, D.pures_ok n ds h.2]
    rfl
end
theorem Ob.beq_refl (o : Ob) : o.beq o = true := by
  cases o with
  | box d => exact D.beq_refl d
  | gone => rfl
  | ins c fs => simp [Ob.beq, D.beqs_refl]
theorem sameOr_refl (n : Nat) : ∀ h : Mem, sameOr n h h = true
  | [] => rfl
  | o :: h => by rw [sameOr, Ob.beq_refl o, sameOr_refl n h]; rfl
theorem sameOr_set (n : Nat) (o : Ob) (ho : o.okB n = true) : ∀ (h : Mem) (i : Nat), sameOr n h (h.set i o) = true
  | [], _ => rfl
  | a :: h, 0 => by rw [List.set_cons_zero, sameOr, ho, sameOr_refl n h]; simp
  | a :: h, i + 1 => by rw [List.set_cons_succ, sameOr, Ob.beq_refl a, sameOr_set n o ho h i]; rfl
/-- what a call leaves: the same heap, new objects behind it -/
theorem fin_app {gc : Bool} {h t : Mem} {d : D} (hd : d.okB h.length = true) (hg : gc = true) : fin gc h (h ++ t) d = .ok d h := by
  subst hg
  unfold fin gcOk
  rw [List.take_left, hd, sameOr_refl]
  rfl
theorem fin_same {gc : Bool} {h : Mem} {d : D} (hd : d.okB h.length = true) : fin gc h h d = .ok d h := by
  unfold fin gcOk
  rw [List.take_length, hd, sameOr_refl]
  cases gc <;> rfl
theorem fin_set {h t : Mem} {d : D} {n : Nat} {o : Ob} (hd : d.okB h.length = true) (ho : o.okB h.length = true) : fin true h (h.set n o ++ t) d = .ok d (h.set n o) := by
  unfold fin gcOk
  have : (h.set n o ++ t).take h.length = h.set n o := by
    rw [List.take_append_of_le_length (by simp), List.take_of_length_le (by simp)]
  rw [this, hd, sameOr_set _ _ ho]
  rfl
theorem finX_app {gc : Bool} {h t : Mem} {c : Nat} (hg : gc = true) : finX gc h (h ++ t) c .non = .exc c .non h := by
  subst hg
  unfold finX gcOk
  rw [List.take_left, sameOr_refl]
  rfl
theorem finX_same {gc : Bool} {h : Mem} {c : Nat} : finX gc h h c .non = .exc c .non h := by
  unfold finX gcOk
  rw [List.take_length, sameOr_refl]
  cases gc <;> rfl
theorem fin_pure {gc : Bool} {h : Mem} {d : D} (hd : d.pure = true) : fin gc h h d = .ok d h := fin_same (D.pure_ok _ d hd)

mutual
theorem D.fullW_pure (g : Nat → Option D) : ∀ d : D, d.pure = true → d.fullW g = some d
  | .non, _ => rfl
  | .bl _, _ => rfl
  | .int _, _ => rfl
  | .str _, _ => rfl
  | .tup xs, h => by rw [D.pure] at h; rw [D.fullW, D.fullWs_pure g xs h]; rfl
  | .lst xs, h => by rw [D.pure] at h; rw [D.fullW, D.fullWs_pure g xs h]; rfl
  | .loc _, h => by cases h
  | .fn _, h => by cases h
  | .scr _, h => by cases h
  | .rep _, h => by cases h
theorem D.fullWs_pure (g : Nat → Option D) : ∀ ds : List D, D.pures ds = true → D.fullWs g ds = some ds
  | [], _ => rfl
  | d :: ds, h => by
    rw [D.pures, Bool.and_eq_true] at h
    rw [D.fullWs, D.fullW_pure g d h.1, D.fullWs_pure g ds h.2]
end
theorem full_pure {h : Mem} {d : D} (n : Nat) (hd : d.pure = true) : full h n d = some d := by
  cases n <;> (unfold full; exact D.fullW_pure _ d hd)
theorem shal_pure {h : Mem} {d : D} (hd : d.pure = true) : shal h d = d := by
  cases d <;> first | rfl | cases hd
theorem cmp_eq {h : Mem} {a b : D} (ha : a.pure = true) (hb : b.pure = true) (da : a.dep ≤ 64) (db : b.dep ≤ 64) : cmpop h .eq a b = some (a.eqv b) := by
  have e : cmpop h .eq a b = (match full h 3 a, full h 3 b with
    | some x, some y => if x.dep ≤ 64 ∧ y.dep ≤ 64 then some (x.eqv y) else none
    | _, _ => none) := by
    cases a <;> cases b <;> first | rfl | cases ha | cases hb
  rw [e, full_pure 3 ha, full_pure 3 hb]
  dsimp only
  rw [if_pos ⟨da, db⟩]
theorem cmp_ne {h : Mem} {a b : D} (ha : a.pure = true) (hb : b.pure = true) (da : a.dep ≤ 64) (db : b.dep ≤ 64) : cmpop h .ne a b = some (!a.eqv b) := by
  have e : cmpop h .ne a b = (match full h 3 a, full h 3 b with
    | some x, some y => if x.dep ≤ 64 ∧ y.dep ≤ 64 then some (!x.eqv y) else none
    | _, _ => none) := by
    cases a <;> cases b <;> first | rfl | cases ha | cases hb
  rw [e, full_pure 3 ha, full_pure 3 hb]
  dsimp only
  rw [if_pos ⟨da, db⟩]

/-! ### comprehensions, loops -/
theorem lcL_nm {elt : Fr → Mem → R} {test : Fr → Mem → RB} {i : Nat} {σ : Fr} {h : Mem} {F : D → D} {p : D → Bool} (hi : i < σ.length) : ∀ (xs acc : List D),
    (∀ x ∈ xs, test (σ.set i (some x)) h = .ok (p x) h ∧ (p x = true → elt (σ.set i (some x)) h = .ok (F x) h)) → acc.length + xs.length ≤ LIM →
    lcL elt test (.nm i) σ xs acc h = .ok (acc ++ (xs.filter p).map F) h
  | [], acc, _, _ => by simp [lcL]
  | x :: xs, acc, hx, hl => by
    obtain ⟨h1, h2⟩ := hx x List.mem_cons_self
    rw [List.length_cons] at hl
    rw [lcL, asgT, if_pos hi]
    dsimp only
    rw [h1]
    cases hp : p x with
    | true =>
      dsimp only
      rw [h2 hp]
      dsimp only
      rw [if_pos (by omega), lcL_nm hi xs (acc ++ [F x]) (fun y hy => hx y (List.mem_cons_of_mem _ hy)) (by rw [List.length_append]; simp; omega), List.filter_cons, if_pos hp]
      simp
    | false =>
      dsimp only
      rw [lcL_nm hi xs acc (fun y hy => hx y (List.mem_cons_of_mem _ hy)) (by omega), List.filter_cons, if_neg (by rw [hp]; decide)]
/-- a comprehension with any target; the frames by x -/
theorem lcL_tg {elt : Fr → Mem → R} {test : Fr → Mem → RB} {t : Tg} {σ : Fr} {h : Mem} {F : D → D} {p : D → Bool} {fr : D → Fr} : ∀ (xs acc : List D),
    (∀ x ∈ xs, asgT t x σ = some (fr x) ∧ test (fr x) h = .ok (p x) h ∧ (p x = true → elt (fr x) h = .ok (F x) h)) → acc.length + xs.length ≤ LIM →
    lcL elt test t σ xs acc h = .ok (acc ++ (xs.filter p).map F) h
  | [], acc, _, _ => by simp [lcL]
  | x :: xs, acc, hx, hl => by
    obtain ⟨h0, h1, h2⟩ := hx x List.mem_cons_self
    rw [List.length_cons] at hl
    rw [lcL, h0]
    dsimp only
    rw [h1]
    cases hp : p x with
    | true =>
      dsimp only
      rw [h2 hp]
      dsimp only
      rw [if_pos (by omega), lcL_tg xs (acc ++ [F x]) (fun y hy => hx y (List.mem_cons_of_mem _ hy)) (by rw [List.length_append]; simp; omega), List.filter_cons, if_pos hp]
      simp
    | false =>
      dsimp only
      rw [lcL_tg xs acc (fun y hy => hx y (List.mem_cons_of_mem _ hy)) (by omega), List.filter_cons, if_neg (by rw [hp]; decide)]
/-- an invariant of a for: by what is left -/
theorem forL_inv {body : Fr → Mem → RS} {t : Tg} {Q : RS → Prop} (I : List D → Fr → Mem → Prop) (done : ∀ σ h, I [] σ h → Q (.nx σ h))
    (turn : ∀ x xs σ h, I (x :: xs) σ h → ∃ σ1, asgT t x σ = some σ1 ∧ match body σ1 h with
      | .nx σ2 h2 => I xs σ2 h2
      | .ct σ2 h2 => I xs σ2 h2
      | .bk σ2 h2 => Q (.nx σ2 h2)
      | r => Q r) : ∀ (xs : List D) (σ : Fr) (h : Mem), I xs σ h → Q (forL body t xs σ h)
  | [], σ, h, i => by rw [forL]; exact done σ h i
  | x :: xs, σ, h, i => by
    obtain ⟨σ1, e, k⟩ := turn x xs σ h i
    rw [forL, e]
    dsimp only
    cases q : body σ1 h with
    | nx σ2 h2 => rw [q] at k; exact forL_inv I done turn xs σ2 h2 k
    | ct σ2 h2 => rw [q] at k; exact forL_inv I done turn xs σ2 h2 k
    | bk σ2 h2 => rw [q] at k; exact k
    | rt d h2 => rw [q] at k; exact k
    | exc c y σ2 h2 => rw [q] at k; exact k
    | stuck => rw [q] at k; exact k
/-- a while, by a measure below the fuel -/
theorem whileL_inv {test : Fr → Mem → RB} {body : Fr → Mem → RS} {Q : RS → Prop} (I : Nat → Fr → Mem → Prop)
    (turn : ∀ m σ h, I m σ h → match test σ h with
      | .ok true h1 => 0 < m ∧ (match body σ h1 with
        | .nx σ2 h2 => ∃ m', m' < m ∧ I m' σ2 h2
        | .ct σ2 h2 => ∃ m', m' < m ∧ I m' σ2 h2
        | .bk σ2 h2 => Q (.nx σ2 h2)
        | r => Q r)
      | .ok false h1 => Q (.nx σ h1)
      | .exc c x h1 => Q (.exc c x σ h1)
      | .stuck => False) : ∀ (n m : Nat) (σ : Fr) (h : Mem), m < n → I m σ h → Q (whileL test body n σ h)
  | 0, m, σ, h, l, i => by omega
  | n + 1, m, σ, h, l, i => by
    have k := turn m σ h i
    rw [whileL]
    cases q : test σ h with
    | ok b h1 =>
      rw [q] at k
      cases b with
      | false => exact k
      | true =>
        dsimp only at k ⊢
        obtain ⟨k0, k⟩ := k
        cases qb : body σ h1 with
        | nx σ2 h2 =>
          rw [qb] at k
          obtain ⟨m', l', i'⟩ := k
          exact whileL_inv I turn n m' σ2 h2 (by omega) i'
        | ct σ2 h2 =>
          rw [qb] at k
          obtain ⟨m', l', i'⟩ := k
          exact whileL_inv I turn n m' σ2 h2 (by omega) i'
        | bk σ2 h2 => rw [qb] at k; exact k
        | rt d h2 => rw [qb] at k; exact k
        | exc c y σ2 h2 => rw [qb] at k; exact k
        | stuck => rw [qb] at k; exact k
    | exc c x h1 => rw [q] at k; exact k
    | stuck => rw [q] at k; exact k.elim
end Ev
namespace Ev
theorem callF_succ {P : Prog} {k f : Nat} {args : List D} {h : Mem} {fd : Def} (hd : P.defs[f]? = some fd) (ha : args.length = fd.np ∧ fd.np ≤ fd.ns) : callF P (k + 1) f args h =
    match evSs (P.cx k (callF P k)) fd.body (startF fd.ns args) h with
    | .nx _ h1 => fin fd.gc h h1 .non
    | .rt d h1 => fin fd.gc h h1 d
    | .exc c x _ h1 => finX fd.gc h h1 c x
    | _ => .stuck := by
  rw [callF, hd]
  dsimp only
  rw [if_pos ha] <;> rfl
end Ev
namespace Ev
theorem forL_nx {body : Fr → Mem → RS} {t : Tg} {x : D} {xs : List D} {σ σ1 σ2 : Fr} {h h2 : Mem} (e : asgT t x σ = some σ1) (b : body σ1 h = .nx σ2 h2) : forL body t (x :: xs) σ h = forL body t xs σ2 h2 := by
  rw [forL, e]
  dsimp only
  rw [b]
end Ev
namespace Ev
theorem forL_app {body : Fr → Mem → RS} {t : Tg} {ys : List D} : ∀ {xs : List D} {σ σ1 : Fr} {h h1 : Mem}, forL body t xs σ h = .nx σ1 h1 → (∀ (x : D) (σ : Fr) (h : Mem) σ2 h2, body σ h ≠ .bk σ2 h2) → forL body t (xs ++ ys) σ h = forL body t ys σ1 h1
  | [], σ, σ1, h, h1, e, _ => by
    rw [forL] at e
    cases e
    rfl
  | x :: xs, σ, σ1, h, h1, e, nb => by
    rw [forL] at e
    rw [List.cons_append, forL]
    cases q : asgT t x σ with
    | none => rw [q] at e; cases e
    | some σ' =>
      rw [q] at e
      dsimp only at e ⊢
      cases qb : body σ' h with
      | nx σ2 h2 => rw [qb] at e; exact forL_app e nb
      | ct σ2 h2 => rw [qb] at e; exact forL_app e nb
      | bk σ2 h2 => exact absurd qb (nb x σ' h σ2 h2)
      | rt d h2 => rw [qb] at e; cases e
      | exc c y σ2 h2 => rw [qb] at e; cases e
      | stuck => rw [qb] at e; cases e
end Ev
namespace Ev
theorem fin_set0 {h : Mem} {d : D} {n : Nat} {o : Ob} (hd : d.okB h.length = true) (ho : o.okB h.length = true) : fin true h (h.set n o) d = .ok d (h.set n o) := by
  have := fin_set (t := []) (n := n) hd ho
  rw [List.append_nil] at this
  exact this
theorem okB_box {n : Nat} {ys : List D} (h : D.pures ys = true) : (Ob.box (.lst ys)).okB n = true := D.pures_ok n ys h
end Ev
namespace Ev
theorem seq_nx {C : Cx} {s : CS} {ss : CSs} {σ σ1 : Fr} {h h1 : Mem} (e : evS C s σ h = .nx σ1 h1) : evSs C (.cons s ss) σ h = evSs C ss σ1 h1 := by rw [evSs, e]
theorem seq_rt {C : Cx} {s : CS} {ss : CSs} {σ : Fr} {h h1 : Mem} {d : D} (e : evS C s σ h = .rt d h1) : evSs C (.cons s ss) σ h = .rt d h1 := by rw [evSs, e]
theorem seq_exc {C : Cx} {s : CS} {ss : CSs} {σ σ1 : Fr} {h h1 : Mem} {c : Nat} {d : D} (e : evS C s σ h = .exc c d σ1 h1) : evSs C (.cons s ss) σ h = .exc c d σ1 h1 := by rw [evSs, e]
end Ev
namespace Ev
/-! range: by these two, never by unfolding rngD at data (the kernel would count to 2^62) -/
theorem evS_for {C : Cx} {t : Tg} {s : Src} {b : CSs} {σ : Fr} {h h1 : Mem} {ds : List D} (e : evSrc C s σ h = .ok ds h1) : evS C (.for_ t s b) σ h = forL (evSs C b) t ds σ h1 := by rw [evS, e]
theorem evSrc_rng {C : Cx} {es : CEs} {σ : Fr} {h h1 : Mem} {ds xs : List D} (ha : evL C es σ h = .ok ds h1) (hr : rngD ds = some xs) : evSrc C (.rng es) σ h = .ok xs h1 := by
  rw [evSrc, ha]
  simp only [hr]
end Ev
namespace Ev
theorem ev_lc {C : Cx} {e : CE} {t : Tg} {s : Src} {c : CT} {σ : Fr} {h h1 h2 : Mem} {ds rs : List D} (hs : evSrc C s σ h = .ok ds h1) (hl : lcL (evE C e) (evT C c) t σ ds [] h1 = .ok rs h2) : evE C (.fr (.lc e t s c)) σ h = .ok (.lst rs) h2 := by
  rw [evE, evF, hs]
  dsimp only
  rw [hl]
end Ev
namespace Ev
theorem ev_cons {C : Cx} {e : CE} {es : CEs} {σ : Fr} {h h1 h2 : Mem} {d : D} {ds : List D} (he : evE C e σ h = .ok d h1) (hs : evL C es σ h1 = .ok ds h2) : evL C (.cons e es) σ h = .ok (d :: ds) h2 := by
  rw [evL, he]
  dsimp only
  rw [hs]
theorem ev_star {C : Cx} {e : CE} {es : CEs} {σ : Fr} {h h1 h2 : Mem} {d : D} {xs ds : List D} (he : evE C e σ h = .ok d h1) (hq : seqD (shal h1 d) = some xs) (hs : evL C es σ h1 = .ok ds h2) : evL C (.star e es) σ h = .ok (xs ++ ds) h2 := by
  rw [evL, he]
  dsimp only
  rw [hq]
  dsimp only
  rw [hs]
theorem ev_nil {C : Cx} {σ : Fr} {h : Mem} : evL C .nil σ h = .ok [] h := by rw [evL]
theorem ev_tup {C : Cx} {es : CEs} {σ : Fr} {h h1 : Mem} {ds : List D} (hs : evL C es σ h = .ok ds h1) (hl : ds.length ≤ LIM) : evE C (.tup es) σ h = .ok (.tup ds) h1 := by
  rw [evE, hs]
  dsimp only
  rw [if_pos hl]
theorem ev_ret {C : Cx} {e : CE} {σ : Fr} {h h1 : Mem} {d : D} (he : evE C e σ h = .ok d h1) : evS C (.ret e) σ h = .rt d h1 := by rw [evS, he]
end Ev
namespace Ev
theorem ev_cmp {C : Cx} {o : Cop} {a b : CE} {σ : Fr} {h h1 h2 : Mem} {x y : D} {z : Bool} (ha : evE C a σ h = .ok x h1) (hb : evE C b σ h1 = .ok y h2) (hc : cmpop h2 o x y = some z) : evE C (.cmp o a b) σ h = .ok (.bl z) h2 := by
  rw [evE, ha]
  dsimp only
  rw [hb]
  dsimp only
  rw [hc]
end Ev
namespace Ev
theorem ev_bin {C : Cx} {o : Bop} {a b : CE} {σ : Fr} {h h1 h2 : Mem} {x y z : D} (ha : evE C a σ h = .ok x h1) (hb : evE C b σ h1 = .ok y h2) (hc : binop o (shal h2 x) (shal h2 y) = some z) : evE C (.bin o a b) σ h = .ok z h2 := by
  rw [evE, ha]
  dsimp only
  rw [hb]
  dsimp only
  rw [hc]
theorem ev_ix {C : Cx} {a b : CE} {σ : Fr} {h h1 h2 : Mem} {x y z : D} (ha : evE C a σ h = .ok x h1) (hb : evE C b σ h1 = .ok y h2) (hc : item (shal h2 x) y = some z) : evE C (.ix a b) σ h = .ok z h2 := by
  rw [evE, ha]
  dsimp only
  rw [hb]
  dsimp only
  rw [hc]
theorem ev_bi {C : Cx} {m : Bi} {es : CEs} {σ : Fr} {h h1 : Mem} {ds : List D} {z : D} (ha : evL C es σ h = .ok ds h1) (hc : biF m ds h1 = some z) : evE C (.bi m es) σ h = .ok z h1 := by
  rw [evE, ha]
  dsimp only
  rw [hc]
theorem ev_c {C : Cx} {d : D} {σ : Fr} {h : Mem} (hp : d.pure = true) : evE C (.c d) σ h = .ok d h := by rw [evE, if_pos hp]
end Ev
end
section
set_option autoImplicit false
set_option linter.all false
/-! M1: operations on data that is known; documents. -/
namespace Ev
section
variable {h : Mem} {a b : Int} {s t : List Nat} {xs ys : List D} {d : D}
@[simp] theorem shal_int : shal h (.int a) = .int a := rfl
@[simp] theorem shal_str : shal h (.str s) = .str s := rfl
@[simp] theorem shal_tup : shal h (.tup xs) = .tup xs := rfl
@[simp] theorem shal_lst : shal h (.lst xs) = .lst xs := rfl
@[simp] theorem shal_non : shal h .non = .non := rfl
@[simp] theorem shal_bl {x : Bool} : shal h (.bl x) = .bl x := rfl
theorem shal_box {n : Nat} (e : h[n]? = some (.box d)) : shal h (.loc n) = d := by
  show (match h[n]? with | some (.box c) => c | _ => D.loc n) = d
  rw [e]
@[simp] theorem bin_addi : binop .add (.int a) (.int b) = some (.int (a + b)) := rfl
@[simp] theorem bin_subi : binop .sub (.int a) (.int b) = some (.int (a - b)) := rfl
@[simp] theorem bin_addt : binop .add (.tup xs) (.tup ys) = if xs.length + ys.length ≤ LIM then some (.tup (xs ++ ys)) else none := rfl
@[simp] theorem bin_addl : binop .add (.lst xs) (.lst ys) = if xs.length + ys.length ≤ LIM then some (.lst (xs ++ ys)) else none := rfl
@[simp] theorem bin_adds : binop .add (.str s) (.str t) = if s.length + t.length ≤ LIM then some (.str (s ++ t)) else none := rfl
@[simp] theorem bin_mod : binop .mod (.int a) (.int b) = if 0 < b then some (.int (a % b)) else none := rfl
@[simp] theorem bin_div : binop .fdiv (.int a) (.int b) = if 0 < b ∧ b < 1073741824 then some (.int (a / b)) else none := rfl
@[simp] theorem bin_mul : binop .mul (.int a) (.int b) = if (-(2 ^ 64) < a ∧ a < 2 ^ 64) ∨ (-(2 ^ 64) < b ∧ b < 2 ^ 64) then some (.int (a * b)) else none := rfl
@[simp] theorem cmp_lt : cmpop h .lt (.int a) (.int b) = some (decide (a < b)) := rfl
@[simp] theorem cmp_le : cmpop h .le (.int a) (.int b) = some (decide (a ≤ b)) := rfl
@[simp] theorem cmp_gt : cmpop h .gt (.int a) (.int b) = some (decide (b < a)) := rfl
@[simp] theorem cmp_ge : cmpop h .ge (.int a) (.int b) = some (decide (b ≤ a)) := rfl
@[simp] theorem cmp_eqi : cmpop h .eq (.int a) (.int b) = some (decide (a = b)) := by
  rw [cmp_eq rfl rfl (by simp [D.dep]) (by simp [D.dep])]
  rfl
@[simp] theorem cmp_nei : cmpop h .ne (.int a) (.int b) = some (!decide (a = b)) := by
  rw [cmp_ne rfl rfl (by simp [D.dep]) (by simp [D.dep])]
  rfl
@[simp] theorem cmp_eqs : cmpop h .eq (.str s) (.str t) = some (decide (s = t)) := by
  rw [cmp_eq rfl rfl (by simp [D.dep]) (by simp [D.dep])]
  rfl
@[simp] theorem cmp_nes : cmpop h .ne (.str s) (.str t) = some (!decide (s = t)) := by
  rw [cmp_ne rfl rfl (by simp [D.dep]) (by simp [D.dep])]
  rfl
@[simp] theorem cmp_ins {c : Nat} : cmpop h .in_ (.str [c]) (.str t) = some (decide (c ∈ t)) := rfl
@[simp] theorem cmp_nins {c : Nat} : cmpop h .notin (.str [c]) (.str t) = some (!decide (c ∈ t)) := rfl
@[simp] theorem cmp_isn : cmpop h .is_ .non .non = some true := rfl
@[simp] theorem cmp_isns : cmpop h .is_ (.str s) .non = some false := rfl
@[simp] theorem item_tup {i : Int} : item (.tup xs) (.int i) = atI xs i := rfl
@[simp] theorem item_lst {i : Int} : item (.lst xs) (.int i) = atI xs i := rfl
@[simp] theorem bi_lens : biF .len [.str s] h = if s.length ≤ LIM then some (.int s.length) else none := rfl
@[simp] theorem bi_lent : biF .len [.tup xs] h = some (.int xs.length) := rfl
@[simp] theorem bi_lenl : biF .len [.lst xs] h = some (.int xs.length) := rfl
theorem bi_lenb {n : Nat} (e : h[n]? = some (.box (.lst xs))) : biF .len [.loc n] h = some (.int xs.length) := by
  simp only [biF, shal_box e]
@[simp] theorem bi_int : biF .int_ [.int a] h = some (.int a) := rfl
@[simp] theorem bi_intb {x : Bool} : biF .int_ [.bl x] h = some (.int (if x = true then 1 else 0)) := rfl
@[simp] theorem bi_abs : biF .abs [.int a] h = some (.int (if a < 0 then -a else a)) := rfl
@[simp] theorem bi_max2 : biF .max2 [.int a, .int b] h = some (.int (if b > a then b else a)) := rfl
@[simp] theorem bi_tuplel : biF .tuple_ [.lst xs] h = some (.tup xs) := rfl
@[simp] theorem bi_tuplet : biF .tuple_ [.tup xs] h = some (.tup xs) := rfl
theorem bi_tupleb {n : Nat} (e : h[n]? = some (.box (.lst xs))) : biF .tuple_ [.loc n] h = some (.tup xs) := by
  simp only [biF, shal_box e]
theorem bools_map {α : Type} (F : α → Bool) : ∀ l : List α, bools (l.map fun x => D.bl (F x)) = some (l.map F)
  | [] => rfl
  | x :: l => by rw [List.map_cons, bools, bools_map F l]; rfl
theorem ints_map {α : Type} (F : α → Int) : ∀ l : List α, intsD (l.map fun x => D.int (F x)) = some (l.map F)
  | [] => rfl
  | x :: l => by rw [List.map_cons, intsD, ints_map F l]; rfl
@[simp] theorem bi_all : biF .all [.lst xs] h = (bools xs).map fun l => .bl (l.all id) := rfl
@[simp] theorem bi_sum : biF .sum [.lst xs] h = (intsD xs).map fun l => .int l.sum := rfl
@[simp] theorem bi_max1 : biF .max1 [.lst (d :: xs)] h = (intsD (d :: xs)).map fun l => .int (maxI l) := rfl
end
@[simp] theorem pure_non : (D.non).pure = true := rfl
@[simp] theorem pure_bl {b : Bool} : (D.bl b).pure = true := rfl
@[simp] theorem pure_int {i : Int} : (D.int i).pure = true := rfl
@[simp] theorem pure_str {s : List Nat} : (D.str s).pure = true := rfl
@[simp] theorem pure_tup {xs : List D} : (D.tup xs).pure = D.pures xs := rfl
@[simp] theorem pure_lst {xs : List D} : (D.lst xs).pure = D.pures xs := rfl
@[simp] theorem pures_nil : D.pures [] = true := rfl
@[simp] theorem pures_cons {d : D} {xs : List D} : D.pures (d :: xs) = (d.pure && D.pures xs) := rfl
@[simp] theorem fin_non {gc : Bool} {h : Mem} : fin gc h h .non = .ok .non h := fin_pure rfl
@[simp] theorem fin_bl {gc : Bool} {h : Mem} {b : Bool} : fin gc h h (.bl b) = .ok (.bl b) h := fin_pure rfl
@[simp] theorem fin_int {gc : Bool} {h : Mem} {i : Int} : fin gc h h (.int i) = .ok (.int i) h := fin_pure rfl
@[simp] theorem fin_str {gc : Bool} {h : Mem} {s : List Nat} : fin gc h h (.str s) = .ok (.str s) h := fin_pure rfl
@[simp] theorem finX_same' {gc : Bool} {h : Mem} {c : Nat} : finX gc h h c .non = .exc c .non h := finX_same
/-! ### places -/
theorem atI_nat {α : Type} {xs : List α} {i : Nat} : atI xs (i : Int) = xs[i]? := by
  unfold atI ixN
  by_cases h : i < xs.length
  · rw [if_pos (by omega), if_pos (by omega)]
    rfl
  · rw [if_pos (by omega), if_neg (by omega), List.getElem?_eq_none (by omega)]
    rfl
theorem atI_last {α : Type} {xs : List α} (h : xs ≠ []) : atI xs (-1) = xs.getLast? := by
  have hl : 0 < xs.length := List.length_pos_iff.mpr h
  unfold atI ixN
  rw [if_neg (by omega), if_pos (by omega), List.getLast?_eq_getElem?]
  show xs[(-1 + (xs.length : Int)).toNat]? = _
  congr 1
  omega
theorem cut_from {α : Type} {xs : List α} {i : Nat} (h : i ≤ xs.length) : cut xs (some (i : Int)) none = xs.drop i := by
  have e : sIx xs.length 0 (some (i : Int)) = min i xs.length := by
    show (if (0 : Int) ≤ (i : Int) then min (i : Int).toNat xs.length else ((i : Int) + xs.length).toNat) = _
    rw [if_pos (by omega)]
    rfl
  show (xs.drop (sIx xs.length 0 (some (i : Int)))).take (xs.length - sIx xs.length 0 (some (i : Int))) = _
  rw [e]
  rw [Nat.min_eq_left h, List.take_of_length_le (by rw [List.length_drop]; exact Nat.le_refl _)]
theorem cut_to {α : Type} {xs : List α} {i : Nat} (h : i ≤ xs.length) : cut xs none (some (i : Int)) = xs.take i := by
  have e : sIx xs.length xs.length (some (i : Int)) = min i xs.length := by
    show (if (0 : Int) ≤ (i : Int) then min (i : Int).toNat xs.length else ((i : Int) + xs.length).toNat) = _
    rw [if_pos (by omega)]
    rfl
  show (xs.drop 0).take (sIx xs.length xs.length (some (i : Int)) - 0) = _
  rw [e]
  rw [Nat.min_eq_left h]
  simp
theorem rngL_map (n : Nat) : ∀ (lo : Int), rngL lo 1 n = (List.range n).map fun i => .int (lo + i) := by
  induction n with
  | zero => intro lo; rfl
  | succ n ih =>
    intro lo
    rw [rngL, ih, List.range_succ_eq_map, List.map_cons, List.map_map]
    simp
    intro i _
    omega

/-! ### documents -/
inductive Doc where
  | mk (l : List Nat) (ks : List Doc)
  deriving Inhabited
mutual
def enc : Doc → D
  | .mk l ks => .tup (.str l :: encs ks)
def encs : List Doc → List D
  | [] => []
  | d :: ds => enc d :: encs ds
end
mutual
def sz : Doc → Nat
  | .mk _ ks => 1 + szs ks
def szs : List Doc → Nat
  | [] => 0
  | d :: ds => sz d + szs ds
end
mutual
def dp : Doc → Nat
  | .mk _ ks => dps ks
def dps : List Doc → Nat
  | [] => 0
  | d :: ds => max (dp d + 1) (dps ds)
end
def Doc.lb : Doc → List Nat
  | .mk l _ => l
def Doc.ks : Doc → List Doc
  | .mk _ ks => ks
theorem encs_map : ∀ ds, encs ds = ds.map enc
  | [] => rfl
  | d :: ds => by rw [encs, encs_map ds]; rfl
mutual
def Doc.beq : Doc → Doc → Bool
  | .mk l ks, .mk l' ks' => decide (l = l') && Docs.beq ks ks'
def Docs.beq : List Doc → List Doc → Bool
  | [], [] => true
  | a :: as, b :: bs => Doc.beq a b && Docs.beq as bs
  | _, _ => false
end
mutual
theorem beq_doc : ∀ a b : Doc, a.beq b = true ↔ a = b
  | .mk l ks, .mk l' ks' => by
    rw [Doc.beq, Bool.and_eq_true, decide_eq_true_eq, beq_docs ks ks']
    simp
theorem beq_docs : ∀ a b : List Doc, Docs.beq a b = true ↔ a = b
  | [], [] => by simp [Docs.beq]
  | [], b :: bs => by simp [Docs.beq]
  | a :: as, [] => by simp [Docs.beq]
  | a :: as, b :: bs => by
    rw [Docs.beq, Bool.and_eq_true, beq_doc a b, beq_docs as bs]
    simp
end
instance : DecidableEq Doc := fun a b => decidable_of_iff _ (beq_doc a b)
mutual
theorem enc_pure : ∀ d : Doc, (enc d).pure = true
  | .mk l ks => by rw [enc, D.pure, D.pures, encs_pure ks]; rfl
theorem encs_pure : ∀ ds : List Doc, D.pures (encs ds) = true
  | [] => rfl
  | d :: ds => by rw [encs, D.pures, enc_pure d, encs_pure ds]; rfl
end
mutual
theorem enc_dep : ∀ d : Doc, (enc d).dep = dp d + 1
  | .mk l ks => by
    rw [enc, D.dep, D.deps, encs_dep ks, dp]
    have : (D.str l).dep = 0 := rfl
    rw [this]
    simp
theorem encs_dep : ∀ ds : List Doc, D.deps (encs ds) = dps ds
  | [] => rfl
  | d :: ds => by rw [encs, D.deps, enc_dep d, encs_dep ds, dps]
end
mutual
theorem enc_eqv : ∀ a b : Doc, (enc a).eqv (enc b) = decide (a = b)
  | .mk l ks, .mk l' ks' => by
    rw [enc, enc, D.eqv, D.eqvs, D.eqv, encs_eqv ks ks']
    by_cases h1 : l = l' <;> by_cases h2 : ks = ks' <;> simp [h1, h2]
theorem encs_eqv : ∀ a b : List Doc, D.eqvs (encs a) (encs b) = decide (a = b)
  | [], [] => by simp [encs, D.eqvs]
  | [], b :: bs => by simp [encs, D.eqvs]
  | a :: as, [] => by simp [encs, D.eqvs]
  | a :: as, b :: bs => by
    rw [encs, encs, D.eqvs, enc_eqv a b, encs_eqv as bs]
    by_cases h1 : a = b <;> by_cases h2 : as = bs <;> simp [h1, h2]
end
theorem doc_eq {h : Mem} {a b : Doc} (ha : dp a ≤ 60) (hb : dp b ≤ 60) : cmpop h .eq (enc a) (enc b) = some (decide (a = b)) := by
  rw [cmp_eq (enc_pure a) (enc_pure b) (by rw [enc_dep]; omega) (by rw [enc_dep]; omega), enc_eqv]
theorem doc_ne {h : Mem} {a b : Doc} (ha : dp a ≤ 60) (hb : dp b ≤ 60) : cmpop h .ne (enc a) (enc b) = some (!decide (a = b)) := by
  rw [cmp_ne (enc_pure a) (enc_pure b) (by rw [enc_dep]; omega) (by rw [enc_dep]; omega), enc_eqv]
mutual
theorem dp_sz : ∀ d : Doc, dp d < sz d
  | .mk l ks => by
    have := dps_szs ks
    rw [dp, sz]
    omega
theorem dps_szs : ∀ ds : List Doc, dps ds ≤ szs ds
  | [] => Nat.le_refl _
  | d :: ds => by
    have h1 := dp_sz d
    have h2 := dps_szs ds
    rw [dps, szs]
    omega
end
theorem dp_mem {d : Doc} : ∀ {ds : List Doc}, d ∈ ds → dp d + 1 ≤ dps ds
  | e :: ds, h => by
    rw [dps]
    rcases List.mem_cons.mp h with z | z
    · subst z; exact Nat.le_max_left ..
    · exact Nat.le_trans (dp_mem z) (Nat.le_max_right ..)
theorem sz_mem {d : Doc} : ∀ {ds : List Doc}, d ∈ ds → sz d ≤ szs ds
  | e :: ds, h => by
    rw [szs]
    rcases List.mem_cons.mp h with z | z
    · subst z; omega
    · have := sz_mem z; omega
theorem len_szs : ∀ ds : List Doc, ds.length ≤ szs ds
  | [] => Nat.le_refl _
  | d :: ds => by
    have h1 := len_szs ds
    have h2 := dp_sz d
    rw [szs, List.length_cons]
    omega
end Ev
namespace Ev
section
variable {h : Mem} {a b x : Ob}
theorem m1_get0 : (h ++ [a])[h.length]? = some a := by simp
theorem m2_get0 : (h ++ [a, b])[h.length]? = some a := by simp
theorem m2_get1 : (h ++ [a, b])[h.length + 1]? = some b := by
  rw [List.getElem?_append_right (by omega)]
  simp
theorem m1_set0 : (h ++ [a]).set h.length x = h ++ [x] := by simp
theorem m2_set0 : (h ++ [a, b]).set h.length x = h ++ [x, b] := by simp
theorem m2_set1 : (h ++ [a, b]).set (h.length + 1) x = h ++ [a, x] := by
  rw [List.set_append_right _ _ (by omega)]
  simp
theorem m1_len : (h ++ [a]).length = h.length + 1 := by simp
theorem m1_app : h ++ [a] ++ [b] = h ++ [a, b] := by simp
theorem mt_append {n : Nat} {xs : List D} {d : D} (e : h[n]? = some (.box (.lst xs))) (hl : xs.length < LIM) : mtf .append (.loc n) [d] h = some (.non, h.set n (.box (.lst (xs ++ [d])))) := by
  show mtb .append (.loc n) [d] h = _
  unfold mtb
  simp only [e]
  rw [if_pos hl]
theorem mt_pop0 {n : Nat} {xs ys : List D} {y : D} (e : h[n]? = some (.box (.lst xs))) (hy : xs = ys ++ [y]) : mtf .pop0 (.loc n) [] h = some (y, h.set n (.box (.lst ys))) := by
  show mtb .pop0 (.loc n) [] h = _
  unfold mtb
  simp only [e]
  subst hy
  simp
theorem mt_extend {n : Nat} {xs ys : List D} (e : h[n]? = some (.box (.lst xs))) (hl : xs.length + ys.length ≤ LIM) : mtf .extend (.loc n) [.lst ys] h = some (.non, h.set n (.box (.lst (xs ++ ys)))) := by
  show mtb .extend (.loc n) [.lst ys] h = _
  unfold mtb
  simp only [e, shal_lst]
  rw [if_pos hl]
theorem mt_pop1 {n : Nat} {xs : List D} {y : D} (e : h[n]? = some (.box (.lst (y :: xs)))) : mtf .pop1 (.loc n) [.int 0] h = some (y, h.set n (.box (.lst xs))) := by
  show mtb .pop1 (.loc n) [.int 0] h = _
  unfold mtb
  simp only [e]
  have : ixN (y :: xs).length 0 = some 0 := by
    unfold ixN
    rw [if_pos (by omega), if_pos (by simp)]
    rfl
  rw [this]
  rfl
/-- a method's call on a box -/
theorem ev_mt {C : Cx} {m : Mt} {o : CE} {es : CEs} {σ : Fr} {h h1 h2 h3 : Mem} {n : Nat} {xs : List D} {ds : List D} {d : D} (ho : evE C o σ h = .ok (.loc n) h1) (e : h1[n]? = some (.box (.lst xs))) (ha : evL C es σ h1 = .ok ds h2) (hm : mtf m (.loc n) ds h2 = some (d, h3)) :
    evE C (.mt m o es) σ h = .ok d h3 := by
  rw [evE, ho]
  dsimp only
  rw [shal_box e]
  dsimp only
  rw [ha]
  dsimp only
  rw [hm]
theorem ev_v {C : Cx} {i : Nat} {σ : Fr} {h : Mem} {d : D} (e : σ[i]? = some (some d)) : evE C (.v i) σ h = .ok d h := by
  rw [evE]
  simp only [e]
end
end Ev
namespace Ev
theorem mul_r {a b : Int} (h : -(2 ^ 64) < b ∧ b < 2 ^ 64) : binop .mul (.int a) (.int b) = some (.int (a * b)) := by
  rw [bin_mul, if_pos (.inr h)]
theorem mul_l {a b : Int} (h : -(2 ^ 64) < a ∧ a < 2 ^ 64) : binop .mul (.int a) (.int b) = some (.int (a * b)) := by
  rw [bin_mul, if_pos (.inl h)]
end Ev
end
section
set_option autoImplicit false
set_option linter.all false
/-! M2: stepping through a body. -/
namespace Ev
/-- what a body's end gives the caller -/
def outF (gc : Bool) (h : Mem) : RS → R
  | .nx _ h1 => fin gc h h1 .non
  | .rt d h1 => fin gc h h1 d
  | .exc c x _ h1 => finX gc h h1 c x
  | _ => .stuck
theorem callF_out {P : Prog} {k f : Nat} {args : List D} {h : Mem} (fd : Def) (hd : P.defs[f]? = some fd) (ha : args.length = fd.np ∧ fd.np ≤ fd.ns) : callF P (k + 1) f args h = outF fd.gc h (evSs (P.cx k (callF P k)) fd.body (startF fd.ns args) h) := by
  rw [callF_succ hd ha]
  cases evSs (P.cx k (callF P k)) fd.body (startF fd.ns args) h <;> rfl
variable {C : Cx} {s : CS} {ss : CSs} {σ σ1 : Fr} {h h1 h2 : Mem} {x : R} {d : D} {gc : Bool} {c : Nat}
theorem st_nx {h0 : Mem} (e : evS C s σ h = .nx σ1 h1) (r : outF gc h0 (evSs C ss σ1 h1) = x) : outF gc h0 (evSs C (.cons s ss) σ h) = x := by
  rw [seq_nx e]; exact r
theorem st_rt {h0 : Mem} (e : evS C s σ h = .rt d h1) (r : fin gc h0 h1 d = x) : outF gc h0 (evSs C (.cons s ss) σ h) = x := by
  rw [seq_rt e]; exact r
theorem st_exc {h0 : Mem} (e : evS C s σ h = .exc c d σ1 h1) (r : finX gc h0 h1 c d = x) : outF gc h0 (evSs C (.cons s ss) σ h) = x := by
  rw [seq_exc e]; exact r
theorem st_fz {h0 : Mem} {i n : Nat} (e : σ[i]? = some (some (.loc n))) (g : h[n]? = some (.box d)) (r : outF gc h0 (evSs C ss (σ.set i (some d)) (h.set n .gone)) = x) : outF gc h0 (evSs C (.fz i ss) σ h) = x := by
  have : evSs C (.fz i ss) σ h = evSs C ss (σ.set i (some d)) (h.set n .gone) := by
    rw [evSs]
    simp only [e, g]
  rw [this]; exact r
theorem sq_fz {i n : Nat} {r : RS} (e : σ[i]? = some (some (.loc n))) (g : h[n]? = some (.box d)) (q : evSs C ss (σ.set i (some d)) (h.set n .gone) = r) : evSs C (.fz i ss) σ h = r := by
  have : evSs C (.fz i ss) σ h = evSs C ss (σ.set i (some d)) (h.set n .gone) := by
    rw [evSs]
    simp only [e, g]
  rw [this]; exact q
theorem st_ite {h0 : Mem} {t : CT} {a b : CSs} {v : Bool} (e : evT C t σ h = .ok v h1) (r : outF gc h0 (match evSs C (if v = true then a else b) σ h1 with | .nx σ2 h2 => evSs C ss σ2 h2 | r => r) = x) : outF gc h0 (evSs C (.cons (.ite t a b) ss) σ h) = x := by
  rw [evSs, evS, e]
  cases v <;> exact r
theorem sq_nx {r : RS} (e : evS C s σ h = .nx σ1 h1) (q : evSs C ss σ1 h1 = r) : evSs C (.cons s ss) σ h = r := by
  rw [seq_nx e]; exact q
theorem sq_rt (e : evS C s σ h = .rt d h1) : evSs C (.cons s ss) σ h = .rt d h1 := seq_rt e
theorem sq_nil : evSs C .nil σ h = .nx σ h := by rw [evSs]
theorem evS_ite {t : CT} {a b : CSs} {v : Bool} (e : evT C t σ h = .ok v h1) : evS C (.ite t a b) σ h = evSs C (if v = true then a else b) σ h1 := by
  rw [evS, e]
  cases v <;> rfl
theorem evS_asg {t : Tg} {e : CE} (q : evE C e σ h = .ok d h1) (a : asgT t d σ = some σ1) : evS C (.asg t e) σ h = .nx σ1 h1 := by
  rw [evS, q]
  dsimp only
  rw [a]
theorem evS_expr {e : CE} (q : evE C e σ h = .ok d h1) : evS C (.expr e) σ h = .nx σ h1 := by
  rw [evS, q]
theorem evE_call {f : Nat} {es : CEs} {ds : List D} (a : evL C es σ h = .ok ds h1) : evE C (.call f es) σ h = C.call f ds h1 := by
  rw [evE, a]
theorem evE_callx {f : Nat} {es : CEs} {ds : List D} {r : R} (a : evL C es σ h = .ok ds h1) (q : C.call f ds h1 = r) : evE C (.call f es) σ h = r := by
  rw [evE, a]; exact q
theorem evT_e {e : CE} {b : Bool} (q : evE C e σ h = .ok (.bl b) h1) : evT C (.e e) σ h = .ok b h1 := by
  rw [evT, q]
theorem evT_not {t : CT} {b : Bool} (q : evT C t σ h = .ok b h1) : evT C (.not t) σ h = .ok (!b) h1 := by
  rw [evT, q]
theorem evTO2 {s t : CT} {b : Bool} (q : evT C s σ h = .ok false h1) (r : evT C t σ h1 = .ok b h2) : evT C (.or (.cons s (.cons t .nil))) σ h = .ok b h2 := by
  rw [evT, evTO, q]
  · dsimp only
    rw [evTO, r]
  · intro z; cases z
theorem evTA2 {s t : CT} {b : Bool} (q : evT C s σ h = .ok true h1) (r : evT C t σ h1 = .ok b h2) : evT C (.and (.cons s (.cons t .nil))) σ h = .ok b h2 := by
  rw [evT, evTA, q]
  · dsimp only
    rw [evTA, r]
  · intro z; cases z
theorem evTA1 {s t : CT} (q : evT C s σ h = .ok false h1) : evT C (.and (.cons s (.cons t .nil))) σ h = .ok false h1 := by
  rw [evT, evTA, q]
  intro z; cases z
theorem ev_lst {es : CEs} {ds : List D} (hs : evL C es σ h = .ok ds h1) (hl : ds.length ≤ LIM) : evE C (.fr (.lst es)) σ h = .ok (.lst ds) h1 := by
  rw [evE, evF, hs]
  dsimp only
  rw [if_pos hl]
theorem ev_nw {e : FE} (q : evF C e σ h = .ok d h1) : evE C (.nw e) σ h = .ok (.loc h1.length) (h1 ++ [.box d]) := by
  rw [evE, q]
end Ev
namespace Ev
/-- a comprehension over data that stand for things -/
theorem lcL_on {α : Type} {elt : Fr → Mem → R} {test : Fr → Mem → RB} {t : Tg} {σ : Fr} {h : Mem} (g : α → D) (F : α → D) (p : α → Bool) (fr : α → Fr) : ∀ (xs : List α) (acc : List D),
    (∀ x ∈ xs, asgT t (g x) σ = some (fr x) ∧ test (fr x) h = .ok (p x) h ∧ (p x = true → elt (fr x) h = .ok (F x) h)) → acc.length + xs.length ≤ LIM →
    lcL elt test t σ (xs.map g) acc h = .ok (acc ++ (xs.filter p).map F) h
  | [], acc, _, _ => by simp [lcL]
  | x :: xs, acc, hx, hl => by
    obtain ⟨h0, h1, h2⟩ := hx x List.mem_cons_self
    rw [List.length_cons] at hl
    rw [List.map_cons, lcL, h0]
    dsimp only
    rw [h1]
    cases hp : p x with
    | true =>
      dsimp only
      rw [h2 hp]
      dsimp only
      rw [if_pos (by omega), lcL_on g F p fr xs (acc ++ [F x]) (fun y hy => hx y (List.mem_cons_of_mem _ hy)) (by rw [List.length_append]; simp; omega), List.filter_cons, if_pos hp]
      simp
    | false =>
      dsimp only
      rw [lcL_on g F p fr xs acc (fun y hy => hx y (List.mem_cons_of_mem _ hy)) (by omega), List.filter_cons, if_neg (by rw [hp]; decide)]
/-- the place that a number leads to -/
theorem atI_map {α : Type} {g : α → D} {xs : List α} {r : Nat} (hr : r < xs.length) : atI (xs.map g) (r : Int) = some (g xs[r]) := by
  rw [atI_nat, List.getElem?_map, List.getElem?_eq_getElem hr]
  rfl
theorem maxI_le {a : Int} : ∀ {l : List Int}, a ∈ l → a ≤ maxI l
  | [b], h => by
    simp at h
    subst h
    exact Int.le_refl _
  | b :: c :: l, h => by
    rw [maxI]
    · rcases List.mem_cons.mp h with z | z
      · subst z; omega
      · have := maxI_le z; omega
    · intro z; cases z
end Ev
end
section
set_option Elab.async false
set_option autoImplicit false
set_option maxRecDepth 100000
set_option linter.all false
/-! N1: the program's defs about documents. -/
namespace K21
open Ev
def FIRST : List Nat := [97, 98, 99, 100, 101, 102, 103, 104, 105, 106, 107, 108, 109, 110, 111, 112, 113, 114, 115, 116, 117, 118, 119, 120, 121, 122]
def LATER : List Nat := FIRST ++ [48, 49, 50, 51, 52, 53, 54, 55, 56, 57]
def lab (l : List Nat) : Bool := match l with
  | [] => false
  | c :: r => decide (r.length ≤ 11) && decide (c ∈ FIRST) && (c :: r).all fun x => decide (x ∈ LATER)
theorem gl0 : prog.glob[0]? = some (.int 12) := rfl
theorem gl1 : prog.glob[1]? = some (.int 3) := rfl
theorem gl2 : prog.glob[2]? = some (.int 300) := rfl
theorem gl3 : prog.glob[3]? = some (.int 40) := rfl
theorem gl4 : prog.glob[4]? = some (.str FIRST) := rfl
theorem gl5 : prog.glob[5]? = some (.str LATER) := rfl
theorem lim_lt' {n : Nat} (h : n ≤ 100000) : n < LIM := Nat.lt_of_le_of_lt h (by decide)
theorem lim_lt {n : Nat} (h : n ≤ 100000) : n ≤ LIM := Nat.le_trans h (by decide)
@[simp] theorem cx_glob (k : Nat) (c : Nat → List D → Mem → R) (i : Nat) : (prog.cx k c).glob i = prog.glob[i]? := rfl
@[simp] theorem cx_call (k : Nat) (c : Nat → List D → Mem → R) : (prog.cx k c).call = c := rfl
theorem is_label_ok (k : Nat) (l : List Nat) (h : Mem) (hl : l.length ≤ 1000) : callF prog (k + 1) i_is_label [.str l] h = .ok (.bl (lab l)) h := by
  rw [callF_succ (fd := d_is_label) rfl ⟨rfl, by decide⟩]
  cases l with
  | nil => simp [d_is_label, startF, evSs, evS, evT, evTO, evE, evL, List.replicate, gl0, LIM, lab]
  | cons c r =>
    have l1' : r.length + 1 ≤ LIM := lim_lt (by simp at hl; omega)
    have e1 : (1 : Int) ≤ (r.length : Int) + 1 := by omega
    have a0 : atI (c :: r) 0 = some c := atI_nat (i := 0)
    by_cases h1 : r.length ≤ 11
    · have e2 : (r.length : Int) + 1 ≤ 12 := by omega
      by_cases h2 : c ∈ FIRST
      · have lp := lcL_nm (elt := evE (prog.cx k (callF prog k)) e_is_label_0) (test := fun _ h => .ok true h) (i := 1) (σ := [some (.str (c :: r)), none]) (h := h) (F := fun d => match d with | .str [x] => .bl (decide (x ∈ LATER)) | _ => .non) (p := fun _ => true) (by simp)
          ((c :: r).map fun x => D.str [x]) [] (fun x hx => by
            obtain ⟨y, _, e⟩ := List.mem_map.mp hx
            subst e
            exact ⟨rfl, fun _ => by simp [e_is_label_0, evE, gl5, -List.mem_cons]⟩) (by simp; exact l1')
        simp [d_is_label, startF, evSs, evS, evT, evTO, evE, evL, evF, evSrc, itD, List.replicate, gl0, gl4, l1', e1, e2, item, a0, h2, -List.mem_cons]
        rw [← List.map_cons (f := fun x => D.str [x]), lp]
        have e5 : ([] ++ List.map (fun d => match d with | D.str [x] => D.bl (decide (x ∈ LATER)) | _ => D.non) (List.filter (fun _ => true) ((c :: r).map fun x => D.str [x]))) = (c :: r).map fun x => D.bl (decide (x ∈ LATER)) := by
          rw [List.filter_eq_self.mpr fun _ _ => rfl, List.map_map]
          rfl
        rw [e5]
        dsimp only
        rw [bi_all, bools_map]
        simp [lab, h1, h2, -List.mem_cons]
      · simp [d_is_label, startF, evSs, evS, evT, evTO, evE, evL, evF, evSrc, List.replicate, gl0, gl4, l1', e1, e2, item, a0, h2, lab, -List.mem_cons]
    · have e2 : ¬ (r.length : Int) + 1 ≤ 12 := by omega
      simp [d_is_label, startF, evSs, evS, evT, evTO, evE, evL, List.replicate, gl0, l1', e1, e2, lab, h1]
theorem measured_ok (k : Nat) : ∀ (d : Doc) (h : Mem), dp d < k → callF prog k i_measured [enc d] h = .ok (.tup [.int (sz d), .int (dp d)]) h := by
  induction k with
  | zero => intro d h l; omega
  | succ k ihk =>
    rintro ⟨lb, ks⟩ h l
    rw [callF_succ (fd := d_measured) rfl ⟨rfl, by decide⟩]
    have lim2 : 2 ≤ LIM := by decide
    have e0 : cut (D.str lb :: encs ks) (some 1) none = encs ks := cut_from (i := 1) (by simp)
    rw [dp] at l
    have loop : ∀ (xs : List Doc) (a b' : Nat) (o1 o4 o5 : Option D), (∀ x ∈ xs, dp x < k) →
        ∃ o1' o4' o5', forL (evSs (prog.cx k (callF prog k)) b_measured_0) (.nm 1) (encs xs) [some (enc (.mk lb ks)), o1, some (.int a), some (.int b'), o4, o5] h =
          .nx [some (enc (.mk lb ks)), o1', some (.int (a + szs xs : Nat)), some (.int (max b' (dps xs) : Nat)), o4', o5'] h := by
      intro xs
      induction xs with
      | nil => intro a b' o1 o4 o5 _; exact ⟨o1, o4, o5, by simp [encs, forL, szs, dps]⟩
      | cons x xs ih =>
        intro a b' o1 o4 o5 hx
        have hm := ihk x h (hx x List.mem_cons_self)
        obtain ⟨p1, p4, p5, e⟩ := ih (a + sz x) (max b' (dp x + 1)) (some (enc x)) (some (.int (sz x))) (some (.int (dp x))) (fun y hy => hx y (List.mem_cons_of_mem _ hy))
        refine ⟨p1, p4, p5, ?_⟩
        have em : (if (b' : Int) < (dp x : Int) + 1 then (dp x : Int) + 1 else (b' : Int)) = ((max b' (dp x + 1) : Nat) : Int) := by split <;> omega
        have ea : (a : Int) + (sz x : Int) = ((a + sz x : Nat) : Int) := by omega
        have hb : evSs (prog.cx k (callF prog k)) b_measured_0 [some (enc (.mk lb ks)), some (enc x), some (.int a), some (.int b'), o4, o5] h =
            .nx [some (enc (.mk lb ks)), some (enc x), some (.int (a + sz x : Nat)), some (.int (max b' (dp x + 1) : Nat)), some (.int (sz x)), some (.int (dp x))] h := by
          simp only [b_measured_0, hm, em, ea, evSs, evS, evE, evL, evT, evTA, evTO, evF, evSrc, evO, evAnd, evOr, asgT, asgTs, cx_glob, cx_call, shal_int, shal_str, shal_tup, shal_lst, shal_non, shal_bl, bin_addi, bin_subi, bin_addt, bin_addl, bin_adds, bin_mod, bin_div, cmp_lt, cmp_le, cmp_gt, cmp_ge, cmp_eqi, cmp_nei, cmp_eqs, cmp_nes, cmp_ins, cmp_nins, cmp_isn, cmp_isns, item_tup, item_lst, bi_lens, bi_lent, bi_lenl, bi_int, bi_intb, bi_abs, bi_max2, bi_tuplel, bi_tuplet, itD, slice, seqD, pure_non, pure_bl, pure_int, pure_str, pure_tup, pure_lst, pures_nil, pures_cons, startF, List.replicate, List.length_cons, List.length_nil, List.set_cons_zero, List.set_cons_succ, List.getElem?_cons_zero, List.getElem?_cons_succ, List.getElem?_nil, Nat.zero_add, Nat.reduceAdd, Nat.reduceSub, Nat.reduceLT, Nat.reduceLeDiff, if_true, Bool.not_true, Bool.not_false, List.map_cons, List.map_nil, List.cons_append, List.nil_append, reduceIte, and_self, and_true, true_and, decide_true, decide_false, Bool.true_and, Bool.and_true, Bool.false_and, Bool.and_false, fin_non, fin_bl, fin_int, fin_str, finX_same', gt_iff_lt, Nat.lt_add_one, Bool.false_eq_true]
        rw [encs, forL_nx rfl hb, e]
        simp only [szs, dps, Nat.add_assoc, Nat.max_assoc]
    obtain ⟨p1, p4, p5, e⟩ := loop ks 1 0 none none none (fun x hx => by have := dp_mem hx; omega)
    rw [show enc (.mk lb ks) = .tup (.str lb :: encs ks) from by rw [enc]] at e ⊢
    simp [asgT, asgTs, d_measured, startF, List.replicate, evSs, evS, evE, evL, evSrc, evO, lim2, slice, e0, itD]
    rw [show (some (D.int 1)) = some (D.int ((1 : Nat) : Int)) from rfl, show (some (D.int 0)) = some (D.int ((0 : Nat) : Int)) from rfl, e]
    simp [sz, dp, lim2, fin_pure (d := .tup [.int (1 + (szs ks : Int)), .int (dps ks : Int)]) rfl]
end K21
namespace K21
open Ev
mutual
def nds (p : List D) : Doc → List D
  | .mk l ks => .tup [.tup p, enc (.mk l ks)] :: ndss p 0 ks
def ndss (p : List D) (i : Nat) : List Doc → List D
  | [] => []
  | k :: ks => nds (p ++ [.int i]) k ++ ndss p (i + 1) ks
end
def kp (p : List D) (i : Nat) : List Doc → List D
  | [] => []
  | k :: ks => .tup [.tup (p ++ [.int i]), enc k] :: kp p (i + 1) ks
theorem kp_get (p : List D) : ∀ (ks : List Doc) (i j : Nat) (d : Doc), ks[j]? = some d → (kp p i ks)[j]? = some (.tup [.tup (p ++ [.int ((i + j : Nat) : Int)]), enc d])
  | [], i, j, d, e => by simp at e
  | k :: ks, i, 0, d, e => by
    simp at e
    subst e
    simp [kp]
  | k :: ks, i, j + 1, d, e => by
    have := kp_get p ks (i + 1) j d (by simpa using e)
    rw [kp, List.getElem?_cons_succ, this]
    have : i + 1 + j = i + (j + 1) := by omega
    rw [this]
theorem kp_len (p : List D) : ∀ (ks : List Doc) (i : Nat), (kp p i ks).length = ks.length
  | [], _ => rfl
  | k :: ks, i => by rw [kp, List.length_cons, kp_len p ks, List.length_cons]
theorem encs_len : ∀ ks : List Doc, (encs ks).length = ks.length
  | [] => rfl
  | k :: ks => by rw [encs, List.length_cons, encs_len ks, List.length_cons]
theorem encs_get : ∀ (ks : List Doc) (j : Nat), (encs ks)[j]? = (ks[j]?).map enc
  | [], j => by simp [encs]
  | k :: ks, 0 => by simp [encs]
  | k :: ks, j + 1 => by rw [encs, List.getElem?_cons_succ, encs_get ks j]; simp
/-- the children are pushed, the first on top -/
theorem nodes_push (k : Nat) (h : Mem) (fd : D) (l : List Nat) (ks : List Doc) (p : List D) (hp : p.length ≤ 1000) (hk : ks.length ≤ 1000) (d0 : Option D) : ∀ (m : Nat) (w : List D) (o3 : Option D), m ≤ ks.length → w.length + m ≤ 50000 →
    ∃ o3', forL (evSs (prog.cx k (callF prog k)) b_nodes_0) (.nm 3) (rngL m (-1) m) [d0, some (.loc h.length), some (.loc (h.length + 1)), o3, some (.tup p), some (enc (.mk l ks))] (h ++ [.box fd, .box (.lst w)]) =
      .nx [d0, some (.loc h.length), some (.loc (h.length + 1)), o3', some (.tup p), some (enc (.mk l ks))] (h ++ [.box fd, .box (.lst (w ++ ((kp p 0 ks).take m).reverse))]) := by
  intro m
  induction m with
  | zero => intro w o3 _ _; exact ⟨o3, by simp [rngL, forL]⟩
  | succ m ih =>
    intro w o3 hm hw
    have hd : ks[m]? = some ks[m] := List.getElem?_eq_getElem hm
    obtain ⟨o3', e⟩ := ih (w ++ [.tup [.tup (p ++ [.int ((m : Nat) : Int)]), enc ks[m]]]) (some (.int ((m : Int) + 1))) (by omega) (by rw [List.length_append]; simp; omega)
    refine ⟨o3', ?_⟩
    have e1 : (m : Int) + 1 - 1 = m := by omega
    have e2 : atI (D.str l :: encs ks) ((m : Int) + 1) = some (enc ks[m]) := by
      have := atI_nat (xs := D.str l :: encs ks) (i := m + 1)
      rw [List.getElem?_cons_succ, encs_get, hd] at this
      exact this
    have e3 : p.length + 1 ≤ LIM := lim_lt (by omega)
    have e4 : w.length < LIM := lim_lt' (by omega)
    have l2 : 2 ≤ LIM := by decide
    have ga : evL (prog.cx k (callF prog k)) (.cons (.tup (.cons (.tup (.star (.v 4) (.cons (.bin .sub (.v 3) (.c (.int 1))) .nil))) (.cons (.ix (.v 5) (.v 3)) .nil))) .nil) [d0, some (.loc h.length), some (.loc (h.length + 1)), some (.int ((m : Int) + 1)), some (.tup p), some (enc (.mk l ks))] (h ++ [.box fd, .box (.lst w)]) =
        .ok [.tup [.tup (p ++ [.int (m : Int)]), enc ks[m]]] (h ++ [.box fd, .box (.lst w)]) := by
      rw [show enc (.mk l ks) = .tup (.str l :: encs ks) from by rw [enc]]
      simp only [e1, e2, e3, l2, List.length_append, evSs, evS, evE, evL, evT, evTA, evTO, evF, evSrc, evO, evAnd, evOr, asgT, asgTs, cx_glob, cx_call, shal_int, shal_str, shal_tup, shal_lst, shal_non, shal_bl, bin_addi, bin_subi, bin_addt, bin_addl, bin_adds, bin_mod, bin_div, cmp_lt, cmp_le, cmp_gt, cmp_ge, cmp_eqi, cmp_nei, cmp_eqs, cmp_nes, cmp_ins, cmp_nins, cmp_isn, cmp_isns, item_tup, item_lst, bi_lens, bi_lent, bi_lenl, bi_int, bi_intb, bi_abs, bi_max2, bi_tuplel, bi_tuplet, itD, slice, seqD, pure_non, pure_bl, pure_int, pure_str, pure_tup, pure_lst, pures_nil, pures_cons, startF, List.replicate, List.length_cons, List.length_nil, List.set_cons_zero, List.set_cons_succ, List.getElem?_cons_zero, List.getElem?_cons_succ, List.getElem?_nil, Nat.zero_add, Nat.reduceAdd, Nat.reduceSub, Nat.reduceLT, Nat.reduceLeDiff, if_true, Bool.not_true, Bool.not_false, List.map_cons, List.map_nil, List.cons_append, List.nil_append, reduceIte, and_self, and_true, true_and, decide_true, decide_false, Bool.true_and, Bool.and_true, Bool.false_and, Bool.and_false, fin_non, fin_bl, fin_int, fin_str, finX_same', gt_iff_lt, Nat.lt_add_one, Bool.false_eq_true]
    have hb : evSs (prog.cx k (callF prog k)) b_nodes_0 [d0, some (.loc h.length), some (.loc (h.length + 1)), some (.int ((m : Int) + 1)), some (.tup p), some (enc (.mk l ks))] (h ++ [.box fd, .box (.lst w)]) =
        .nx [d0, some (.loc h.length), some (.loc (h.length + 1)), some (.int ((m : Int) + 1)), some (.tup p), some (enc (.mk l ks))] (h ++ [.box fd, .box (.lst (w ++ [.tup [.tup (p ++ [.int (m : Int)]), enc ks[m]]]))]) := by
      rw [b_nodes_0, evSs, evS, ev_mt (ev_v rfl) m2_get1 ga (mt_append m2_get1 e4)]
      simp only [evSs, m2_set1]
    have rg : rngL ((m + 1 : Nat) : Int) (-1) (m + 1) = .int ((m : Int) + 1) :: rngL (m : Int) (-1) m := by
      rw [rngL]
      have : ((m + 1 : Nat) : Int) + -1 = (m : Int) := by omega
      rw [this]
      rfl
    rw [rg, forL_nx rfl hb, e, List.append_assoc]
    have tk : (kp p 0 ks).take (m + 1) = (kp p 0 ks).take m ++ [.tup [.tup (p ++ [.int (m : Int)]), enc ks[m]]] := by
      rw [List.take_add_one, kp_get p ks 0 m _ hd]
      simp
    rw [tk, List.reverse_append]
    rfl
end K21
namespace K21
open Ev
/-- what the stack still holds, from the top -/
def stk : List (List D × Doc) → List D
  | [] => []
  | (p, d) :: r => .tup [.tup p, enc d] :: stk r
def outs : List (List D × Doc) → List D
  | [] => []
  | (p, d) :: r => nds p d ++ outs r
def szp : List (List D × Doc) → Nat
  | [] => 0
  | (_, d) :: r => sz d + szp r
def kps (p : List D) (i : Nat) : List Doc → List (List D × Doc)
  | [] => []
  | k :: ks => (p ++ [.int i], k) :: kps p (i + 1) ks
theorem kps_stk (p : List D) : ∀ (ks : List Doc) (i : Nat) (r : List (List D × Doc)), stk (kps p i ks ++ r) = kp p i ks ++ stk r
  | [], _, _ => rfl
  | k :: ks, i, r => by rw [kps, List.cons_append, stk, kps_stk p ks, kp]; rfl
theorem kps_outs (p : List D) : ∀ (ks : List Doc) (i : Nat) (r : List (List D × Doc)), outs (kps p i ks ++ r) = ndss p i ks ++ outs r
  | [], _, _ => by simp [kps, ndss]
  | k :: ks, i, r => by rw [kps, List.cons_append, outs, kps_outs p ks, ndss, List.append_assoc]
theorem kps_szp (p : List D) : ∀ (ks : List Doc) (i : Nat) (r : List (List D × Doc)), szp (kps p i ks ++ r) = szs ks + szp r
  | [], _, _ => by simp [kps, szs]
  | k :: ks, i, r => by rw [kps, List.cons_append, szp, kps_szp p ks, szs]; omega
theorem stk_len : ∀ r : List (List D × Doc), (stk r).length ≤ szp r
  | [] => Nat.le_refl _
  | (p, d) :: r => by
    have h1 := stk_len r
    have h2 := dp_sz d
    rw [stk, szp, List.length_cons]
    omega
/-- all paths on it are short -/
def shortP (n : Nat) : List (List D × Doc) → Prop
  | [] => True
  | (p, d) :: r => p.length + dp d ≤ n ∧ shortP n r
theorem kps_short {n : Nat} (p : List D) : ∀ (ks : List Doc) (i : Nat) (r : List (List D × Doc)), p.length + dps ks ≤ n → shortP n r → shortP n (kps p i ks ++ r)
  | [], _, _, _, h => h
  | k :: ks, i, r, h, hr => by
    rw [dps] at h
    refine ⟨?_, kps_short p ks (i + 1) r (by omega) hr⟩
    rw [List.length_append]
    simp
    omega
theorem nodes_loop (k : Nat) (h : Mem) (d0 : Option D) : ∀ (n : Nat) (st : List (List D × Doc)) (acc : List D) (o3 o4 o5 : Option D) (w : Nat), szp st ≤ n → n < w → shortP 900 st → acc.length + szp st ≤ 900 →
    ∃ f', whileL (evT (prog.cx k (callF prog k)) (.e (.cmp .gt (.bi .len (.cons (.v 2) .nil)) (.c (.int 0))))) (evSs (prog.cx k (callF prog k)) b_nodes_1) w [d0, some (.loc h.length), some (.loc (h.length + 1)), o3, o4, o5] (h ++ [.box (.lst acc), .box (.lst (stk st).reverse)]) =
      .nx f' (h ++ [.box (.lst (acc ++ outs st)), .box (.lst [])]) ∧ f'[1]? = some (some (.loc h.length)) := by
  intro n
  induction n with
  | zero =>
    intro st acc o3 o4 o5 w hs hw _ _
    cases st with
    | nil =>
      cases w with
      | zero => omega
      | succ w =>
        refine ⟨[d0, some (.loc h.length), some (.loc (h.length + 1)), o3, o4, o5], ?_, rfl⟩
        rw [whileL]
        simp only [stk, outs, List.reverse_nil, List.append_nil, bi_lenb (m2_get1 (h := h)), Int.lt_irrefl, List.length_nil, Int.ofNat_eq_natCast, Int.natCast_zero, evSs, evS, evE, evL, evT, evTA, evTO, evF, evSrc, evO, evAnd, evOr, asgT, asgTs, cx_glob, cx_call, shal_int, shal_str, shal_tup, shal_lst, shal_non, shal_bl, bin_addi, bin_subi, bin_addt, bin_addl, bin_adds, bin_mod, bin_div, cmp_lt, cmp_le, cmp_gt, cmp_ge, cmp_eqi, cmp_nei, cmp_eqs, cmp_nes, cmp_ins, cmp_nins, cmp_isn, cmp_isns, item_tup, item_lst, bi_lens, bi_lent, bi_lenl, bi_int, bi_intb, bi_abs, bi_max2, bi_tuplel, bi_tuplet, itD, slice, seqD, pure_non, pure_bl, pure_int, pure_str, pure_tup, pure_lst, pures_nil, pures_cons, startF, List.replicate, List.length_cons, List.length_nil, List.set_cons_zero, List.set_cons_succ, List.getElem?_cons_zero, List.getElem?_cons_succ, List.getElem?_nil, Nat.zero_add, Nat.reduceAdd, Nat.reduceSub, Nat.reduceLT, Nat.reduceLeDiff, if_true, Bool.not_true, Bool.not_false, List.map_cons, List.map_nil, List.cons_append, List.nil_append, reduceIte, and_self, and_true, true_and, decide_true, decide_false, Bool.true_and, Bool.and_true, Bool.false_and, Bool.and_false, fin_non, fin_bl, fin_int, fin_str, finX_same', gt_iff_lt, Nat.lt_add_one, Bool.false_eq_true]
    | cons q r =>
      obtain ⟨p, d⟩ := q
      have := dp_sz d
      rw [szp] at hs
      omega
  | succ n ih =>
    intro st acc o3 o4 o5 w hs hw hsh ha
    cases st with
    | nil => exact (by
      cases w with
      | zero => omega
      | succ w =>
        refine ⟨[d0, some (.loc h.length), some (.loc (h.length + 1)), o3, o4, o5], ?_, rfl⟩
        rw [whileL]
        simp only [stk, outs, List.reverse_nil, List.append_nil, bi_lenb (m2_get1 (h := h)), Int.lt_irrefl, List.length_nil, Int.ofNat_eq_natCast, Int.natCast_zero, evSs, evS, evE, evL, evT, evTA, evTO, evF, evSrc, evO, evAnd, evOr, asgT, asgTs, cx_glob, cx_call, shal_int, shal_str, shal_tup, shal_lst, shal_non, shal_bl, bin_addi, bin_subi, bin_addt, bin_addl, bin_adds, bin_mod, bin_div, cmp_lt, cmp_le, cmp_gt, cmp_ge, cmp_eqi, cmp_nei, cmp_eqs, cmp_nes, cmp_ins, cmp_nins, cmp_isn, cmp_isns, item_tup, item_lst, bi_lens, bi_lent, bi_lenl, bi_int, bi_intb, bi_abs, bi_max2, bi_tuplel, bi_tuplet, itD, slice, seqD, pure_non, pure_bl, pure_int, pure_str, pure_tup, pure_lst, pures_nil, pures_cons, startF, List.replicate, List.length_cons, List.length_nil, List.set_cons_zero, List.set_cons_succ, List.getElem?_cons_zero, List.getElem?_cons_succ, List.getElem?_nil, Nat.zero_add, Nat.reduceAdd, Nat.reduceSub, Nat.reduceLT, Nat.reduceLeDiff, if_true, Bool.not_true, Bool.not_false, List.map_cons, List.map_nil, List.cons_append, List.nil_append, reduceIte, and_self, and_true, true_and, decide_true, decide_false, Bool.true_and, Bool.and_true, Bool.false_and, Bool.and_false, fin_non, fin_bl, fin_int, fin_str, finX_same', gt_iff_lt, Nat.lt_add_one, Bool.false_eq_true])
    | cons q r =>
      obtain ⟨p, ⟨l, ks⟩⟩ := q
      cases w with
      | zero => omega
      | succ w =>
        rw [szp, sz] at hs ha
        obtain ⟨hsh1, hsh2⟩ := hsh
        rw [dp] at hsh1
        have lk := len_szs ks
        have ls := stk_len r
        obtain ⟨o3', ep⟩ := nodes_push k h (.lst (acc ++ [.tup [.tup p, enc (.mk l ks)]])) l ks p (by omega) (by omega) d0 ks.length (stk r).reverse o3 (Nat.le_refl _) (by rw [List.length_reverse]; omega)
        have e5 : (stk r).reverse ++ ((kp p 0 ks).take ks.length).reverse = (stk (kps p 0 ks ++ r)).reverse := by
          rw [List.take_of_length_le (by rw [kp_len]; exact Nat.le_refl _), kps_stk, List.reverse_append]
        rw [e5] at ep
        obtain ⟨f', er, ef⟩ := ih (kps p 0 ks ++ r) (acc ++ [.tup [.tup p, enc (.mk l ks)]]) o3' (some (.tup p)) (some (enc (.mk l ks))) w (by rw [kps_szp]; omega) (by omega) (kps_short p ks 0 r hsh1 hsh2) (by rw [kps_szp, List.length_append]; simp; omega)
        refine ⟨f', ?_, ef⟩
        have rs : (stk ((p, .mk l ks) :: r)).reverse = (stk r).reverse ++ [.tup [.tup p, enc (.mk l ks)]] := by rw [stk, List.reverse_cons]
        have tst : evT (prog.cx k (callF prog k)) (.e (.cmp .gt (.bi .len (.cons (.v 2) .nil)) (.c (.int 0)))) [d0, some (.loc h.length), some (.loc (h.length + 1)), o3, o4, o5] (h ++ [.box (.lst acc), .box (.lst (stk ((p, .mk l ks) :: r)).reverse)]) =
            .ok true (h ++ [.box (.lst acc), .box (.lst (stk ((p, .mk l ks) :: r)).reverse)]) := by
          have pos : (0 : Int) < ((stk ((p, .mk l ks) :: r)).reverse.length : Int) := by rw [List.length_reverse, stk, List.length_cons]; omega
          simp only [bi_lenb (m2_get1 (h := h)), pos, evSs, evS, evE, evL, evT, evTA, evTO, evF, evSrc, evO, evAnd, evOr, asgT, asgTs, cx_glob, cx_call, shal_int, shal_str, shal_tup, shal_lst, shal_non, shal_bl, bin_addi, bin_subi, bin_addt, bin_addl, bin_adds, bin_mod, bin_div, cmp_lt, cmp_le, cmp_gt, cmp_ge, cmp_eqi, cmp_nei, cmp_eqs, cmp_nes, cmp_ins, cmp_nins, cmp_isn, cmp_isns, item_tup, item_lst, bi_lens, bi_lent, bi_lenl, bi_int, bi_intb, bi_abs, bi_max2, bi_tuplel, bi_tuplet, itD, slice, seqD, pure_non, pure_bl, pure_int, pure_str, pure_tup, pure_lst, pures_nil, pures_cons, startF, List.replicate, List.length_cons, List.length_nil, List.set_cons_zero, List.set_cons_succ, List.getElem?_cons_zero, List.getElem?_cons_succ, List.getElem?_nil, Nat.zero_add, Nat.reduceAdd, Nat.reduceSub, Nat.reduceLT, Nat.reduceLeDiff, if_true, Bool.not_true, Bool.not_false, List.map_cons, List.map_nil, List.cons_append, List.nil_append, reduceIte, and_self, and_true, true_and, decide_true, decide_false, Bool.true_and, Bool.and_true, Bool.false_and, Bool.and_false, fin_non, fin_bl, fin_int, fin_str, finX_same', gt_iff_lt, Nat.lt_add_one, Bool.false_eq_true]
        have e6 : acc.length < LIM := lim_lt' (by omega)
        have l2 : 2 ≤ LIM := by decide
        have ga : evL (prog.cx k (callF prog k)) (.cons (.tup (.cons (.v 4) (.cons (.v 5) .nil))) .nil) [d0, some (.loc h.length), some (.loc (h.length + 1)), o3, some (.tup p), some (enc (.mk l ks))] (h ++ [.box (.lst acc), .box (.lst (stk r).reverse)]) =
            .ok [.tup [.tup p, enc (.mk l ks)]] (h ++ [.box (.lst acc), .box (.lst (stk r).reverse)]) := by
          simp only [l2, evSs, evS, evE, evL, evT, evTA, evTO, evF, evSrc, evO, evAnd, evOr, asgT, asgTs, cx_glob, cx_call, shal_int, shal_str, shal_tup, shal_lst, shal_non, shal_bl, bin_addi, bin_subi, bin_addt, bin_addl, bin_adds, bin_mod, bin_div, cmp_lt, cmp_le, cmp_gt, cmp_ge, cmp_eqi, cmp_nei, cmp_eqs, cmp_nes, cmp_ins, cmp_nins, cmp_isn, cmp_isns, item_tup, item_lst, bi_lens, bi_lent, bi_lenl, bi_int, bi_intb, bi_abs, bi_max2, bi_tuplel, bi_tuplet, itD, slice, seqD, pure_non, pure_bl, pure_int, pure_str, pure_tup, pure_lst, pures_nil, pures_cons, startF, List.replicate, List.length_cons, List.length_nil, List.set_cons_zero, List.set_cons_succ, List.getElem?_cons_zero, List.getElem?_cons_succ, List.getElem?_nil, Nat.zero_add, Nat.reduceAdd, Nat.reduceSub, Nat.reduceLT, Nat.reduceLeDiff, if_true, Bool.not_true, Bool.not_false, List.map_cons, List.map_nil, List.cons_append, List.nil_append, reduceIte, and_self, and_true, true_and, decide_true, decide_false, Bool.true_and, Bool.and_true, Bool.false_and, Bool.and_false, fin_non, fin_bl, fin_int, fin_str, finX_same', gt_iff_lt, Nat.lt_add_one, Bool.false_eq_true]
        have er2 : rngD [.int ((ks.length : Int) + 1 - 1), .int 0, .int (-1)] = some (rngL (ks.length : Int) (-1) ks.length) := by
          have s1 : small62 ((ks.length : Int)) = true := by unfold small62; simp; omega
          have e7 : (ks.length : Int) + 1 - 1 = ks.length := by omega
          rw [e7]
          simp only [rngD, s1]
          rw [if_pos (by decide)]
          simp
        have body : evSs (prog.cx k (callF prog k)) b_nodes_1 [d0, some (.loc h.length), some (.loc (h.length + 1)), o3, o4, o5] (h ++ [.box (.lst acc), .box (.lst (stk ((p, .mk l ks) :: r)).reverse)]) =
            .nx [d0, some (.loc h.length), some (.loc (h.length + 1)), o3', some (.tup p), some (enc (.mk l ks))] (h ++ [.box (.lst (acc ++ [.tup [.tup p, enc (.mk l ks)]])), .box (.lst (stk (kps p 0 ks ++ r)).reverse)]) := by
          have q1 := ev_mt (C := prog.cx k (callF prog k)) (o := .v 2) (es := .nil) (σ := [d0, some (.loc h.length), some (.loc (h.length + 1)), o3, o4, o5]) (h := h ++ [.box (.lst acc), .box (.lst (stk ((p, .mk l ks) :: r)).reverse)]) (ev_v rfl) m2_get1 (by rw [evL]) (mt_pop0 m2_get1 rs)
          rw [b_nodes_1, evSs, evS, q1]
          simp only [m2_set1, asgT, asgTs, List.length_cons, List.length_nil, List.set_cons_zero, List.set_cons_succ, Nat.reduceAdd, Nat.reduceLT, if_true]
          rw [evSs, evS, ev_mt (ev_v rfl) m2_get0 ga (mt_append m2_get0 e6)]
          simp only [m2_set0]
          rw [evSs, evS, evSrc]
          have ea : evL (prog.cx k (callF prog k)) (.cons (.bin .sub (.bi .len (.cons (.v 5) .nil)) (.c (.int 1))) (.cons (.c (.int 0)) (.cons (.neg (.c (.int 1))) .nil))) [d0, some (.loc h.length), some (.loc (h.length + 1)), o3, some (.tup p), some (enc (.mk l ks))] (h ++ [.box (.lst (acc ++ [.tup [.tup p, enc (.mk l ks)]])), .box (.lst (stk r).reverse)]) =
              .ok [.int ((ks.length : Int) + 1 - 1), .int 0, .int (-1)] (h ++ [.box (.lst (acc ++ [.tup [.tup p, enc (.mk l ks)]])), .box (.lst (stk r).reverse)]) := by
            have el : ((encs ks).length : Int) = ks.length := by rw [encs_len]
            have e8 : (((encs ks).length + 1 : Nat) : Int) = (ks.length : Int) + 1 := by rw [encs_len]; omega
            rw [show enc (.mk l ks) = .tup (.str l :: encs ks) from by rw [enc]]
            simp only [e8, evSs, evS, evE, evL, evT, evTA, evTO, evF, evSrc, evO, evAnd, evOr, asgT, asgTs, cx_glob, cx_call, shal_int, shal_str, shal_tup, shal_lst, shal_non, shal_bl, bin_addi, bin_subi, bin_addt, bin_addl, bin_adds, bin_mod, bin_div, cmp_lt, cmp_le, cmp_gt, cmp_ge, cmp_eqi, cmp_nei, cmp_eqs, cmp_nes, cmp_ins, cmp_nins, cmp_isn, cmp_isns, item_tup, item_lst, bi_lens, bi_lent, bi_lenl, bi_int, bi_intb, bi_abs, bi_max2, bi_tuplel, bi_tuplet, itD, slice, seqD, pure_non, pure_bl, pure_int, pure_str, pure_tup, pure_lst, pures_nil, pures_cons, startF, List.replicate, List.length_cons, List.length_nil, List.set_cons_zero, List.set_cons_succ, List.getElem?_cons_zero, List.getElem?_cons_succ, List.getElem?_nil, Nat.zero_add, Nat.reduceAdd, Nat.reduceSub, Nat.reduceLT, Nat.reduceLeDiff, if_true, Bool.not_true, Bool.not_false, List.map_cons, List.map_nil, List.cons_append, List.nil_append, reduceIte, and_self, and_true, true_and, decide_true, decide_false, Bool.true_and, Bool.and_true, Bool.false_and, Bool.and_false, fin_non, fin_bl, fin_int, fin_str, finX_same', gt_iff_lt, Nat.lt_add_one, Bool.false_eq_true]
          rw [ea]
          dsimp only
          rw [er2]
          dsimp only
          rw [ep]
          simp only [evSs]
        rw [whileL, tst]
        dsimp only
        rw [body]
        dsimp only
        rw [er, outs, nds, kps_outs, List.append_assoc]
        rfl
theorem pures_app : ∀ (a b : List D), D.pures (a ++ b) = (D.pures a && D.pures b)
  | [], b => rfl
  | x :: a, b => by rw [List.cons_append, D.pures, D.pures, pures_app a b, Bool.and_assoc]
mutual
theorem nds_pure (p : List D) (hp : D.pures p = true) : ∀ d : Doc, D.pures (nds p d) = true
  | .mk l ks => by
    have := ndss_pure p hp 0 ks
    have e := enc_pure (.mk l ks)
    simp only [nds, pures_cons, pure_tup, pures_nil, hp, e, this, Bool.and_self]
theorem ndss_pure (p : List D) (hp : D.pures p = true) : ∀ (i : Nat) (ds : List Doc), D.pures (ndss p i ds) = true
  | _, [] => rfl
  | i, d :: ds => by
    have hq : D.pures (p ++ [D.int (i : Int)]) = true := by rw [pures_app, hp]; rfl
    have h1 := nds_pure (p ++ [D.int (i : Int)]) hq d
    rw [ndss, pures_app, h1, ndss_pure p hp (i + 1) ds]
    rfl
end
theorem nodes_ok (k : Nat) (d : Doc) (h : Mem) (hs : sz d ≤ 800) : callF prog (k + 1) i_nodes [enc d] h = .ok (.lst (nds [] d)) h := by
  rw [callF_succ (fd := d_nodes) rfl ⟨rfl, by decide⟩]
  have l2 : 2 ≤ LIM := by decide
  have hd := dp_sz d
  obtain ⟨f', e, ef⟩ := nodes_loop k h (some (enc d)) (sz d) [([], d)] [] none none none WF (by simp [szp]) (Nat.lt_of_le_of_lt hs (by decide)) ⟨by simp; omega, trivial⟩ (by simp [szp]; omega)
  have e0 : (0 : Nat) ≤ LIM := by decide
  have e1 : 1 ≤ LIM := by decide
  simp only [d_nodes, startF, List.map_cons, List.map_nil, List.length_cons, List.length_nil, List.replicate, Nat.reduceAdd, Nat.reduceSub, List.cons_append, List.nil_append, evSs, evS]
  simp only [evE, evF, evL, e0, l2, e1, List.length_nil, List.length_cons, if_true, asgT, List.set_cons_zero, List.set_cons_succ, Nat.reduceAdd, Nat.reduceLT, List.getElem?_cons_zero, List.getElem?_cons_succ, m1_len, m1_app]
  simp only [stk, List.reverse_cons, List.reverse_nil, List.nil_append] at e
  rw [e]
  dsimp only
  rw [ef]
  dsimp only
  rw [m2_get0]
  dsimp only
  rw [m2_set0, fin_app ?_ rfl]
  · simp [outs]
  · refine D.pure_ok _ _ ?_
    show D.pures ([] ++ outs [([], d)]) = true
    simp only [outs, List.nil_append, List.append_nil]
    exact nds_pure [] rfl d
end K21
namespace K21
open Ev
mutual
def okd : Doc → Bool
  | .mk l ks => lab l && decide (ks.length ≤ 3) && okds ks
def okds : List Doc → Bool
  | [] => true
  | d :: ds => okd d && okds ds
end
theorem lab_len {l : List Nat} (h : lab l = true) : l.length ≤ 12 := by
  cases l with
  | nil => cases h
  | cons c r =>
    simp only [lab, Bool.and_eq_true, decide_eq_true_eq] at h
    simp
    omega
theorem check_turn (k : Nat) (h : Mem) (l : List Nat) (ks : List Doc) (a b c p : Option D) (hl : l.length ≤ 1000) : evSs (prog.cx (k + 1) (callF prog (k + 1))) b_check_document_0 [a, b, c, p, some (enc (.mk l ks))] h =
    if lab l = true ∧ ks.length ≤ 3 then .nx [a, b, c, p, some (enc (.mk l ks))] h else .exc 1 .non [a, b, c, p, some (enc (.mk l ks))] h := by
  have a0 : atI (D.str l :: encs ks) 0 = some (.str l) := atI_nat (i := 0)
  have il := is_label_ok k l h hl
  rw [show enc (.mk l ks) = .tup (.str l :: encs ks) from by rw [enc]]
  cases q : lab l with
  | false =>
    rw [q] at il
    rw [if_neg (by simp)]
    simp only [b_check_document_0, a0, il, evSs, evS, evE, evL, evT, evTA, evTO, evF, evSrc, evO, evAnd, evOr, asgT, asgTs, cx_glob, cx_call, shal_int, shal_str, shal_tup, shal_lst, shal_non, shal_bl, bin_addi, bin_subi, bin_addt, bin_addl, bin_adds, bin_mod, bin_div, cmp_lt, cmp_le, cmp_gt, cmp_ge, cmp_eqi, cmp_nei, cmp_eqs, cmp_nes, cmp_ins, cmp_nins, cmp_isn, cmp_isns, item_tup, item_lst, bi_lens, bi_lent, bi_lenl, bi_int, bi_intb, bi_abs, bi_max2, bi_tuplel, bi_tuplet, itD, slice, seqD, pure_non, pure_bl, pure_int, pure_str, pure_tup, pure_lst, pures_nil, pures_cons, startF, List.replicate, List.length_cons, List.length_nil, List.set_cons_zero, List.set_cons_succ, List.getElem?_cons_zero, List.getElem?_cons_succ, List.getElem?_nil, Nat.zero_add, Nat.reduceAdd, Nat.reduceSub, Nat.reduceLT, Nat.reduceLeDiff, if_true, Bool.not_true, Bool.not_false, List.map_cons, List.map_nil, List.cons_append, List.nil_append, reduceIte, and_self, and_true, true_and, decide_true, decide_false, Bool.true_and, Bool.and_true, Bool.false_and, Bool.and_false, fin_non, fin_bl, fin_int, fin_str, finX_same', gt_iff_lt, Nat.lt_add_one, Bool.false_eq_true]
  | true =>
    rw [q] at il
    have e : (((encs ks).length + 1 : Nat) : Int) - 1 = (ks.length : Int) := by rw [encs_len]; omega
    by_cases hk : ks.length ≤ 3
    · rw [if_pos ⟨rfl, hk⟩]
      have : ¬ (3 : Int) < (ks.length : Int) := by omega
      simp only [b_check_document_0, a0, il, e, gl1, this, evSs, evS, evE, evL, evT, evTA, evTO, evF, evSrc, evO, evAnd, evOr, asgT, asgTs, cx_glob, cx_call, shal_int, shal_str, shal_tup, shal_lst, shal_non, shal_bl, bin_addi, bin_subi, bin_addt, bin_addl, bin_adds, bin_mod, bin_div, cmp_lt, cmp_le, cmp_gt, cmp_ge, cmp_eqi, cmp_nei, cmp_eqs, cmp_nes, cmp_ins, cmp_nins, cmp_isn, cmp_isns, item_tup, item_lst, bi_lens, bi_lent, bi_lenl, bi_int, bi_intb, bi_abs, bi_max2, bi_tuplel, bi_tuplet, itD, slice, seqD, pure_non, pure_bl, pure_int, pure_str, pure_tup, pure_lst, pures_nil, pures_cons, startF, List.replicate, List.length_cons, List.length_nil, List.set_cons_zero, List.set_cons_succ, List.getElem?_cons_zero, List.getElem?_cons_succ, List.getElem?_nil, Nat.zero_add, Nat.reduceAdd, Nat.reduceSub, Nat.reduceLT, Nat.reduceLeDiff, if_true, Bool.not_true, Bool.not_false, List.map_cons, List.map_nil, List.cons_append, List.nil_append, reduceIte, and_self, and_true, true_and, decide_true, decide_false, Bool.true_and, Bool.and_true, Bool.false_and, Bool.and_false, fin_non, fin_bl, fin_int, fin_str, finX_same', gt_iff_lt, Nat.lt_add_one, Bool.false_eq_true]
    · rw [if_neg (fun z => hk z.2)]
      have : (3 : Int) < (ks.length : Int) := by omega
      simp only [b_check_document_0, a0, il, e, gl1, this, evSs, evS, evE, evL, evT, evTA, evTO, evF, evSrc, evO, evAnd, evOr, asgT, asgTs, cx_glob, cx_call, shal_int, shal_str, shal_tup, shal_lst, shal_non, shal_bl, bin_addi, bin_subi, bin_addt, bin_addl, bin_adds, bin_mod, bin_div, cmp_lt, cmp_le, cmp_gt, cmp_ge, cmp_eqi, cmp_nei, cmp_eqs, cmp_nes, cmp_ins, cmp_nins, cmp_isn, cmp_isns, item_tup, item_lst, bi_lens, bi_lent, bi_lenl, bi_int, bi_intb, bi_abs, bi_max2, bi_tuplel, bi_tuplet, itD, slice, seqD, pure_non, pure_bl, pure_int, pure_str, pure_tup, pure_lst, pures_nil, pures_cons, startF, List.replicate, List.length_cons, List.length_nil, List.set_cons_zero, List.set_cons_succ, List.getElem?_cons_zero, List.getElem?_cons_succ, List.getElem?_nil, Nat.zero_add, Nat.reduceAdd, Nat.reduceSub, Nat.reduceLT, Nat.reduceLeDiff, if_true, Bool.not_true, Bool.not_false, List.map_cons, List.map_nil, List.cons_append, List.nil_append, reduceIte, and_self, and_true, true_and, decide_true, decide_false, Bool.true_and, Bool.and_true, Bool.false_and, Bool.and_false, fin_non, fin_bl, fin_int, fin_str, finX_same', gt_iff_lt, Nat.lt_add_one, Bool.false_eq_true]
mutual
theorem check_loop (k : Nat) (h : Mem) (a b c : Option D) : ∀ (d : Doc) (p : List D) (o3 o4 : Option D) (ys : List D), okd d = true →
    ∃ o3' o4', forL (evSs (prog.cx (k + 1) (callF prog (k + 1))) b_check_document_0) (.tp (.cons (.nm 3) (.cons (.nm 4) .nil))) (nds p d ++ ys) [a, b, c, o3, o4] h = forL (evSs (prog.cx (k + 1) (callF prog (k + 1))) b_check_document_0) (.tp (.cons (.nm 3) (.cons (.nm 4) .nil))) ys [a, b, c, o3', o4'] h
  | .mk l ks, p, o3, o4, ys, ok => by
    rw [okd, Bool.and_eq_true, Bool.and_eq_true, decide_eq_true_eq] at ok
    obtain ⟨⟨ok1, ok2⟩, ok3⟩ := ok
    obtain ⟨o3', o4', e⟩ := check_loops k h a b c ks p 0 (some (.tup p)) (some (enc (.mk l ks))) ys ok3
    refine ⟨o3', o4', ?_⟩
    have tn := check_turn k h l ks a b c (some (.tup p)) (by have := lab_len ok1; omega)
    rw [if_pos ⟨ok1, ok2⟩] at tn
    rw [nds, List.cons_append, forL_nx rfl tn, e]
theorem check_loops (k : Nat) (h : Mem) (a b c : Option D) : ∀ (ds : List Doc) (p : List D) (i : Nat) (o3 o4 : Option D) (ys : List D), okds ds = true →
    ∃ o3' o4', forL (evSs (prog.cx (k + 1) (callF prog (k + 1))) b_check_document_0) (.tp (.cons (.nm 3) (.cons (.nm 4) .nil))) (ndss p i ds ++ ys) [a, b, c, o3, o4] h = forL (evSs (prog.cx (k + 1) (callF prog (k + 1))) b_check_document_0) (.tp (.cons (.nm 3) (.cons (.nm 4) .nil))) ys [a, b, c, o3', o4'] h
  | [], p, i, o3, o4, ys, _ => ⟨o3, o4, by rw [ndss, List.nil_append]⟩
  | d :: ds, p, i, o3, o4, ys, ok => by
    rw [okds, Bool.and_eq_true] at ok
    obtain ⟨q3, q4, e1⟩ := check_loop k h a b c d (p ++ [D.int (i : Int)]) o3 o4 (ndss p (i + 1) ds ++ ys) ok.1
    obtain ⟨r3, r4, e2⟩ := check_loops k h a b c ds p (i + 1) q3 q4 ys ok.2
    refine ⟨r3, r4, ?_⟩
    rw [ndss, List.append_assoc, e1, e2]
end
theorem check_ok (k : Nat) (d : Doc) (h : Mem) (ok : okd d = true) (hs : sz d ≤ 300) (hd : dp d ≤ 40) (hk : 41 ≤ k) : callF prog (k + 1) i_check_document [enc d] h = .ok .non h := by
  obtain ⟨k, rfl⟩ : ∃ j, k = j + 1 := ⟨k - 1, by omega⟩
  rw [callF_succ (fd := d_check_document) rfl ⟨rfl, by decide⟩]
  have hm := measured_ok (k + 1) d h (by omega)
  have hn := nodes_ok k d h (by omega)
  have s1 : ¬ (300 : Int) < (sz d : Int) := by omega
  have s2 : ¬ (40 : Int) < (dp d : Int) := by omega
  obtain ⟨o3, o4, e⟩ := check_loop k h (some (enc d)) (some (.int (sz d))) (some (.int (dp d))) d [] none none [] ok
  rw [List.append_nil] at e
  simp only [d_check_document, hm, hn, s1, s2, gl2, gl3, e, forL, evSs, evS, evE, evL, evT, evTA, evTO, evF, evSrc, evO, evAnd, evOr, asgT, asgTs, cx_glob, cx_call, shal_int, shal_str, shal_tup, shal_lst, shal_non, shal_bl, bin_addi, bin_subi, bin_addt, bin_addl, bin_adds, bin_mod, bin_div, cmp_lt, cmp_le, cmp_gt, cmp_ge, cmp_eqi, cmp_nei, cmp_eqs, cmp_nes, cmp_ins, cmp_nins, cmp_isn, cmp_isns, item_tup, item_lst, bi_lens, bi_lent, bi_lenl, bi_int, bi_intb, bi_abs, bi_max2, bi_tuplel, bi_tuplet, itD, slice, seqD, pure_non, pure_bl, pure_int, pure_str, pure_tup, pure_lst, pures_nil, pures_cons, startF, List.replicate, List.length_cons, List.length_nil, List.set_cons_zero, List.set_cons_succ, List.getElem?_cons_zero, List.getElem?_cons_succ, List.getElem?_nil, Nat.zero_add, Nat.reduceAdd, Nat.reduceSub, Nat.reduceLT, Nat.reduceLeDiff, if_true, Bool.not_true, Bool.not_false, List.map_cons, List.map_nil, List.cons_append, List.nil_append, reduceIte, and_self, and_true, true_and, decide_true, decide_false, Bool.true_and, Bool.and_true, Bool.false_and, Bool.and_false, fin_non, fin_bl, fin_int, fin_str, finX_same', gt_iff_lt, Nat.lt_add_one, Bool.false_eq_true]
theorem check_bad (k : Nat) (l : List Nat) (h : Mem) (hl : l.length ≤ 1000) (bad : lab l = false) : callF prog (k + 3) i_check_document [enc (.mk l [])] h = .exc 1 .non h := by
  rw [callF_succ (fd := d_check_document) rfl ⟨rfl, by decide⟩]
  have hm := measured_ok (k + 2) (.mk l []) h (by simp [dp, dps])
  have hn := nodes_ok (k + 1) (.mk l []) h (by simp [sz, szs])
  have tn := check_turn (k + 1) h l [] (some (enc (.mk l []))) (some (.int 1)) (some (.int 0)) (some (.tup [])) hl
  rw [if_neg (by rw [bad]; simp)] at tn
  have z1 : sz (.mk l []) = 1 := rfl
  have z2 : dp (.mk l []) = 0 := rfl
  rw [z1, z2] at hm
  have f1 : forL (evSs (prog.cx (k + 2) (callF prog (k + 2))) b_check_document_0) (.tp (.cons (.nm 3) (.cons (.nm 4) .nil))) (nds [] (.mk l [])) [some (enc (.mk l [])), some (.int 1), some (.int 0), none, none] h = .exc 1 .non [some (enc (.mk l [])), some (.int 1), some (.int 0), some (.tup []), some (enc (.mk l []))] h := by
    rw [nds, ndss, forL]
    simp only [asgT, asgTs, List.length_cons, List.length_nil, List.set_cons_succ, List.set_cons_zero, Nat.reduceAdd, Nat.reduceLT, if_true]
    rw [tn]
  have s1 : ¬ (300 : Int) < 1 := by omega
  have s2 : ¬ (40 : Int) < 0 := by omega
  simp only [d_check_document, hm, hn, s1, s2, gl2, gl3, f1, Int.natCast_one, Int.natCast_zero, Int.ofNat_one, Int.cast_ofNat_Int, evSs, evS, evE, evL, evT, evTA, evTO, evF, evSrc, evO, evAnd, evOr, asgT, asgTs, cx_glob, cx_call, shal_int, shal_str, shal_tup, shal_lst, shal_non, shal_bl, bin_addi, bin_subi, bin_addt, bin_addl, bin_adds, bin_mod, bin_div, cmp_lt, cmp_le, cmp_gt, cmp_ge, cmp_eqi, cmp_nei, cmp_eqs, cmp_nes, cmp_ins, cmp_nins, cmp_isn, cmp_isns, item_tup, item_lst, bi_lens, bi_lent, bi_lenl, bi_int, bi_intb, bi_abs, bi_max2, bi_tuplel, bi_tuplet, itD, slice, seqD, pure_non, pure_bl, pure_int, pure_str, pure_tup, pure_lst, pures_nil, pures_cons, startF, List.replicate, List.length_cons, List.length_nil, List.set_cons_zero, List.set_cons_succ, List.getElem?_cons_zero, List.getElem?_cons_succ, List.getElem?_nil, Nat.zero_add, Nat.reduceAdd, Nat.reduceSub, Nat.reduceLT, Nat.reduceLeDiff, if_true, Bool.not_true, Bool.not_false, List.map_cons, List.map_nil, List.cons_append, List.nil_append, reduceIte, and_self, and_true, true_and, decide_true, decide_false, Bool.true_and, Bool.and_true, Bool.false_and, Bool.and_false, fin_non, fin_bl, fin_int, fin_str, finX_same', gt_iff_lt, Nat.lt_add_one, Bool.false_eq_true]
theorem check_large (k : Nat) (d : Doc) (h : Mem) (hk : dp d < k) (big : 300 < sz d ∨ 40 < dp d) : callF prog (k + 1) i_check_document [enc d] h = .exc 2 .non h := by
  rw [callF_succ (fd := d_check_document) rfl ⟨rfl, by decide⟩]
  have hm := measured_ok k d h hk
  by_cases s1 : (300 : Int) < (sz d : Int)
  · simp only [d_check_document, hm, s1, gl2, evSs, evS, evE, evL, evT, evTA, evTO, evF, evSrc, evO, evAnd, evOr, asgT, asgTs, cx_glob, cx_call, shal_int, shal_str, shal_tup, shal_lst, shal_non, shal_bl, bin_addi, bin_subi, bin_addt, bin_addl, bin_adds, bin_mod, bin_div, cmp_lt, cmp_le, cmp_gt, cmp_ge, cmp_eqi, cmp_nei, cmp_eqs, cmp_nes, cmp_ins, cmp_nins, cmp_isn, cmp_isns, item_tup, item_lst, bi_lens, bi_lent, bi_lenl, bi_int, bi_intb, bi_abs, bi_max2, bi_tuplel, bi_tuplet, itD, slice, seqD, pure_non, pure_bl, pure_int, pure_str, pure_tup, pure_lst, pures_nil, pures_cons, startF, List.replicate, List.length_cons, List.length_nil, List.set_cons_zero, List.set_cons_succ, List.getElem?_cons_zero, List.getElem?_cons_succ, List.getElem?_nil, Nat.zero_add, Nat.reduceAdd, Nat.reduceSub, Nat.reduceLT, Nat.reduceLeDiff, if_true, Bool.not_true, Bool.not_false, List.map_cons, List.map_nil, List.cons_append, List.nil_append, reduceIte, and_self, and_true, true_and, decide_true, decide_false, Bool.true_and, Bool.and_true, Bool.false_and, Bool.and_false, fin_non, fin_bl, fin_int, fin_str, finX_same', gt_iff_lt, Nat.lt_add_one, Bool.false_eq_true]
  · have s2 : (40 : Int) < (dp d : Int) := by omega
    simp only [d_check_document, hm, s1, s2, gl2, gl3, evSs, evS, evE, evL, evT, evTA, evTO, evF, evSrc, evO, evAnd, evOr, asgT, asgTs, cx_glob, cx_call, shal_int, shal_str, shal_tup, shal_lst, shal_non, shal_bl, bin_addi, bin_subi, bin_addt, bin_addl, bin_adds, bin_mod, bin_div, cmp_lt, cmp_le, cmp_gt, cmp_ge, cmp_eqi, cmp_nei, cmp_eqs, cmp_nes, cmp_ins, cmp_nins, cmp_isn, cmp_isns, item_tup, item_lst, bi_lens, bi_lent, bi_lenl, bi_int, bi_intb, bi_abs, bi_max2, bi_tuplel, bi_tuplet, itD, slice, seqD, pure_non, pure_bl, pure_int, pure_str, pure_tup, pure_lst, pures_nil, pures_cons, startF, List.replicate, List.length_cons, List.length_nil, List.set_cons_zero, List.set_cons_succ, List.getElem?_cons_zero, List.getElem?_cons_succ, List.getElem?_nil, Nat.zero_add, Nat.reduceAdd, Nat.reduceSub, Nat.reduceLT, Nat.reduceLeDiff, if_true, Bool.not_true, Bool.not_false, List.map_cons, List.map_nil, List.cons_append, List.nil_append, reduceIte, and_self, and_true, true_and, decide_true, decide_false, Bool.true_and, Bool.and_true, Bool.false_and, Bool.and_false, fin_non, fin_bl, fin_int, fin_str, finX_same', gt_iff_lt, Nat.lt_add_one, Bool.false_eq_true]
end K21
end
section
set_option Elab.async false
set_option autoImplicit false
set_option maxRecDepth 100000
set_option linter.all false
/-! N2: merging. -/
namespace K21
open Ev
def ml (b f s : List Nat) : Option (List Nat) := if f = s ∨ s = b then some f else if f = b then some s else none
def oD : Option (List Nat) → D
  | some l => .str l
  | none => .non
def pk (c : Nat) {α : Type} (b f s : α) : α := if c = 0 then b else if c = 1 then f else s
mutual
def mg (ch : Nat → Nat) : Doc → Doc → Doc → List D → Nat → Doc × List D
  | .mk lb kb, f, s, p, n =>
    if f = s ∨ s = .mk lb kb then (f, []) else if f = .mk lb kb then (s, []) else
    if kb.length ≠ f.ks.length ∨ kb.length ≠ s.ks.length then (pk (ch n) (.mk lb kb) f s, [.tup p]) else
    match ml lb f.lb s.lb with
    | some l => let r := mgs ch kb f.ks s.ks p 0 n; (.mk l r.1, r.2)
    | none => let r := mgs ch kb f.ks s.ks p 0 (n + 1); (.mk (pk (ch n) lb f.lb s.lb) r.1, .tup p :: r.2)
def mgs (ch : Nat → Nat) : List Doc → List Doc → List Doc → List D → Nat → Nat → List Doc × List D
  | b :: bs, f :: fs, s :: ss, p, i, n => let r := mg ch b f s (p ++ [.int i]) n; let t := mgs ch bs fs ss p (i + 1) (n + r.2.length); (r.1 :: t.1, r.2 ++ t.2)
  | _, _, _, _, _, _ => ([], [])
end
theorem merged_label_ok (k : Nat) (b f s : List Nat) (h : Mem) : callF prog (k + 1) i_merged_label [.str b, .str f, .str s] h = .ok (oD (ml b f s)) h := by
  rw [callF_succ (fd := d_merged_label) rfl ⟨rfl, by decide⟩]
  unfold ml
  by_cases h1 : f = s
  · subst h1
    simp [d_merged_label, evSs, evS, evE, evL, evT, evTA, evTO, evF, evSrc, evO, evAnd, evOr, asgT, asgTs, cx_glob, cx_call, shal_int, shal_str, shal_tup, shal_lst, shal_non, shal_bl, bin_addi, bin_subi, bin_addt, bin_addl, bin_adds, bin_mod, bin_div, cmp_lt, cmp_le, cmp_gt, cmp_ge, cmp_eqi, cmp_nei, cmp_eqs, cmp_nes, cmp_ins, cmp_nins, cmp_isn, cmp_isns, item_tup, item_lst, bi_lens, bi_lent, bi_lenl, bi_int, bi_intb, bi_abs, bi_max2, bi_tuplel, bi_tuplet, itD, slice, seqD, pure_non, pure_bl, pure_int, pure_str, pure_tup, pure_lst, pures_nil, pures_cons, startF, List.replicate, List.length_cons, List.length_nil, List.set_cons_zero, List.set_cons_succ, List.getElem?_cons_zero, List.getElem?_cons_succ, List.getElem?_nil, Nat.zero_add, Nat.reduceAdd, Nat.reduceSub, Nat.reduceLT, Nat.reduceLeDiff, if_true, Bool.not_true, Bool.not_false, List.map_cons, List.map_nil, List.cons_append, List.nil_append, reduceIte, and_self, and_true, true_and, decide_true, decide_false, Bool.true_and, Bool.and_true, Bool.false_and, Bool.and_false, fin_non, fin_bl, fin_int, fin_str, finX_same', gt_iff_lt, Nat.lt_add_one, Bool.false_eq_true, oD]
  · by_cases h2 : s = b
    · subst h2
      simp [d_merged_label, h1, evSs, evS, evE, evL, evT, evTA, evTO, evF, evSrc, evO, evAnd, evOr, asgT, asgTs, cx_glob, cx_call, shal_int, shal_str, shal_tup, shal_lst, shal_non, shal_bl, bin_addi, bin_subi, bin_addt, bin_addl, bin_adds, bin_mod, bin_div, cmp_lt, cmp_le, cmp_gt, cmp_ge, cmp_eqi, cmp_nei, cmp_eqs, cmp_nes, cmp_ins, cmp_nins, cmp_isn, cmp_isns, item_tup, item_lst, bi_lens, bi_lent, bi_lenl, bi_int, bi_intb, bi_abs, bi_max2, bi_tuplel, bi_tuplet, itD, slice, seqD, pure_non, pure_bl, pure_int, pure_str, pure_tup, pure_lst, pures_nil, pures_cons, startF, List.replicate, List.length_cons, List.length_nil, List.set_cons_zero, List.set_cons_succ, List.getElem?_cons_zero, List.getElem?_cons_succ, List.getElem?_nil, Nat.zero_add, Nat.reduceAdd, Nat.reduceSub, Nat.reduceLT, Nat.reduceLeDiff, if_true, Bool.not_true, Bool.not_false, List.map_cons, List.map_nil, List.cons_append, List.nil_append, reduceIte, and_self, and_true, true_and, decide_true, decide_false, Bool.true_and, Bool.and_true, Bool.false_and, Bool.and_false, fin_non, fin_bl, fin_int, fin_str, finX_same', gt_iff_lt, Nat.lt_add_one, Bool.false_eq_true, oD]
    · by_cases h3 : f = b
      · subst h3
        simp [d_merged_label, h1, h2, evSs, evS, evE, evL, evT, evTA, evTO, evF, evSrc, evO, evAnd, evOr, asgT, asgTs, cx_glob, cx_call, shal_int, shal_str, shal_tup, shal_lst, shal_non, shal_bl, bin_addi, bin_subi, bin_addt, bin_addl, bin_adds, bin_mod, bin_div, cmp_lt, cmp_le, cmp_gt, cmp_ge, cmp_eqi, cmp_nei, cmp_eqs, cmp_nes, cmp_ins, cmp_nins, cmp_isn, cmp_isns, item_tup, item_lst, bi_lens, bi_lent, bi_lenl, bi_int, bi_intb, bi_abs, bi_max2, bi_tuplel, bi_tuplet, itD, slice, seqD, pure_non, pure_bl, pure_int, pure_str, pure_tup, pure_lst, pures_nil, pures_cons, startF, List.replicate, List.length_cons, List.length_nil, List.set_cons_zero, List.set_cons_succ, List.getElem?_cons_zero, List.getElem?_cons_succ, List.getElem?_nil, Nat.zero_add, Nat.reduceAdd, Nat.reduceSub, Nat.reduceLT, Nat.reduceLeDiff, if_true, Bool.not_true, Bool.not_false, List.map_cons, List.map_nil, List.cons_append, List.nil_append, reduceIte, and_self, and_true, true_and, decide_true, decide_false, Bool.true_and, Bool.and_true, Bool.false_and, Bool.and_false, fin_non, fin_bl, fin_int, fin_str, finX_same', gt_iff_lt, Nat.lt_add_one, Bool.false_eq_true, oD]
      · simp [d_merged_label, h1, h2, h3, evSs, evS, evE, evL, evT, evTA, evTO, evF, evSrc, evO, evAnd, evOr, asgT, asgTs, cx_glob, cx_call, shal_int, shal_str, shal_tup, shal_lst, shal_non, shal_bl, bin_addi, bin_subi, bin_addt, bin_addl, bin_adds, bin_mod, bin_div, cmp_lt, cmp_le, cmp_gt, cmp_ge, cmp_eqi, cmp_nei, cmp_eqs, cmp_nes, cmp_ins, cmp_nins, cmp_isn, cmp_isns, item_tup, item_lst, bi_lens, bi_lent, bi_lenl, bi_int, bi_intb, bi_abs, bi_max2, bi_tuplel, bi_tuplet, itD, slice, seqD, pure_non, pure_bl, pure_int, pure_str, pure_tup, pure_lst, pures_nil, pures_cons, startF, List.replicate, List.length_cons, List.length_nil, List.set_cons_zero, List.set_cons_succ, List.getElem?_cons_zero, List.getElem?_cons_succ, List.getElem?_nil, Nat.zero_add, Nat.reduceAdd, Nat.reduceSub, Nat.reduceLT, Nat.reduceLeDiff, if_true, Bool.not_true, Bool.not_false, List.map_cons, List.map_nil, List.cons_append, List.nil_append, reduceIte, and_self, and_true, true_and, decide_true, decide_false, Bool.true_and, Bool.and_true, Bool.false_and, Bool.and_false, fin_non, fin_bl, fin_int, fin_str, finX_same', gt_iff_lt, Nat.lt_add_one, Bool.false_eq_true, oD]
theorem set_len {h : Mem} {n : Nat} {o : Ob} : (h.set n o).length = h.length := by simp
theorem get_lt {h : Mem} {n : Nat} {o : Ob} (e : h[n]? = some o) : n < h.length := (List.getElem?_eq_some_iff.mp e).1
theorem app_get {h t : Mem} {n : Nat} (l : n < h.length) : (h ++ t)[n]? = h[n]? := List.getElem?_append_left l
theorem app_set {h t : Mem} {n : Nat} {o : Ob} (l : n < h.length) : (h ++ t).set n o = h.set n o ++ t := List.set_append_left _ _ l
theorem set_get {h : Mem} {n : Nat} {o : Ob} (l : n < h.length) : (h.set n o)[n]? = some o := List.getElem?_set_self l
theorem set_same {h : Mem} {n : Nat} {o : Ob} (e : h[n]? = some o) : h.set n o = h := by
  refine List.ext_getElem? fun j => ?_
  by_cases q : n = j
  · subst q
    rw [List.getElem?_set_self (get_lt e), e]
  · rw [List.getElem?_set_ne q]
mutual
theorem mg_len (ch : Nat → Nat) : ∀ (b f s : Doc) (p : List D) (n : Nat), (mg ch b f s p n).2.length ≤ sz b
  | .mk lb kb, f, s, p, n => by
    have h0 := mgs_len ch kb f.ks s.ks p 0 n
    have h1 := mgs_len ch kb f.ks s.ks p 0 (n + 1)
    rw [mg, sz]
    split
    · exact Nat.zero_le _
    · split
      · exact Nat.zero_le _
      · split
        · simp
        · split
          · dsimp only; omega
          · dsimp only; rw [List.length_cons]; omega
theorem mgs_len (ch : Nat → Nat) : ∀ (b f s : List Doc) (p : List D) (i n : Nat), (mgs ch b f s p i n).2.length ≤ szs b
  | [], _, _, _, _, _ => by simp [mgs]
  | b :: bs, [], _, _, _, _ => by simp [mgs]
  | b :: bs, f :: fs, [], _, _, _ => by simp [mgs]
  | b :: bs, f :: fs, s :: ss, p, i, n => by
    have h0 := mg_len ch b f s (p ++ [.int (i : Int)]) n
    have h1 := mgs_len ch bs fs ss p (i + 1) (n + (mg ch b f s (p ++ [.int (i : Int)]) n).2.length)
    rw [mgs, szs]
    dsimp only
    rw [List.length_append]
    omega
end
mutual
theorem mg_pure (ch : Nat → Nat) : ∀ (b f s : Doc) (p : List D) (n : Nat), D.pures p = true → D.pures (mg ch b f s p n).2 = true
  | .mk lb kb, f, s, p, n, hp => by
    have h0 := mgs_pure ch kb f.ks s.ks p 0 n hp
    have h1 := mgs_pure ch kb f.ks s.ks p 0 (n + 1) hp
    rw [mg]
    split
    · rfl
    · split
      · rfl
      · split
        · simp [hp]
        · split
          · exact h0
          · simp [hp, h1]
theorem mgs_pure (ch : Nat → Nat) : ∀ (b f s : List Doc) (p : List D) (i n : Nat), D.pures p = true → D.pures (mgs ch b f s p i n).2 = true
  | [], _, _, _, _, _, _ => by simp [mgs]
  | b :: bs, [], _, _, _, _, _ => by simp [mgs]
  | b :: bs, f :: fs, [], _, _, _, _ => by simp [mgs]
  | b :: bs, f :: fs, s :: ss, p, i, n, hp => by
    have hq : D.pures (p ++ [D.int (i : Int)]) = true := by rw [pures_app, hp]; rfl
    have h0 := mg_pure ch b f s (p ++ [.int (i : Int)]) n hq
    have h1 := mgs_pure ch bs fs ss p (i + 1) (n + (mg ch b f s (p ++ [.int (i : Int)]) n).2.length) hp
    rw [mgs]
    dsimp only
    rw [pures_app, h0, h1]
    rfl
end
theorem pk_dp {c m : Nat} {b f s : Doc} (hb : dp b ≤ m) (hf : dp f ≤ m) (hs : dp s ≤ m) : dp (pk c b f s) ≤ m := by
  unfold pk
  split
  · exact hb
  · split
    · exact hf
    · exact hs
mutual
theorem mg_dp (ch : Nat → Nat) : ∀ (b f s : Doc) (p : List D) (n m : Nat), dp b ≤ m → dp f ≤ m → dp s ≤ m → dp (mg ch b f s p n).1 ≤ m
  | .mk lb kb, f, s, p, n, m, hb, hf, hs => by
    rw [mg]
    split
    · exact hf
    · split
      · exact hs
      · split
        · exact pk_dp hb hf hs
        · cases f with
          | mk lf kf =>
            cases s with
            | mk ls ks =>
              rw [dp] at hb hf hs
              have h0 := mgs_dp ch kb kf ks p 0 n m hb hf hs
              have h1 := mgs_dp ch kb kf ks p 0 (n + 1) m hb hf hs
              split
              · show dps _ ≤ m
                exact h0
              · show dps _ ≤ m
                exact h1
theorem mgs_dp (ch : Nat → Nat) : ∀ (b f s : List Doc) (p : List D) (i n m : Nat), dps b ≤ m → dps f ≤ m → dps s ≤ m → dps (mgs ch b f s p i n).1 ≤ m
  | [], _, _, _, _, _, _, _, _, _ => by simp [mgs, dps]
  | b :: bs, [], _, _, _, _, _, _, _, _ => by simp [mgs, dps]
  | b :: bs, f :: fs, [], _, _, _, _, _, _, _ => by simp [mgs, dps]
  | b :: bs, f :: fs, s :: ss, p, i, n, m, hb, hf, hs => by
    rw [dps] at hb hf hs
    cases m with
    | zero => omega
    | succ m =>
      have h0 := mg_dp ch b f s (p ++ [.int (i : Int)]) n m (by omega) (by omega) (by omega)
      have h1 := mgs_dp ch bs fs ss p (i + 1) (n + (mg ch b f s (p ++ [.int (i : Int)]) n).2.length) (m + 1) (by omega) (by omega) (by omega)
      rw [mgs]
      dsimp only
      rw [dps]
      omega
end
theorem pk_sz {c : Nat} {b f s : Doc} : sz (pk c b f s) ≤ sz b + sz f + sz s := by
  unfold pk
  split
  · omega
  · split <;> omega
mutual
theorem mg_sz (ch : Nat → Nat) : ∀ (b f s : Doc) (p : List D) (n : Nat), sz (mg ch b f s p n).1 ≤ sz b + sz f + sz s
  | .mk lb kb, f, s, p, n => by
    rw [mg]
    split
    · dsimp only; omega
    · split
      · dsimp only; omega
      · split
        · exact pk_sz
        · cases f with
          | mk lf kf =>
            cases s with
            | mk ls ks =>
              have h0 := mgs_sz ch kb kf ks p 0 n
              have h1 := mgs_sz ch kb kf ks p 0 (n + 1)
              split
              · dsimp only [sz, Doc.ks]; omega
              · dsimp only [sz, Doc.ks]; omega
theorem mgs_sz (ch : Nat → Nat) : ∀ (b f s : List Doc) (p : List D) (i n : Nat), szs (mgs ch b f s p i n).1 ≤ szs b + szs f + szs s
  | [], _, _, _, _, _ => by simp [mgs, szs]
  | b :: bs, [], _, _, _, _ => by simp [mgs, szs]
  | b :: bs, f :: fs, [], _, _, _ => by simp [mgs, szs]
  | b :: bs, f :: fs, s :: ss, p, i, n => by
    have h0 := mg_sz ch b f s (p ++ [.int (i : Int)]) n
    have h1 := mgs_sz ch bs fs ss p (i + 1) (n + (mg ch b f s (p ++ [.int (i : Int)]) n).2.length)
    rw [mgs]
    dsimp only
    simp only [szs]
    omega
end
theorem mgs_llen (ch : Nat → Nat) : ∀ (b f s : List Doc) (p : List D) (i n : Nat), b.length = f.length → b.length = s.length → (mgs ch b f s p i n).1.length = b.length
  | [], _, _, _, _, _, _, _ => by simp [mgs]
  | b :: bs, [], _, _, _, _, h, _ => by simp at h
  | b :: bs, f :: fs, [], _, _, _, _, h => by simp at h
  | b :: bs, f :: fs, s :: ss, p, i, n, h1, h2 => by
    rw [mgs]
    dsimp only
    rw [List.length_cons, List.length_cons, mgs_llen ch bs fs ss p (i + 1) _ (by simpa using h1) (by simpa using h2)]
end K21
namespace K21
open Ev
abbrev c0 : Nat → Nat := fun _ => 0
theorem g1 {h : Mem} {N : Nat} {a : Ob} (e : h.length = N) : (h ++ [a])[N]? = some a := by subst e; exact m1_get0
theorem s1 {h : Mem} {N : Nat} {a x : Ob} (e : h.length = N) : (h ++ [a]).set N x = h ++ [x] := by subst e; exact m1_set0
def MgOk (k : Nat) : Prop := ∀ (b f s : Doc) (p : List D) (h : Mem) (n : Nat) (xs : List D) (nn : Nat), dp b + 2 ≤ k → dp b ≤ 60 → dp f ≤ 60 → dp s ≤ 60 → sz b ≤ 900 → p.length + dp b ≤ 900 → D.pures p = true → D.pures xs = true → h[n]? = some (.box (.lst xs)) → xs.length + sz b ≤ 50000 →
  callF prog k i_merged [enc b, enc f, enc s, .tup p, .loc n] h = .ok (enc (mg c0 b f s p nn).1) (h.set n (.box (.lst (xs ++ (mg c0 b f s p nn).2))))
theorem at_child {l : List Nat} {pre suf : List Doc} {d : Doc} {i : Nat} (hi : pre.length = i) : atI (D.str l :: encs (pre ++ d :: suf)) ((i : Int) + 1) = some (enc d) := by
  have := atI_nat (xs := D.str l :: encs (pre ++ d :: suf)) (i := i + 1)
  rw [List.getElem?_cons_succ, encs_get, List.getElem?_append_right (by omega), hi, Nat.sub_self] at this
  exact this
theorem merged_loop (k : Nat) (ihk : MgOk k) (lb lf ls : List Nat) (kb kf ks : List Doc) (p : List D) (n N : Nat) (lab : Option D) (hp : D.pures p = true) (hb : dps kb ≤ 60) (hf : dps kf ≤ 60) (hs : dps ks ≤ 60) (hk : dps kb + 1 ≤ k) (hpl : p.length + dps kb ≤ 900) :
    ∀ (b' f' s' pb pf ps : List Doc) (acc xs : List D) (h : Mem) (nn i : Nat) (o7 : Option D), kb = pb ++ b' → kf = pf ++ f' → ks = ps ++ s' → pb.length = i → pf.length = i → ps.length = i → b'.length = f'.length → b'.length = s'.length → h.length = N → h[n]? = some (.box (.lst xs)) → D.pures xs = true → xs.length + szs b' ≤ 50000 → szs b' ≤ 900 → acc.length + b'.length ≤ 1000 →
    ∃ o7', forL (evSs (prog.cx k (callF prog k)) b_merged_0) (.nm 7) (rngL i 1 b'.length) [some (enc (.mk lb kb)), some (enc (.mk lf kf)), some (enc (.mk ls ks)), some (.tup p), some (.loc n), lab, some (.loc N), o7] (h ++ [.box (.lst acc)]) =
      .nx [some (enc (.mk lb kb)), some (enc (.mk lf kf)), some (enc (.mk ls ks)), some (.tup p), some (.loc n), lab, some (.loc N), o7'] (h.set n (.box (.lst (xs ++ (mgs c0 b' f' s' p i nn).2))) ++ [.box (.lst (acc ++ encs (mgs c0 b' f' s' p i nn).1))]) := by
  intro b'
  induction b' with
  | nil =>
    intro f' s' pb pf ps acc xs h nn i o7 _ _ _ _ _ _ _ _ _ e _ _ _ _
    exact ⟨o7, by simp [rngL, forL, mgs, encs, set_same e]⟩
  | cons b bs ih =>
    intro f' s' pb pf ps acc xs h nn i o7 eb ef es lb' lf' ls' q1 q2 hN e hx hl hsz ha
    cases f' with
    | nil => simp at q1
    | cons f fs =>
      cases s' with
      | nil => simp at q2
      | cons s ss =>
        subst eb ef es
        have mb : dp b + 1 ≤ dps (pb ++ b :: bs) := dp_mem (by simp)
        have mf : dp f + 1 ≤ dps (pf ++ f :: fs) := dp_mem (by simp)
        have ms : dp s + 1 ≤ dps (ps ++ s :: ss) := dp_mem (by simp)
        rw [szs] at hl hsz
        rw [List.length_cons] at ha
        have hn := get_lt e
        have hq : D.pures (p ++ [D.int (i : Int)]) = true := by rw [pures_app, hp]; rfl
        have call := ihk b f s (p ++ [D.int (i : Int)]) (h ++ [.box (.lst acc)]) n xs nn (by omega) (by omega) (by omega) (by omega) (by omega) (by rw [List.length_append]; simp; omega) hq hx (by rw [app_get hn]; exact e) (by omega)
        have ml' := mg_len c0 b f s (p ++ [D.int (i : Int)]) nn
        have mp := mg_pure c0 b f s (p ++ [D.int (i : Int)]) nn hq
        rw [app_set hn] at call
        generalize hr : mg c0 b f s (p ++ [D.int (i : Int)]) nn = r at call ml' mp
        have hN' : (h.set n (.box (.lst (xs ++ r.2)))).length = N := by rw [set_len]; exact hN
        have hn' : n < (h.set n (.box (.lst (xs ++ r.2)))).length := by rw [set_len]; exact hn
        obtain ⟨o7', er⟩ := ih fs ss (pb ++ [b]) (pf ++ [f]) (ps ++ [s]) (acc ++ [enc r.1]) (xs ++ r.2) (h.set n (.box (.lst (xs ++ r.2)))) (nn + r.2.length) (i + 1) (some (.int (i : Int))) (by simp) (by simp) (by simp) (by simp; exact lb') (by simp; exact lf') (by simp; exact ls') (by simpa using q1) (by simpa using q2) hN' (set_get hn)
          (by rw [pures_app, hx, mp]; rfl) (by rw [List.length_append]; omega) (by omega) (by rw [List.length_append]; simp; omega)
        refine ⟨o7', ?_⟩
        have lp : p.length + 1 ≤ LIM := lim_lt (by omega)
        have la : acc.length < LIM := lim_lt' (by omega)
        have eb : enc (.mk lb (pb ++ b :: bs)) = .tup (.str lb :: encs (pb ++ b :: bs)) := by rw [enc]
        have ef : enc (.mk lf (pf ++ f :: fs)) = .tup (.str lf :: encs (pf ++ f :: fs)) := by rw [enc]
        have es : enc (.mk ls (ps ++ s :: ss)) = .tup (.str ls :: encs (ps ++ s :: ss)) := by rw [enc]
        have ga : evL (prog.cx k (callF prog k)) (.cons (.call 4 (.cons (.ix (.v 0) (.bin .add (.v 7) (.c (.int 1)))) (.cons (.ix (.v 1) (.bin .add (.v 7) (.c (.int 1)))) (.cons (.ix (.v 2) (.bin .add (.v 7) (.c (.int 1)))) (.cons (.tup (.star (.v 3) (.cons (.v 7) .nil))) (.cons (.v 4) .nil)))))) .nil)
            [some (enc (.mk lb (pb ++ b :: bs))), some (enc (.mk lf (pf ++ f :: fs))), some (enc (.mk ls (ps ++ s :: ss))), some (.tup p), some (.loc n), lab, some (.loc N), some (.int (i : Int))] (h ++ [.box (.lst acc)]) = .ok [enc r.1] (h.set n (.box (.lst (xs ++ r.2))) ++ [.box (.lst acc)]) := by
          rw [eb, ef, es]
          have c1 := at_child (l := lb) (suf := bs) (d := b) lb'
          have c2 := at_child (l := lf) (suf := fs) (d := f) lf'
          have c3 := at_child (l := ls) (suf := ss) (d := s) ls'
          simp only [c1, c2, c3, lp, call, List.length_append, evSs, evS, evE, evL, evT, evTA, evTO, evF, evSrc, evO, evAnd, evOr, asgT, asgTs, cx_glob, cx_call, shal_int, shal_str, shal_tup, shal_lst, shal_non, shal_bl, bin_addi, bin_subi, bin_addt, bin_addl, bin_adds, bin_mod, bin_div, cmp_lt, cmp_le, cmp_gt, cmp_ge, cmp_eqi, cmp_nei, cmp_eqs, cmp_nes, cmp_ins, cmp_nins, cmp_isn, cmp_isns, item_tup, item_lst, bi_lens, bi_lent, bi_lenl, bi_int, bi_intb, bi_abs, bi_max2, bi_tuplel, bi_tuplet, itD, slice, seqD, pure_non, pure_bl, pure_int, pure_str, pure_tup, pure_lst, pures_nil, pures_cons, startF, List.replicate, List.length_cons, List.length_nil, List.set_cons_zero, List.set_cons_succ, List.getElem?_cons_zero, List.getElem?_cons_succ, List.getElem?_nil, Nat.zero_add, Nat.reduceAdd, Nat.reduceSub, Nat.reduceLT, Nat.reduceLeDiff, if_true, Bool.not_true, Bool.not_false, List.map_cons, List.map_nil, List.cons_append, List.nil_append, reduceIte, and_self, and_true, true_and, decide_true, decide_false, Bool.true_and, Bool.and_true, Bool.false_and, Bool.and_false, fin_non, fin_bl, fin_int, fin_str, finX_same', gt_iff_lt, Nat.lt_add_one, Bool.false_eq_true]
        have hb : evSs (prog.cx k (callF prog k)) b_merged_0 [some (enc (.mk lb (pb ++ b :: bs))), some (enc (.mk lf (pf ++ f :: fs))), some (enc (.mk ls (ps ++ s :: ss))), some (.tup p), some (.loc n), lab, some (.loc N), some (.int (i : Int))] (h ++ [.box (.lst acc)]) =
            .nx [some (enc (.mk lb (pb ++ b :: bs))), some (enc (.mk lf (pf ++ f :: fs))), some (enc (.mk ls (ps ++ s :: ss))), some (.tup p), some (.loc n), lab, some (.loc N), some (.int (i : Int))] (h.set n (.box (.lst (xs ++ r.2))) ++ [.box (.lst (acc ++ [enc r.1]))]) := by
          rw [b_merged_0, evSs, evS, ev_mt (ev_v rfl) (g1 hN) ga (mt_append (g1 hN') la)]
          simp only [evSs, s1 hN']
        rw [List.length_cons, rngL, forL_nx rfl hb]
        have ei : (i : Int) + 1 = ((i + 1 : Nat) : Int) := by omega
        rw [ei, er, mgs, hr]
        dsimp only
        rw [List.set_set, encs, List.append_assoc, List.append_assoc]
        rfl
theorem merged_ok (k : Nat) : MgOk k := by
  induction k with
  | zero => intro b f s p h n xs nn h1; omega
  | succ k ihk =>
    rintro ⟨lb, kb⟩ ⟨lf, kf⟩ ⟨ls, ks⟩ p h n xs nn hk hb hf hs hz hpl hp hx e hl
    rw [callF_succ (fd := d_merged) rfl ⟨rfl, by decide⟩]
    have q1 := doc_eq (h := h) hf hs
    have q2 := doc_eq (h := h) hs hb
    have q3 := doc_eq (h := h) hf hb
    have hn := get_lt e
    rw [mg]
    by_cases e1 : (Doc.mk lf kf : Doc) = .mk ls ks
    · rw [if_pos (.inl e1)]
      have fp := fin_pure (gc := true) (h := h) (enc_pure (.mk lf kf))
      have d1 : decide ((Doc.mk lf kf : Doc) = .mk ls ks) = true := decide_eq_true e1
      rw [d1] at q1
      simp only [List.append_nil, set_same e]
      simp only [d_merged, s_merged_0, s_merged_1, s_merged_2, q1, fp, evSs, evS, evE, evL, evT, evTA, evTO, evF, evSrc, evO, evAnd, evOr, asgT, asgTs, cx_glob, cx_call, shal_int, shal_str, shal_tup, shal_lst, shal_non, shal_bl, bin_addi, bin_subi, bin_addt, bin_addl, bin_adds, bin_mod, bin_div, cmp_lt, cmp_le, cmp_gt, cmp_ge, cmp_eqi, cmp_nei, cmp_eqs, cmp_nes, cmp_ins, cmp_nins, cmp_isn, cmp_isns, item_tup, item_lst, bi_lens, bi_lent, bi_lenl, bi_int, bi_intb, bi_abs, bi_max2, bi_tuplel, bi_tuplet, itD, slice, seqD, pure_non, pure_bl, pure_int, pure_str, pure_tup, pure_lst, pures_nil, pures_cons, startF, List.replicate, List.length_cons, List.length_nil, List.set_cons_zero, List.set_cons_succ, List.getElem?_cons_zero, List.getElem?_cons_succ, List.getElem?_nil, Nat.zero_add, Nat.reduceAdd, Nat.reduceSub, Nat.reduceLT, Nat.reduceLeDiff, if_true, Bool.not_true, Bool.not_false, List.map_cons, List.map_nil, List.cons_append, List.nil_append, reduceIte, and_self, and_true, true_and, decide_true, decide_false, Bool.true_and, Bool.and_true, Bool.false_and, Bool.and_false, fin_non, fin_bl, fin_int, fin_str, finX_same', gt_iff_lt, Nat.lt_add_one, Bool.false_eq_true]
    · have d1 : decide ((Doc.mk lf kf : Doc) = .mk ls ks) = false := decide_eq_false e1
      rw [d1] at q1
      by_cases e2 : (Doc.mk ls ks : Doc) = .mk lb kb
      · rw [if_pos (.inr e2)]
        have fp := fin_pure (gc := true) (h := h) (enc_pure (.mk lf kf))
        have d2 : decide ((Doc.mk ls ks : Doc) = .mk lb kb) = true := decide_eq_true e2
        rw [d2] at q2
        simp only [List.append_nil, set_same e]
        simp only [d_merged, s_merged_0, s_merged_1, s_merged_2, q1, q2, fp, evSs, evS, evE, evL, evT, evTA, evTO, evF, evSrc, evO, evAnd, evOr, asgT, asgTs, cx_glob, cx_call, shal_int, shal_str, shal_tup, shal_lst, shal_non, shal_bl, bin_addi, bin_subi, bin_addt, bin_addl, bin_adds, bin_mod, bin_div, cmp_lt, cmp_le, cmp_gt, cmp_ge, cmp_eqi, cmp_nei, cmp_eqs, cmp_nes, cmp_ins, cmp_nins, cmp_isn, cmp_isns, item_tup, item_lst, bi_lens, bi_lent, bi_lenl, bi_int, bi_intb, bi_abs, bi_max2, bi_tuplel, bi_tuplet, itD, slice, seqD, pure_non, pure_bl, pure_int, pure_str, pure_tup, pure_lst, pures_nil, pures_cons, startF, List.replicate, List.length_cons, List.length_nil, List.set_cons_zero, List.set_cons_succ, List.getElem?_cons_zero, List.getElem?_cons_succ, List.getElem?_nil, Nat.zero_add, Nat.reduceAdd, Nat.reduceSub, Nat.reduceLT, Nat.reduceLeDiff, if_true, Bool.not_true, Bool.not_false, List.map_cons, List.map_nil, List.cons_append, List.nil_append, reduceIte, and_self, and_true, true_and, decide_true, decide_false, Bool.true_and, Bool.and_true, Bool.false_and, Bool.and_false, fin_non, fin_bl, fin_int, fin_str, finX_same', gt_iff_lt, Nat.lt_add_one, Bool.false_eq_true]
      · rw [if_neg (by rintro (z | z); exact e1 z; exact e2 z)]
        have d2 : decide ((Doc.mk ls ks : Doc) = .mk lb kb) = false := decide_eq_false e2
        rw [d2] at q2
        by_cases e3 : (Doc.mk lf kf : Doc) = .mk lb kb
        · rw [if_pos e3]
          have fp := fin_pure (gc := true) (h := h) (enc_pure (.mk ls ks))
          have d3 : decide ((Doc.mk lf kf : Doc) = .mk lb kb) = true := decide_eq_true e3
          rw [d3] at q3
          simp only [List.append_nil, set_same e]
          simp only [d_merged, s_merged_0, s_merged_1, s_merged_2, q1, q2, q3, fp, evSs, evS, evE, evL, evT, evTA, evTO, evF, evSrc, evO, evAnd, evOr, asgT, asgTs, cx_glob, cx_call, shal_int, shal_str, shal_tup, shal_lst, shal_non, shal_bl, bin_addi, bin_subi, bin_addt, bin_addl, bin_adds, bin_mod, bin_div, cmp_lt, cmp_le, cmp_gt, cmp_ge, cmp_eqi, cmp_nei, cmp_eqs, cmp_nes, cmp_ins, cmp_nins, cmp_isn, cmp_isns, item_tup, item_lst, bi_lens, bi_lent, bi_lenl, bi_int, bi_intb, bi_abs, bi_max2, bi_tuplel, bi_tuplet, itD, slice, seqD, pure_non, pure_bl, pure_int, pure_str, pure_tup, pure_lst, pures_nil, pures_cons, startF, List.replicate, List.length_cons, List.length_nil, List.set_cons_zero, List.set_cons_succ, List.getElem?_cons_zero, List.getElem?_cons_succ, List.getElem?_nil, Nat.zero_add, Nat.reduceAdd, Nat.reduceSub, Nat.reduceLT, Nat.reduceLeDiff, if_true, Bool.not_true, Bool.not_false, List.map_cons, List.map_nil, List.cons_append, List.nil_append, reduceIte, and_self, and_true, true_and, decide_true, decide_false, Bool.true_and, Bool.and_true, Bool.false_and, Bool.and_false, fin_non, fin_bl, fin_int, fin_str, finX_same', gt_iff_lt, Nat.lt_add_one, Bool.false_eq_true]
        · rw [if_neg e3]
          have d3 : decide ((Doc.mk lf kf : Doc) = .mk lb kb) = false := decide_eq_false e3
          rw [d3] at q3
          have lenE : ∀ x y : List Doc, decide ((((encs x).length + 1 : Nat) : Int) = (((encs y).length + 1 : Nat) : Int)) = decide (x.length = y.length) := fun x y => by
            rw [encs_len, encs_len]
            by_cases q : x.length = y.length
            · rw [decide_eq_true q, decide_eq_true (by omega)]
            · rw [decide_eq_false q, decide_eq_false (by omega)]
          have eb : enc (.mk lb kb) = .tup (.str lb :: encs kb) := by rw [enc]
          have ef : enc (.mk lf kf) = .tup (.str lf :: encs kf) := by rw [enc]
          have es : enc (.mk ls ks) = .tup (.str ls :: encs ks) := by rw [enc]
          rw [sz] at hl hz
          rw [dp] at hb hf hs hk hpl
          have lx : xs.length < LIM := lim_lt' (by omega)
          have hps : D.pures (xs ++ [.tup p]) = true := by rw [pures_app, hx]; simp [hp]
          have okb := fun N : Nat => D.pure_ok N _ (enc_pure (.mk lb kb))
          by_cases e4 : kb.length ≠ kf.length ∨ kb.length ≠ ks.length
          · rw [if_pos (show kb.length ≠ (Doc.mk lf kf).ks.length ∨ kb.length ≠ (Doc.mk ls ks).ks.length from e4)]
            have fp := fin_set0 (h := h) (n := n) (okb h.length) (okB_box hps)
            rw [eb] at fp
            simp only [show pk (c0 nn) (Doc.mk lb kb) (Doc.mk lf kf) (Doc.mk ls ks) = .mk lb kb from rfl]
            simp only [eb, ef, es] at q1 q2 q3 ⊢
            by_cases e5 : kb.length = kf.length
            · have e6 : ¬ kb.length = ks.length := fun z => e4.elim (fun q => q e5) (fun q => q z)
              have l1 := lenE kb kf
              have l2 := lenE kb ks
              rw [decide_eq_true e5] at l1
              rw [decide_eq_false e6] at l2
              simp only [d_merged, s_merged_0, s_merged_1, s_merged_2, q1, q2, q3, l1, l2, shal_box e, mt_append e lx, fp, evSs, evS, evE, evL, evT, evTA, evTO, evF, evSrc, evO, evAnd, evOr, asgT, asgTs, cx_glob, cx_call, shal_int, shal_str, shal_tup, shal_lst, shal_non, shal_bl, bin_addi, bin_subi, bin_addt, bin_addl, bin_adds, bin_mod, bin_div, cmp_lt, cmp_le, cmp_gt, cmp_ge, cmp_eqi, cmp_nei, cmp_eqs, cmp_nes, cmp_ins, cmp_nins, cmp_isn, cmp_isns, item_tup, item_lst, bi_lens, bi_lent, bi_lenl, bi_int, bi_intb, bi_abs, bi_max2, bi_tuplel, bi_tuplet, itD, slice, seqD, pure_non, pure_bl, pure_int, pure_str, pure_tup, pure_lst, pures_nil, pures_cons, startF, List.replicate, List.length_cons, List.length_nil, List.set_cons_zero, List.set_cons_succ, List.getElem?_cons_zero, List.getElem?_cons_succ, List.getElem?_nil, Nat.zero_add, Nat.reduceAdd, Nat.reduceSub, Nat.reduceLT, Nat.reduceLeDiff, if_true, Bool.not_true, Bool.not_false, List.map_cons, List.map_nil, List.cons_append, List.nil_append, reduceIte, and_self, and_true, true_and, decide_true, decide_false, Bool.true_and, Bool.and_true, Bool.false_and, Bool.and_false, fin_non, fin_bl, fin_int, fin_str, finX_same', gt_iff_lt, Nat.lt_add_one, Bool.false_eq_true]
            · have l1 := lenE kb kf
              rw [decide_eq_false e5] at l1
              simp only [d_merged, s_merged_0, s_merged_1, s_merged_2, q1, q2, q3, l1, shal_box e, mt_append e lx, fp, evSs, evS, evE, evL, evT, evTA, evTO, evF, evSrc, evO, evAnd, evOr, asgT, asgTs, cx_glob, cx_call, shal_int, shal_str, shal_tup, shal_lst, shal_non, shal_bl, bin_addi, bin_subi, bin_addt, bin_addl, bin_adds, bin_mod, bin_div, cmp_lt, cmp_le, cmp_gt, cmp_ge, cmp_eqi, cmp_nei, cmp_eqs, cmp_nes, cmp_ins, cmp_nins, cmp_isn, cmp_isns, item_tup, item_lst, bi_lens, bi_lent, bi_lenl, bi_int, bi_intb, bi_abs, bi_max2, bi_tuplel, bi_tuplet, itD, slice, seqD, pure_non, pure_bl, pure_int, pure_str, pure_tup, pure_lst, pures_nil, pures_cons, startF, List.replicate, List.length_cons, List.length_nil, List.set_cons_zero, List.set_cons_succ, List.getElem?_cons_zero, List.getElem?_cons_succ, List.getElem?_nil, Nat.zero_add, Nat.reduceAdd, Nat.reduceSub, Nat.reduceLT, Nat.reduceLeDiff, if_true, Bool.not_true, Bool.not_false, List.map_cons, List.map_nil, List.cons_append, List.nil_append, reduceIte, and_self, and_true, true_and, decide_true, decide_false, Bool.true_and, Bool.and_true, Bool.false_and, Bool.and_false, fin_non, fin_bl, fin_int, fin_str, finX_same', gt_iff_lt, Nat.lt_add_one, Bool.false_eq_true]
          · rw [if_neg (show ¬ (kb.length ≠ (Doc.mk lf kf).ks.length ∨ kb.length ≠ (Doc.mk ls ks).ks.length) from e4)]
            have e5 : kb.length = kf.length := Classical.byContradiction fun z => e4 (.inl z)
            have e6 : kb.length = ks.length := Classical.byContradiction fun z => e4 (.inr z)
            have mlb : callF prog k i_merged_label [.str lb, .str lf, .str ls] h = .ok (oD (ml lb lf ls)) h := by
              obtain ⟨j, hj⟩ : ∃ j, k = j + 1 := ⟨k - 1, by omega⟩
              rw [hj]
              exact merged_label_ok j lb lf ls h
            have l1 := lenE kb kf
            have l2 := lenE kb ks
            rw [decide_eq_true e5] at l1
            rw [decide_eq_true e6] at l2
            have a1 : ∀ (l : List Nat) (x : List Doc), atI (D.str l :: encs x) 0 = some (.str l) := fun l x => atI_nat (i := 0)
            have lk := len_szs kb
            have sm : small62 (kb.length : Int) = true := by unfold small62; simp; omega
            have lc : (((encs kb).length + 1 : Nat) : Int) - 1 = (kb.length : Int) := by rw [encs_len]; omega
            have l0 : 0 ≤ LIM := by decide
            have rg : rngD [.int (kb.length : Int)] = some (rngL ((0 : Nat) : Int) 1 kb.length) := by
              show (if small62 (kb.length : Int) then some (rngL 0 1 ((kb.length : Int)).toNat) else none) = _
              rw [sm, if_pos rfl]
              rfl
            have fr0 : startF d_merged.ns [enc (.mk lb kb), enc (.mk lf kf), enc (.mk ls ks), .tup p, .loc n] = [some (enc (.mk lb kb)), some (enc (.mk lf kf)), some (enc (.mk ls ks)), some (.tup p), some (.loc n), none, none, none] := rfl
            have t0 : ∀ o5, evS (prog.cx k (callF prog k)) s_merged_0 [some (enc (.mk lb kb)), some (enc (.mk lf kf)), some (enc (.mk ls ks)), some (.tup p), some (.loc n), o5, none, none] h = .nx [some (enc (.mk lb kb)), some (enc (.mk lf kf)), some (enc (.mk ls ks)), some (.tup p), some (.loc n), o5, none, none] h := by
              intro o5
              simp only [s_merged_0, q1, q2, evSs, evS, evE, evL, evT, evTA, evTO, evF, evSrc, evO, evAnd, evOr, asgT, asgTs, cx_glob, cx_call, shal_int, shal_str, shal_tup, shal_lst, shal_non, shal_bl, bin_addi, bin_subi, bin_addt, bin_addl, bin_adds, bin_mod, bin_div, cmp_lt, cmp_le, cmp_gt, cmp_ge, cmp_eqi, cmp_nei, cmp_eqs, cmp_nes, cmp_ins, cmp_nins, cmp_isn, cmp_isns, item_tup, item_lst, bi_lens, bi_lent, bi_lenl, bi_int, bi_intb, bi_abs, bi_max2, bi_tuplel, bi_tuplet, itD, slice, seqD, pure_non, pure_bl, pure_int, pure_str, pure_tup, pure_lst, pures_nil, pures_cons, startF, List.replicate, List.length_cons, List.length_nil, List.set_cons_zero, List.set_cons_succ, List.getElem?_cons_zero, List.getElem?_cons_succ, List.getElem?_nil, Nat.zero_add, Nat.reduceAdd, Nat.reduceSub, Nat.reduceLT, Nat.reduceLeDiff, if_true, Bool.not_true, Bool.not_false, List.map_cons, List.map_nil, List.cons_append, List.nil_append, reduceIte, and_self, and_true, true_and, decide_true, decide_false, Bool.true_and, Bool.and_true, Bool.false_and, Bool.and_false, fin_non, fin_bl, fin_int, fin_str, finX_same', gt_iff_lt, Nat.lt_add_one, Bool.false_eq_true]
            have t1 : ∀ o5, evS (prog.cx k (callF prog k)) s_merged_1 [some (enc (.mk lb kb)), some (enc (.mk lf kf)), some (enc (.mk ls ks)), some (.tup p), some (.loc n), o5, none, none] h = .nx [some (enc (.mk lb kb)), some (enc (.mk lf kf)), some (enc (.mk ls ks)), some (.tup p), some (.loc n), o5, none, none] h := by
              intro o5
              simp only [s_merged_1, q3, evSs, evS, evE, evL, evT, evTA, evTO, evF, evSrc, evO, evAnd, evOr, asgT, asgTs, cx_glob, cx_call, shal_int, shal_str, shal_tup, shal_lst, shal_non, shal_bl, bin_addi, bin_subi, bin_addt, bin_addl, bin_adds, bin_mod, bin_div, cmp_lt, cmp_le, cmp_gt, cmp_ge, cmp_eqi, cmp_nei, cmp_eqs, cmp_nes, cmp_ins, cmp_nins, cmp_isn, cmp_isns, item_tup, item_lst, bi_lens, bi_lent, bi_lenl, bi_int, bi_intb, bi_abs, bi_max2, bi_tuplel, bi_tuplet, itD, slice, seqD, pure_non, pure_bl, pure_int, pure_str, pure_tup, pure_lst, pures_nil, pures_cons, startF, List.replicate, List.length_cons, List.length_nil, List.set_cons_zero, List.set_cons_succ, List.getElem?_cons_zero, List.getElem?_cons_succ, List.getElem?_nil, Nat.zero_add, Nat.reduceAdd, Nat.reduceSub, Nat.reduceLT, Nat.reduceLeDiff, if_true, Bool.not_true, Bool.not_false, List.map_cons, List.map_nil, List.cons_append, List.nil_append, reduceIte, and_self, and_true, true_and, decide_true, decide_false, Bool.true_and, Bool.and_true, Bool.false_and, Bool.and_false, fin_non, fin_bl, fin_int, fin_str, finX_same', gt_iff_lt, Nat.lt_add_one, Bool.false_eq_true]
            have t2 : evS (prog.cx k (callF prog k)) s_merged_2 [some (enc (.mk lb kb)), some (enc (.mk lf kf)), some (enc (.mk ls ks)), some (.tup p), some (.loc n), none, none, none] h = .nx [some (enc (.mk lb kb)), some (enc (.mk lf kf)), some (enc (.mk ls ks)), some (.tup p), some (.loc n), none, none, none] h := by
              simp only [s_merged_2, eb, ef, es, l1, l2, evSs, evS, evE, evL, evT, evTA, evTO, evF, evSrc, evO, evAnd, evOr, asgT, asgTs, cx_glob, cx_call, shal_int, shal_str, shal_tup, shal_lst, shal_non, shal_bl, bin_addi, bin_subi, bin_addt, bin_addl, bin_adds, bin_mod, bin_div, cmp_lt, cmp_le, cmp_gt, cmp_ge, cmp_eqi, cmp_nei, cmp_eqs, cmp_nes, cmp_ins, cmp_nins, cmp_isn, cmp_isns, item_tup, item_lst, bi_lens, bi_lent, bi_lenl, bi_int, bi_intb, bi_abs, bi_max2, bi_tuplel, bi_tuplet, itD, slice, seqD, pure_non, pure_bl, pure_int, pure_str, pure_tup, pure_lst, pures_nil, pures_cons, startF, List.replicate, List.length_cons, List.length_nil, List.set_cons_zero, List.set_cons_succ, List.getElem?_cons_zero, List.getElem?_cons_succ, List.getElem?_nil, Nat.zero_add, Nat.reduceAdd, Nat.reduceSub, Nat.reduceLT, Nat.reduceLeDiff, if_true, Bool.not_true, Bool.not_false, List.map_cons, List.map_nil, List.cons_append, List.nil_append, reduceIte, and_self, and_true, true_and, decide_true, decide_false, Bool.true_and, Bool.and_true, Bool.false_and, Bool.and_false, fin_non, fin_bl, fin_int, fin_str, finX_same', gt_iff_lt, Nat.lt_add_one, Bool.false_eq_true]
            have t3 : evS (prog.cx k (callF prog k)) s_merged_3 [some (enc (.mk lb kb)), some (enc (.mk lf kf)), some (enc (.mk ls ks)), some (.tup p), some (.loc n), none, none, none] h = .nx [some (enc (.mk lb kb)), some (enc (.mk lf kf)), some (enc (.mk ls ks)), some (.tup p), some (.loc n), some (oD (ml lb lf ls)), none, none] h := by
              simp only [s_merged_3, eb, ef, es, a1, mlb, evSs, evS, evE, evL, evT, evTA, evTO, evF, evSrc, evO, evAnd, evOr, asgT, asgTs, cx_glob, cx_call, shal_int, shal_str, shal_tup, shal_lst, shal_non, shal_bl, bin_addi, bin_subi, bin_addt, bin_addl, bin_adds, bin_mod, bin_div, cmp_lt, cmp_le, cmp_gt, cmp_ge, cmp_eqi, cmp_nei, cmp_eqs, cmp_nes, cmp_ins, cmp_nins, cmp_isn, cmp_isns, item_tup, item_lst, bi_lens, bi_lent, bi_lenl, bi_int, bi_intb, bi_abs, bi_max2, bi_tuplel, bi_tuplet, itD, slice, seqD, pure_non, pure_bl, pure_int, pure_str, pure_tup, pure_lst, pures_nil, pures_cons, startF, List.replicate, List.length_cons, List.length_nil, List.set_cons_zero, List.set_cons_succ, List.getElem?_cons_zero, List.getElem?_cons_succ, List.getElem?_nil, Nat.zero_add, Nat.reduceAdd, Nat.reduceSub, Nat.reduceLT, Nat.reduceLeDiff, if_true, Bool.not_true, Bool.not_false, List.map_cons, List.map_nil, List.cons_append, List.nil_append, reduceIte, and_self, and_true, true_and, decide_true, decide_false, Bool.true_and, Bool.and_true, Bool.false_and, Bool.and_false, fin_non, fin_bl, fin_int, fin_str, finX_same', gt_iff_lt, Nat.lt_add_one, Bool.false_eq_true]
            have t5 : ∀ (hh : Mem) (lv : D), evS (prog.cx k (callF prog k)) s_merged_5 [some (enc (.mk lb kb)), some (enc (.mk lf kf)), some (enc (.mk ls ks)), some (.tup p), some (.loc n), some lv, none, none] hh = .nx [some (enc (.mk lb kb)), some (enc (.mk lf kf)), some (enc (.mk ls ks)), some (.tup p), some (.loc n), some lv, some (.loc hh.length), none] (hh ++ [.box (.lst [])]) := by
              intro hh lv
              simp only [s_merged_5, l0, evSs, evS, evE, evL, evT, evTA, evTO, evF, evSrc, evO, evAnd, evOr, asgT, asgTs, cx_glob, cx_call, shal_int, shal_str, shal_tup, shal_lst, shal_non, shal_bl, bin_addi, bin_subi, bin_addt, bin_addl, bin_adds, bin_mod, bin_div, cmp_lt, cmp_le, cmp_gt, cmp_ge, cmp_eqi, cmp_nei, cmp_eqs, cmp_nes, cmp_ins, cmp_nins, cmp_isn, cmp_isns, item_tup, item_lst, bi_lens, bi_lent, bi_lenl, bi_int, bi_intb, bi_abs, bi_max2, bi_tuplel, bi_tuplet, itD, slice, seqD, pure_non, pure_bl, pure_int, pure_str, pure_tup, pure_lst, pures_nil, pures_cons, startF, List.replicate, List.length_cons, List.length_nil, List.set_cons_zero, List.set_cons_succ, List.getElem?_cons_zero, List.getElem?_cons_succ, List.getElem?_nil, Nat.zero_add, Nat.reduceAdd, Nat.reduceSub, Nat.reduceLT, Nat.reduceLeDiff, if_true, Bool.not_true, Bool.not_false, List.map_cons, List.map_nil, List.cons_append, List.nil_append, reduceIte, and_self, and_true, true_and, decide_true, decide_false, Bool.true_and, Bool.and_true, Bool.false_and, Bool.and_false, fin_non, fin_bl, fin_int, fin_str, finX_same', gt_iff_lt, Nat.lt_add_one, Bool.false_eq_true]
            have t6 : ∀ (hh h2 : Mem) (N : Nat) (lv : D) (o7 : Option D), forL (evSs (prog.cx k (callF prog k)) b_merged_0) (.nm 7) (rngL ((0 : Nat) : Int) 1 kb.length) [some (enc (.mk lb kb)), some (enc (.mk lf kf)), some (enc (.mk ls ks)), some (.tup p), some (.loc n), some lv, some (.loc N), none] hh = .nx [some (enc (.mk lb kb)), some (enc (.mk lf kf)), some (enc (.mk ls ks)), some (.tup p), some (.loc n), some lv, some (.loc N), o7] h2 →
                evS (prog.cx k (callF prog k)) s_merged_6 [some (enc (.mk lb kb)), some (enc (.mk lf kf)), some (enc (.mk ls ks)), some (.tup p), some (.loc n), some lv, some (.loc N), none] hh = .nx [some (enc (.mk lb kb)), some (enc (.mk lf kf)), some (enc (.mk ls ks)), some (.tup p), some (.loc n), some lv, some (.loc N), o7] h2 := by
              intro hh h2 N lv o7 er
              have ea : evL (prog.cx k (callF prog k)) (.cons (.bin .sub (.bi .len (.cons (.v 0) .nil)) (.c (.int 1))) .nil) [some (enc (.mk lb kb)), some (enc (.mk lf kf)), some (enc (.mk ls ks)), some (.tup p), some (.loc n), some lv, some (.loc N), none] hh = .ok [.int (kb.length : Int)] hh := by
                simp only [eb, lc, evSs, evS, evE, evL, evT, evTA, evTO, evF, evSrc, evO, evAnd, evOr, asgT, asgTs, cx_glob, cx_call, shal_int, shal_str, shal_tup, shal_lst, shal_non, shal_bl, bin_addi, bin_subi, bin_addt, bin_addl, bin_adds, bin_mod, bin_div, cmp_lt, cmp_le, cmp_gt, cmp_ge, cmp_eqi, cmp_nei, cmp_eqs, cmp_nes, cmp_ins, cmp_nins, cmp_isn, cmp_isns, item_tup, item_lst, bi_lens, bi_lent, bi_lenl, bi_int, bi_intb, bi_abs, bi_max2, bi_tuplel, bi_tuplet, itD, slice, seqD, pure_non, pure_bl, pure_int, pure_str, pure_tup, pure_lst, pures_nil, pures_cons, startF, List.replicate, List.length_cons, List.length_nil, List.set_cons_zero, List.set_cons_succ, List.getElem?_cons_zero, List.getElem?_cons_succ, List.getElem?_nil, Nat.zero_add, Nat.reduceAdd, Nat.reduceSub, Nat.reduceLT, Nat.reduceLeDiff, if_true, Bool.not_true, Bool.not_false, List.map_cons, List.map_nil, List.cons_append, List.nil_append, reduceIte, and_self, and_true, true_and, decide_true, decide_false, Bool.true_and, Bool.and_true, Bool.false_and, Bool.and_false, fin_non, fin_bl, fin_int, fin_str, finX_same', gt_iff_lt, Nat.lt_add_one, Bool.false_eq_true]
              rw [s_merged_6, evS_for (evSrc_rng ea rg)]
              exact er
            have t7 : ∀ (h2 : Mem) (N : Nat) (l : List Nat) (o7 : Option D) (r : List Doc), r.length + 1 ≤ LIM → shal h2 (.loc N) = .lst (encs r) → evS (prog.cx k (callF prog k)) s_merged_7 [some (enc (.mk lb kb)), some (enc (.mk lf kf)), some (enc (.mk ls ks)), some (.tup p), some (.loc n), some (.str l), some (.loc N), o7] h2 = .rt (enc (.mk l r)) h2 := by
              intro h2 N l o7 r hr hsh
              have el : (encs r).length + 1 ≤ LIM := by rw [encs_len]; exact hr
              rw [show enc (.mk l r) = .tup (.str l :: encs r) from by rw [enc]]
              simp only [s_merged_7, hsh, List.append_nil, el, evSs, evS, evE, evL, evT, evTA, evTO, evF, evSrc, evO, evAnd, evOr, asgT, asgTs, cx_glob, cx_call, shal_int, shal_str, shal_tup, shal_lst, shal_non, shal_bl, bin_addi, bin_subi, bin_addt, bin_addl, bin_adds, bin_mod, bin_div, cmp_lt, cmp_le, cmp_gt, cmp_ge, cmp_eqi, cmp_nei, cmp_eqs, cmp_nes, cmp_ins, cmp_nins, cmp_isn, cmp_isns, item_tup, item_lst, bi_lens, bi_lent, bi_lenl, bi_int, bi_intb, bi_abs, bi_max2, bi_tuplel, bi_tuplet, itD, slice, seqD, pure_non, pure_bl, pure_int, pure_str, pure_tup, pure_lst, pures_nil, pures_cons, startF, List.replicate, List.length_cons, List.length_nil, List.set_cons_zero, List.set_cons_succ, List.getElem?_cons_zero, List.getElem?_cons_succ, List.getElem?_nil, Nat.zero_add, Nat.reduceAdd, Nat.reduceSub, Nat.reduceLT, Nat.reduceLeDiff, if_true, Bool.not_true, Bool.not_false, List.map_cons, List.map_nil, List.cons_append, List.nil_append, reduceIte, and_self, and_true, true_and, decide_true, decide_false, Bool.true_and, Bool.and_true, Bool.false_and, Bool.and_false, fin_non, fin_bl, fin_int, fin_str, finX_same', gt_iff_lt, Nat.lt_add_one, Bool.false_eq_true]
            have bodyE : d_merged.body = .cons s_merged_0 (.cons s_merged_1 (.cons s_merged_2 (.cons s_merged_3 (.cons s_merged_4 (.cons s_merged_5 (.cons s_merged_6 (.cons s_merged_7 .nil))))))) := rfl
            rw [bodyE, fr0, seq_nx (t0 none), seq_nx (t1 none), seq_nx t2, seq_nx t3]
            cases hml : ml lb lf ls with
            | some l =>
              obtain ⟨o7', er⟩ := merged_loop k ihk lb lf ls kb kf ks p n h.length (some (.str l)) hp hb hf hs (by omega) hpl kb kf ks [] [] [] [] xs h nn 0 none rfl rfl rfl rfl rfl rfl e5 e6 rfl e hx (by omega) (by omega) (by simp; omega)
              have ln := mgs_llen c0 kb kf ks p 0 nn e5 e6
              have pu := mgs_pure c0 kb kf ks p 0 nn hp
              simp only [Doc.lb, Doc.ks, hml]
              generalize mgs c0 kb kf ks p 0 nn = r at er ln pu ⊢
              rw [List.nil_append] at er
              have hln : r.1.length + 1 ≤ LIM := lim_lt (by omega)
              have fp := fin_set (h := h) (n := n) (t := [.box (.lst (encs r.1))]) (D.pure_ok h.length _ (enc_pure (.mk l r.1))) (okB_box (n := h.length) (ys := xs ++ r.2) (by rw [pures_app, hx, pu]; rfl))
              have t4 : evS (prog.cx k (callF prog k)) s_merged_4 [some (enc (.mk lb kb)), some (enc (.mk lf kf)), some (enc (.mk ls ks)), some (.tup p), some (.loc n), some (oD (some l)), none, none] h = .nx [some (enc (.mk lb kb)), some (enc (.mk lf kf)), some (enc (.mk ls ks)), some (.tup p), some (.loc n), some (.str l), none, none] h := by
                simp only [s_merged_4, oD, evSs, evS, evE, evL, evT, evTA, evTO, evF, evSrc, evO, evAnd, evOr, asgT, asgTs, cx_glob, cx_call, shal_int, shal_str, shal_tup, shal_lst, shal_non, shal_bl, bin_addi, bin_subi, bin_addt, bin_addl, bin_adds, bin_mod, bin_div, cmp_lt, cmp_le, cmp_gt, cmp_ge, cmp_eqi, cmp_nei, cmp_eqs, cmp_nes, cmp_ins, cmp_nins, cmp_isn, cmp_isns, item_tup, item_lst, bi_lens, bi_lent, bi_lenl, bi_int, bi_intb, bi_abs, bi_max2, bi_tuplel, bi_tuplet, itD, slice, seqD, pure_non, pure_bl, pure_int, pure_str, pure_tup, pure_lst, pures_nil, pures_cons, startF, List.replicate, List.length_cons, List.length_nil, List.set_cons_zero, List.set_cons_succ, List.getElem?_cons_zero, List.getElem?_cons_succ, List.getElem?_nil, Nat.zero_add, Nat.reduceAdd, Nat.reduceSub, Nat.reduceLT, Nat.reduceLeDiff, if_true, Bool.not_true, Bool.not_false, List.map_cons, List.map_nil, List.cons_append, List.nil_append, reduceIte, and_self, and_true, true_and, decide_true, decide_false, Bool.true_and, Bool.and_true, Bool.false_and, Bool.and_false, fin_non, fin_bl, fin_int, fin_str, finX_same', gt_iff_lt, Nat.lt_add_one, Bool.false_eq_true]
              rw [seq_nx t4, seq_nx (t5 h (.str l)), seq_nx (t6 _ _ h.length (.str l) o7' er), seq_rt (t7 _ h.length l o7' r.1 hln (shal_box (g1 (by rw [set_len]))))]
              exact fp
            | none =>
              have hn2 : (h.set n (.box (.lst (xs ++ [.tup p]))))[n]? = some (.box (.lst (xs ++ [.tup p]))) := set_get hn
              obtain ⟨o7', er⟩ := merged_loop k ihk lb lf ls kb kf ks p n h.length (some (.str lb)) hp hb hf hs (by omega) hpl kb kf ks [] [] [] [] (xs ++ [.tup p]) (h.set n (.box (.lst (xs ++ [.tup p])))) (nn + 1) 0 none rfl rfl rfl rfl rfl rfl e5 e6 set_len hn2 hps (by rw [List.length_append]; simp; omega) (by omega) (by simp; omega)
              have ln := mgs_llen c0 kb kf ks p 0 (nn + 1) e5 e6
              have pu := mgs_pure c0 kb kf ks p 0 (nn + 1) hp
              simp only [Doc.lb, Doc.ks, hml, show pk (c0 nn) lb lf ls = lb from rfl]
              generalize mgs c0 kb kf ks p 0 (nn + 1) = r at er ln pu ⊢
              have hln : r.1.length + 1 ≤ LIM := lim_lt (by omega)
              have fp := fin_set (h := h) (n := n) (t := [.box (.lst (encs r.1))]) (D.pure_ok h.length _ (enc_pure (.mk lb r.1))) (okB_box (n := h.length) (ys := xs ++ .tup p :: r.2) (by rw [pures_app, hx]; simp [hp, pu]))
              rw [List.set_set, List.append_assoc, List.nil_append] at er
              have t4 : evS (prog.cx k (callF prog k)) s_merged_4 [some (enc (.mk lb kb)), some (enc (.mk lf kf)), some (enc (.mk ls ks)), some (.tup p), some (.loc n), some (oD none), none, none] h = .nx [some (enc (.mk lb kb)), some (enc (.mk lf kf)), some (enc (.mk ls ks)), some (.tup p), some (.loc n), some (.str lb), none, none] (h.set n (.box (.lst (xs ++ [.tup p])))) := by
                simp only [s_merged_4, oD, eb, ef, es, a1, shal_box e, mt_append e lx, evSs, evS, evE, evL, evT, evTA, evTO, evF, evSrc, evO, evAnd, evOr, asgT, asgTs, cx_glob, cx_call, shal_int, shal_str, shal_tup, shal_lst, shal_non, shal_bl, bin_addi, bin_subi, bin_addt, bin_addl, bin_adds, bin_mod, bin_div, cmp_lt, cmp_le, cmp_gt, cmp_ge, cmp_eqi, cmp_nei, cmp_eqs, cmp_nes, cmp_ins, cmp_nins, cmp_isn, cmp_isns, item_tup, item_lst, bi_lens, bi_lent, bi_lenl, bi_int, bi_intb, bi_abs, bi_max2, bi_tuplel, bi_tuplet, itD, slice, seqD, pure_non, pure_bl, pure_int, pure_str, pure_tup, pure_lst, pures_nil, pures_cons, startF, List.replicate, List.length_cons, List.length_nil, List.set_cons_zero, List.set_cons_succ, List.getElem?_cons_zero, List.getElem?_cons_succ, List.getElem?_nil, Nat.zero_add, Nat.reduceAdd, Nat.reduceSub, Nat.reduceLT, Nat.reduceLeDiff, if_true, Bool.not_true, Bool.not_false, List.map_cons, List.map_nil, List.cons_append, List.nil_append, reduceIte, and_self, and_true, true_and, decide_true, decide_false, Bool.true_and, Bool.and_true, Bool.false_and, Bool.and_false, fin_non, fin_bl, fin_int, fin_str, finX_same', gt_iff_lt, Nat.lt_add_one, Bool.false_eq_true]
              have t5' := t5 (h.set n (.box (.lst (xs ++ [.tup p])))) (.str lb)
              rw [set_len] at t5'
              rw [seq_nx t4, seq_nx t5', seq_nx (t6 _ _ h.length (.str lb) o7' er), seq_rt (t7 _ h.length lb o7' r.1 hln (shal_box (g1 (by rw [set_len]))))]
              exact fp
end K21
end
section
set_option Elab.async false
set_option autoImplicit false
set_option maxRecDepth 100000
set_option linter.all false
/-! N3: clashes, merge. -/
namespace K21
open Ev
structure Good (d : Doc) : Prop where
  ok : okd d = true
  s : sz d ≤ 300
  d : dp d ≤ 40
theorem three_turn (k : Nat) (h : Mem) (a b c : Option D) {d : Doc} (g : Good d) (hk : 42 ≤ k) : evSs (prog.cx k (callF prog k)) b_check_three_0 [a, b, c, some (enc d)] h = .nx [a, b, c, some (enc d)] h := by
  obtain ⟨j, rfl⟩ : ∃ j, k = j + 1 := ⟨k - 1, by omega⟩
  have e := check_ok j d h g.ok g.s g.d (by omega)
  simp only [b_check_three_0, e, evSs, evS, evE, evL, evT, evTA, evTO, evF, evSrc, evO, evAnd, evOr, asgT, asgTs, cx_glob, cx_call, shal_int, shal_str, shal_tup, shal_lst, shal_non, shal_bl, bin_addi, bin_subi, bin_addt, bin_addl, bin_adds, bin_mod, bin_div, cmp_lt, cmp_le, cmp_gt, cmp_ge, cmp_eqi, cmp_nei, cmp_eqs, cmp_nes, cmp_ins, cmp_nins, cmp_isn, cmp_isns, item_tup, item_lst, bi_lens, bi_lent, bi_lenl, bi_int, bi_intb, bi_abs, bi_max2, bi_tuplel, bi_tuplet, itD, slice, seqD, pure_non, pure_bl, pure_int, pure_str, pure_tup, pure_lst, pures_nil, pures_cons, startF, List.replicate, List.length_cons, List.length_nil, List.set_cons_zero, List.set_cons_succ, List.getElem?_cons_zero, List.getElem?_cons_succ, List.getElem?_nil, Nat.zero_add, Nat.reduceAdd, Nat.reduceSub, Nat.reduceLT, Nat.reduceLeDiff, if_true, Bool.not_true, Bool.not_false, List.map_cons, List.map_nil, List.cons_append, List.nil_append, reduceIte, and_self, and_true, true_and, decide_true, decide_false, Bool.true_and, Bool.and_true, Bool.false_and, Bool.and_false, fin_non, fin_bl, fin_int, fin_str, finX_same', gt_iff_lt, Nat.lt_add_one, Bool.false_eq_true]
theorem three_bad (k : Nat) (h : Mem) (a b c : Option D) {l : List Nat} (hl : l.length ≤ 1000) (bad : lab l = false) (hk : 42 ≤ k) : evSs (prog.cx k (callF prog k)) b_check_three_0 [a, b, c, some (enc (.mk l []))] h = .exc 1 .non [a, b, c, some (enc (.mk l []))] h := by
  obtain ⟨j, rfl⟩ : ∃ j, k = j + 3 := ⟨k - 3, by omega⟩
  have e := check_bad j l h hl bad
  simp only [b_check_three_0, e, evSs, evS, evE, evL, evT, evTA, evTO, evF, evSrc, evO, evAnd, evOr, asgT, asgTs, cx_glob, cx_call, shal_int, shal_str, shal_tup, shal_lst, shal_non, shal_bl, bin_addi, bin_subi, bin_addt, bin_addl, bin_adds, bin_mod, bin_div, cmp_lt, cmp_le, cmp_gt, cmp_ge, cmp_eqi, cmp_nei, cmp_eqs, cmp_nes, cmp_ins, cmp_nins, cmp_isn, cmp_isns, item_tup, item_lst, bi_lens, bi_lent, bi_lenl, bi_int, bi_intb, bi_abs, bi_max2, bi_tuplel, bi_tuplet, itD, slice, seqD, pure_non, pure_bl, pure_int, pure_str, pure_tup, pure_lst, pures_nil, pures_cons, startF, List.replicate, List.length_cons, List.length_nil, List.set_cons_zero, List.set_cons_succ, List.getElem?_cons_zero, List.getElem?_cons_succ, List.getElem?_nil, Nat.zero_add, Nat.reduceAdd, Nat.reduceSub, Nat.reduceLT, Nat.reduceLeDiff, if_true, Bool.not_true, Bool.not_false, List.map_cons, List.map_nil, List.cons_append, List.nil_append, reduceIte, and_self, and_true, true_and, decide_true, decide_false, Bool.true_and, Bool.and_true, Bool.false_and, Bool.and_false, fin_non, fin_bl, fin_int, fin_str, finX_same', gt_iff_lt, Nat.lt_add_one, Bool.false_eq_true]
theorem check_three_ok (k : Nat) (h : Mem) {b f s : Doc} (gb : Good b) (gf : Good f) (gs : Good s) (hk : 42 ≤ k) : callF prog (k + 1) i_check_three [enc b, enc f, enc s] h = .ok .non h := by
  rw [callF_succ (fd := d_check_three) rfl ⟨rfl, by decide⟩]
  have l3 : 3 ≤ LIM := by decide
  have e : forL (evSs (prog.cx k (callF prog k)) b_check_three_0) (.nm 3) [enc b, enc f, enc s] [some (enc b), some (enc f), some (enc s), none] h = .nx [some (enc b), some (enc f), some (enc s), some (enc s)] h := by
    rw [forL_nx rfl (three_turn k h _ _ _ gb hk), forL_nx rfl (three_turn k h _ _ _ gf hk), forL_nx rfl (three_turn k h _ _ _ gs hk), forL]
  have es : evSrc (prog.cx k (callF prog k)) (.it (.tup (.cons (.v 0) (.cons (.v 1) (.cons (.v 2) .nil))))) [some (enc b), some (enc f), some (enc s), none] h = .ok [enc b, enc f, enc s] h := by
    simp only [l3, evSs, evS, evE, evL, evT, evTA, evTO, evF, evSrc, evO, evAnd, evOr, asgT, asgTs, cx_glob, cx_call, shal_int, shal_str, shal_tup, shal_lst, shal_non, shal_bl, bin_addi, bin_subi, bin_addt, bin_addl, bin_adds, bin_mod, bin_div, cmp_lt, cmp_le, cmp_gt, cmp_ge, cmp_eqi, cmp_nei, cmp_eqs, cmp_nes, cmp_ins, cmp_nins, cmp_isn, cmp_isns, item_tup, item_lst, bi_lens, bi_lent, bi_lenl, bi_int, bi_intb, bi_abs, bi_max2, bi_tuplel, bi_tuplet, itD, slice, seqD, pure_non, pure_bl, pure_int, pure_str, pure_tup, pure_lst, pures_nil, pures_cons, startF, List.replicate, List.length_cons, List.length_nil, List.set_cons_zero, List.set_cons_succ, List.getElem?_cons_zero, List.getElem?_cons_succ, List.getElem?_nil, Nat.zero_add, Nat.reduceAdd, Nat.reduceSub, Nat.reduceLT, Nat.reduceLeDiff, if_true, Bool.not_true, Bool.not_false, List.map_cons, List.map_nil, List.cons_append, List.nil_append, reduceIte, and_self, and_true, true_and, decide_true, decide_false, Bool.true_and, Bool.and_true, Bool.false_and, Bool.and_false, fin_non, fin_bl, fin_int, fin_str, finX_same', gt_iff_lt, Nat.lt_add_one, Bool.false_eq_true]
  have t0 : evS (prog.cx k (callF prog k)) (.for_ (.nm 3) (.it (.tup (.cons (.v 0) (.cons (.v 1) (.cons (.v 2) .nil))))) b_check_three_0) [some (enc b), some (enc f), some (enc s), none] h = .nx [some (enc b), some (enc f), some (enc s), some (enc s)] h := by
    rw [evS_for es, e]
  have t1 : evS (prog.cx k (callF prog k)) (.ret (.c .non)) [some (enc b), some (enc f), some (enc s), some (enc s)] h = .rt .non h := by
    simp only [evSs, evS, evE, evL, evT, evTA, evTO, evF, evSrc, evO, evAnd, evOr, asgT, asgTs, cx_glob, cx_call, shal_int, shal_str, shal_tup, shal_lst, shal_non, shal_bl, bin_addi, bin_subi, bin_addt, bin_addl, bin_adds, bin_mod, bin_div, cmp_lt, cmp_le, cmp_gt, cmp_ge, cmp_eqi, cmp_nei, cmp_eqs, cmp_nes, cmp_ins, cmp_nins, cmp_isn, cmp_isns, item_tup, item_lst, bi_lens, bi_lent, bi_lenl, bi_int, bi_intb, bi_abs, bi_max2, bi_tuplel, bi_tuplet, itD, slice, seqD, pure_non, pure_bl, pure_int, pure_str, pure_tup, pure_lst, pures_nil, pures_cons, startF, List.replicate, List.length_cons, List.length_nil, List.set_cons_zero, List.set_cons_succ, List.getElem?_cons_zero, List.getElem?_cons_succ, List.getElem?_nil, Nat.zero_add, Nat.reduceAdd, Nat.reduceSub, Nat.reduceLT, Nat.reduceLeDiff, if_true, Bool.not_true, Bool.not_false, List.map_cons, List.map_nil, List.cons_append, List.nil_append, reduceIte, and_self, and_true, true_and, decide_true, decide_false, Bool.true_and, Bool.and_true, Bool.false_and, Bool.and_false, fin_non, fin_bl, fin_int, fin_str, finX_same', gt_iff_lt, Nat.lt_add_one, Bool.false_eq_true]
  show (match evSs _ (.cons _ (.cons _ .nil)) [some (enc b), some (enc f), some (enc s), none] h with
    | .nx _ h1 => fin true h h1 .non
    | .rt d h1 => fin true h h1 d
    | .exc c x _ h1 => finX true h h1 c x
    | _ => .stuck) = _
  rw [seq_nx t0, seq_rt t1]
  exact fin_non
/-- one of the three is no document -/
theorem check_three_bad (k : Nat) (h : Mem) {xs : List Doc} {l : List Nat} {b f s : Doc} (hx : [b, f, s] = xs ++ [Doc.mk l []] ++ [b, f, s].drop (xs.length + 1)) (gx : ∀ x ∈ xs, Good x) (hl : l.length ≤ 1000) (bad : lab l = false) (hk : 42 ≤ k) : callF prog (k + 1) i_check_three [enc b, enc f, enc s] h = .exc 1 .non h := by
  rw [callF_succ (fd := d_check_three) rfl ⟨rfl, by decide⟩]
  have l3 : 3 ≤ LIM := by decide
  have e : ∀ (xs ys : List Doc) (a b c o : Option D), (∀ x ∈ xs, Good x) → ∃ o', forL (evSs (prog.cx k (callF prog k)) b_check_three_0) (.nm 3) ((xs ++ [Doc.mk l []] ++ ys).map enc) [a, b, c, o] h = .exc 1 .non [a, b, c, o'] h := by
    intro xs
    induction xs with
    | nil =>
      intro ys a b c o _
      refine ⟨some (enc (.mk l [])), ?_⟩
      rw [List.nil_append, List.singleton_append, List.map_cons, forL]
      simp only [asgT, List.length_cons, List.length_nil, List.set_cons_succ, List.set_cons_zero, Nat.reduceAdd, Nat.reduceLT, if_true]
      rw [three_bad k h a b c hl bad hk]
    | cons x xs ih =>
      intro ys a b c o g
      obtain ⟨o', q⟩ := ih ys a b c (some (enc x)) fun y hy => g y (List.mem_cons_of_mem _ hy)
      refine ⟨o', ?_⟩
      rw [List.cons_append, List.cons_append, List.map_cons, forL_nx rfl (three_turn k h a b c (g x List.mem_cons_self) hk)]
      exact q
  obtain ⟨o', q⟩ := e xs ([b, f, s].drop (xs.length + 1)) (some (enc b)) (some (enc f)) (some (enc s)) none gx
  rw [← hx] at q
  have es : evSrc (prog.cx k (callF prog k)) (.it (.tup (.cons (.v 0) (.cons (.v 1) (.cons (.v 2) .nil))))) [some (enc b), some (enc f), some (enc s), none] h = .ok ([b, f, s].map enc) h := by
    simp only [l3, evSs, evS, evE, evL, evT, evTA, evTO, evF, evSrc, evO, evAnd, evOr, asgT, asgTs, cx_glob, cx_call, shal_int, shal_str, shal_tup, shal_lst, shal_non, shal_bl, bin_addi, bin_subi, bin_addt, bin_addl, bin_adds, bin_mod, bin_div, cmp_lt, cmp_le, cmp_gt, cmp_ge, cmp_eqi, cmp_nei, cmp_eqs, cmp_nes, cmp_ins, cmp_nins, cmp_isn, cmp_isns, item_tup, item_lst, bi_lens, bi_lent, bi_lenl, bi_int, bi_intb, bi_abs, bi_max2, bi_tuplel, bi_tuplet, itD, slice, seqD, pure_non, pure_bl, pure_int, pure_str, pure_tup, pure_lst, pures_nil, pures_cons, startF, List.replicate, List.length_cons, List.length_nil, List.set_cons_zero, List.set_cons_succ, List.getElem?_cons_zero, List.getElem?_cons_succ, List.getElem?_nil, Nat.zero_add, Nat.reduceAdd, Nat.reduceSub, Nat.reduceLT, Nat.reduceLeDiff, if_true, Bool.not_true, Bool.not_false, List.map_cons, List.map_nil, List.cons_append, List.nil_append, reduceIte, and_self, and_true, true_and, decide_true, decide_false, Bool.true_and, Bool.and_true, Bool.false_and, Bool.and_false, fin_non, fin_bl, fin_int, fin_str, finX_same', gt_iff_lt, Nat.lt_add_one, Bool.false_eq_true]
  have t0 : evS (prog.cx k (callF prog k)) (.for_ (.nm 3) (.it (.tup (.cons (.v 0) (.cons (.v 1) (.cons (.v 2) .nil))))) b_check_three_0) [some (enc b), some (enc f), some (enc s), none] h = .exc 1 .non [some (enc b), some (enc f), some (enc s), o'] h := by
    rw [evS_for es, q]
  show (match evSs _ (.cons _ (.cons _ .nil)) [some (enc b), some (enc f), some (enc s), none] h with
    | .nx _ h1 => fin true h h1 .non
    | .rt d h1 => fin true h h1 d
    | .exc c x _ h1 => finX true h h1 c x
    | _ => .stuck) = _
  rw [seq_exc t0]
  exact finX_same
end K21
namespace K21
open Ev
/-- the two names that the merge hands out -/
abbrev mgD (b f s : Doc) : Doc := (mg c0 b f s [] 0).1
abbrev mgC (b f s : Doc) : List D := (mg c0 b f s [] 0).2
theorem clashes_ok (k : Nat) (h : Mem) {b f s : Doc} (gb : Good b) (gf : Good f) (gs : Good s) (hk : 43 ≤ k) : callF prog (k + 1) i_clashes [enc b, enc f, enc s] h = .ok (.lst (mgC b f s)) h := by
  rw [callF_succ (fd := d_clashes) rfl ⟨rfl, by decide⟩]
  have l0 : 0 ≤ LIM := by decide
  have ct : callF prog k i_check_three [enc b, enc f, enc s] h = .ok .non h := by
    obtain ⟨j, hj⟩ : ∃ j, k = j + 1 := ⟨k - 1, by omega⟩
    rw [hj]
    exact check_three_ok j h gb gf gs (by omega)
  have gb' := gb.d
  have gs' := gb.s
  have gf' := gf.d
  have gsd := gs.d
  have mo := merged_ok k b f s [] (h ++ [.box (.lst [])]) h.length [] 0 (by omega) (by omega) (by omega) (by omega) (by omega) (by simp; omega) rfl rfl m1_get0 (by simp; omega)
  rw [m1_set0, List.nil_append] at mo
  have pu := mg_pure c0 b f s [] 0 rfl
  have t0 : evS (prog.cx k (callF prog k)) (.expr (.call 6 (.cons (.v 0) (.cons (.v 1) (.cons (.v 2) .nil))))) [some (enc b), some (enc f), some (enc s), none] h = .nx [some (enc b), some (enc f), some (enc s), none] h := by
    simp only [ct, evSs, evS, evE, evL, evT, evTA, evTO, evF, evSrc, evO, evAnd, evOr, asgT, asgTs, cx_glob, cx_call, shal_int, shal_str, shal_tup, shal_lst, shal_non, shal_bl, bin_addi, bin_subi, bin_addt, bin_addl, bin_adds, bin_mod, bin_div, cmp_lt, cmp_le, cmp_gt, cmp_ge, cmp_eqi, cmp_nei, cmp_eqs, cmp_nes, cmp_ins, cmp_nins, cmp_isn, cmp_isns, item_tup, item_lst, bi_lens, bi_lent, bi_lenl, bi_int, bi_intb, bi_abs, bi_max2, bi_tuplel, bi_tuplet, itD, slice, seqD, pure_non, pure_bl, pure_int, pure_str, pure_tup, pure_lst, pures_nil, pures_cons, startF, List.replicate, List.length_cons, List.length_nil, List.set_cons_zero, List.set_cons_succ, List.getElem?_cons_zero, List.getElem?_cons_succ, List.getElem?_nil, Nat.zero_add, Nat.reduceAdd, Nat.reduceSub, Nat.reduceLT, Nat.reduceLeDiff, if_true, Bool.not_true, Bool.not_false, List.map_cons, List.map_nil, List.cons_append, List.nil_append, reduceIte, and_self, and_true, true_and, decide_true, decide_false, Bool.true_and, Bool.and_true, Bool.false_and, Bool.and_false, fin_non, fin_bl, fin_int, fin_str, finX_same', gt_iff_lt, Nat.lt_add_one, Bool.false_eq_true]
  have t1 : evS (prog.cx k (callF prog k)) (.asg (.nm 3) (.nw (.lst .nil))) [some (enc b), some (enc f), some (enc s), none] h = .nx [some (enc b), some (enc f), some (enc s), some (.loc h.length)] (h ++ [.box (.lst [])]) := by
    simp only [l0, evSs, evS, evE, evL, evT, evTA, evTO, evF, evSrc, evO, evAnd, evOr, asgT, asgTs, cx_glob, cx_call, shal_int, shal_str, shal_tup, shal_lst, shal_non, shal_bl, bin_addi, bin_subi, bin_addt, bin_addl, bin_adds, bin_mod, bin_div, cmp_lt, cmp_le, cmp_gt, cmp_ge, cmp_eqi, cmp_nei, cmp_eqs, cmp_nes, cmp_ins, cmp_nins, cmp_isn, cmp_isns, item_tup, item_lst, bi_lens, bi_lent, bi_lenl, bi_int, bi_intb, bi_abs, bi_max2, bi_tuplel, bi_tuplet, itD, slice, seqD, pure_non, pure_bl, pure_int, pure_str, pure_tup, pure_lst, pures_nil, pures_cons, startF, List.replicate, List.length_cons, List.length_nil, List.set_cons_zero, List.set_cons_succ, List.getElem?_cons_zero, List.getElem?_cons_succ, List.getElem?_nil, Nat.zero_add, Nat.reduceAdd, Nat.reduceSub, Nat.reduceLT, Nat.reduceLeDiff, if_true, Bool.not_true, Bool.not_false, List.map_cons, List.map_nil, List.cons_append, List.nil_append, reduceIte, and_self, and_true, true_and, decide_true, decide_false, Bool.true_and, Bool.and_true, Bool.false_and, Bool.and_false, fin_non, fin_bl, fin_int, fin_str, finX_same', gt_iff_lt, Nat.lt_add_one, Bool.false_eq_true]
  have t2 : evS (prog.cx k (callF prog k)) (.expr (.call 4 (.cons (.v 0) (.cons (.v 1) (.cons (.v 2) (.cons (.tup .nil) (.cons (.v 3) .nil))))))) [some (enc b), some (enc f), some (enc s), some (.loc h.length)] (h ++ [.box (.lst [])]) = .nx [some (enc b), some (enc f), some (enc s), some (.loc h.length)] (h ++ [.box (.lst (mgC b f s))]) := by
    simp only [l0, mo, evSs, evS, evE, evL, evT, evTA, evTO, evF, evSrc, evO, evAnd, evOr, asgT, asgTs, cx_glob, cx_call, shal_int, shal_str, shal_tup, shal_lst, shal_non, shal_bl, bin_addi, bin_subi, bin_addt, bin_addl, bin_adds, bin_mod, bin_div, cmp_lt, cmp_le, cmp_gt, cmp_ge, cmp_eqi, cmp_nei, cmp_eqs, cmp_nes, cmp_ins, cmp_nins, cmp_isn, cmp_isns, item_tup, item_lst, bi_lens, bi_lent, bi_lenl, bi_int, bi_intb, bi_abs, bi_max2, bi_tuplel, bi_tuplet, itD, slice, seqD, pure_non, pure_bl, pure_int, pure_str, pure_tup, pure_lst, pures_nil, pures_cons, startF, List.replicate, List.length_cons, List.length_nil, List.set_cons_zero, List.set_cons_succ, List.getElem?_cons_zero, List.getElem?_cons_succ, List.getElem?_nil, Nat.zero_add, Nat.reduceAdd, Nat.reduceSub, Nat.reduceLT, Nat.reduceLeDiff, if_true, Bool.not_true, Bool.not_false, List.map_cons, List.map_nil, List.cons_append, List.nil_append, reduceIte, and_self, and_true, true_and, decide_true, decide_false, Bool.true_and, Bool.and_true, Bool.false_and, Bool.and_false, fin_non, fin_bl, fin_int, fin_str, finX_same', gt_iff_lt, Nat.lt_add_one, Bool.false_eq_true]
  have t3 : evS (prog.cx k (callF prog k)) (.ret (.frz (.v 3))) [some (enc b), some (enc f), some (enc s), some (.loc h.length)] (h ++ [.box (.lst (mgC b f s))]) = .rt (.lst (mgC b f s)) (h ++ [.gone]) := by
    simp only [m1_get0, m1_set0, evSs, evS, evE, evL, evT, evTA, evTO, evF, evSrc, evO, evAnd, evOr, asgT, asgTs, cx_glob, cx_call, shal_int, shal_str, shal_tup, shal_lst, shal_non, shal_bl, bin_addi, bin_subi, bin_addt, bin_addl, bin_adds, bin_mod, bin_div, cmp_lt, cmp_le, cmp_gt, cmp_ge, cmp_eqi, cmp_nei, cmp_eqs, cmp_nes, cmp_ins, cmp_nins, cmp_isn, cmp_isns, item_tup, item_lst, bi_lens, bi_lent, bi_lenl, bi_int, bi_intb, bi_abs, bi_max2, bi_tuplel, bi_tuplet, itD, slice, seqD, pure_non, pure_bl, pure_int, pure_str, pure_tup, pure_lst, pures_nil, pures_cons, startF, List.replicate, List.length_cons, List.length_nil, List.set_cons_zero, List.set_cons_succ, List.getElem?_cons_zero, List.getElem?_cons_succ, List.getElem?_nil, Nat.zero_add, Nat.reduceAdd, Nat.reduceSub, Nat.reduceLT, Nat.reduceLeDiff, if_true, Bool.not_true, Bool.not_false, List.map_cons, List.map_nil, List.cons_append, List.nil_append, reduceIte, and_self, and_true, true_and, decide_true, decide_false, Bool.true_and, Bool.and_true, Bool.false_and, Bool.and_false, fin_non, fin_bl, fin_int, fin_str, finX_same', gt_iff_lt, Nat.lt_add_one, Bool.false_eq_true]
  show (match evSs _ (.cons _ (.cons _ (.cons _ (.cons _ .nil)))) [some (enc b), some (enc f), some (enc s), none] h with
    | .nx _ h1 => fin true h h1 .non
    | .rt d h1 => fin true h h1 d
    | .exc c x _ h1 => finX true h h1 c x
    | _ => .stuck) = _
  rw [seq_nx t0, seq_nx t1, seq_nx t2, seq_rt t3]
  exact fin_app (D.pure_ok _ _ pu) rfl
end K21
namespace K21
open Ev
theorem merge_ok (k : Nat) (h : Mem) {b f s : Doc} (gb : Good b) (gf : Good f) (gs : Good s) (hk : 43 ≤ k) : callF prog (k + 1) i_merge [enc b, enc f, enc s] h =
    if mgC b f s ≠ [] then .exc 3 .non h else if 300 < sz (mgD b f s) then .exc 2 .non h else .ok (enc (mgD b f s)) h := by
  rw [callF_succ (fd := d_merge) rfl ⟨rfl, by decide⟩]
  have l0 : 0 ≤ LIM := by decide
  have ct : callF prog k i_check_three [enc b, enc f, enc s] h = .ok .non h := by
    obtain ⟨j, hj⟩ : ∃ j, k = j + 1 := ⟨k - 1, by omega⟩
    rw [hj]
    exact check_three_ok j h gb gf gs (by omega)
  have gb' := gb.d
  have gs' := gb.s
  have gf' := gf.d
  have gsd := gs.d
  have mo := merged_ok k b f s [] (h ++ [.box (.lst [])]) h.length [] 0 (by omega) (by omega) (by omega) (by omega) (by omega) (by simp; omega) rfl rfl m1_get0 (by simp; omega)
  rw [m1_set0, List.nil_append] at mo
  have dpm : dp (mgD b f s) ≤ 40 := mg_dp c0 b f s [] 0 40 gb' gf' gsd
  have ms := measured_ok k (mgD b f s) (h ++ [.box (.lst (mgC b f s))]) (by omega)
  have t0 : evS (prog.cx k (callF prog k)) s_merge_0 [some (enc b), some (enc f), some (enc s), none, none, none, none] h = .nx [some (enc b), some (enc f), some (enc s), none, none, none, none] h := by
    simp only [s_merge_0, ct, evSs, evS, evE, evL, evT, evTA, evTO, evF, evSrc, evO, evAnd, evOr, asgT, asgTs, cx_glob, cx_call, shal_int, shal_str, shal_tup, shal_lst, shal_non, shal_bl, bin_addi, bin_subi, bin_addt, bin_addl, bin_adds, bin_mod, bin_div, cmp_lt, cmp_le, cmp_gt, cmp_ge, cmp_eqi, cmp_nei, cmp_eqs, cmp_nes, cmp_ins, cmp_nins, cmp_isn, cmp_isns, item_tup, item_lst, bi_lens, bi_lent, bi_lenl, bi_int, bi_intb, bi_abs, bi_max2, bi_tuplel, bi_tuplet, itD, slice, seqD, pure_non, pure_bl, pure_int, pure_str, pure_tup, pure_lst, pures_nil, pures_cons, startF, List.replicate, List.length_cons, List.length_nil, List.set_cons_zero, List.set_cons_succ, List.getElem?_cons_zero, List.getElem?_cons_succ, List.getElem?_nil, Nat.zero_add, Nat.reduceAdd, Nat.reduceSub, Nat.reduceLT, Nat.reduceLeDiff, if_true, Bool.not_true, Bool.not_false, List.map_cons, List.map_nil, List.cons_append, List.nil_append, reduceIte, and_self, and_true, true_and, decide_true, decide_false, Bool.true_and, Bool.and_true, Bool.false_and, Bool.and_false, fin_non, fin_bl, fin_int, fin_str, finX_same', gt_iff_lt, Nat.lt_add_one, Bool.false_eq_true]
  have t1 : evS (prog.cx k (callF prog k)) s_merge_1 [some (enc b), some (enc f), some (enc s), none, none, none, none] h = .nx [some (enc b), some (enc f), some (enc s), some (.loc h.length), none, none, none] (h ++ [.box (.lst [])]) := by
    simp only [s_merge_1, l0, evSs, evS, evE, evL, evT, evTA, evTO, evF, evSrc, evO, evAnd, evOr, asgT, asgTs, cx_glob, cx_call, shal_int, shal_str, shal_tup, shal_lst, shal_non, shal_bl, bin_addi, bin_subi, bin_addt, bin_addl, bin_adds, bin_mod, bin_div, cmp_lt, cmp_le, cmp_gt, cmp_ge, cmp_eqi, cmp_nei, cmp_eqs, cmp_nes, cmp_ins, cmp_nins, cmp_isn, cmp_isns, item_tup, item_lst, bi_lens, bi_lent, bi_lenl, bi_int, bi_intb, bi_abs, bi_max2, bi_tuplel, bi_tuplet, itD, slice, seqD, pure_non, pure_bl, pure_int, pure_str, pure_tup, pure_lst, pures_nil, pures_cons, startF, List.replicate, List.length_cons, List.length_nil, List.set_cons_zero, List.set_cons_succ, List.getElem?_cons_zero, List.getElem?_cons_succ, List.getElem?_nil, Nat.zero_add, Nat.reduceAdd, Nat.reduceSub, Nat.reduceLT, Nat.reduceLeDiff, if_true, Bool.not_true, Bool.not_false, List.map_cons, List.map_nil, List.cons_append, List.nil_append, reduceIte, and_self, and_true, true_and, decide_true, decide_false, Bool.true_and, Bool.and_true, Bool.false_and, Bool.and_false, fin_non, fin_bl, fin_int, fin_str, finX_same', gt_iff_lt, Nat.lt_add_one, Bool.false_eq_true]
  have t2 : evS (prog.cx k (callF prog k)) s_merge_2 [some (enc b), some (enc f), some (enc s), some (.loc h.length), none, none, none] (h ++ [.box (.lst [])]) = .nx [some (enc b), some (enc f), some (enc s), some (.loc h.length), some (enc (mgD b f s)), none, none] (h ++ [.box (.lst (mgC b f s))]) := by
    simp only [s_merge_2, l0, mo, evSs, evS, evE, evL, evT, evTA, evTO, evF, evSrc, evO, evAnd, evOr, asgT, asgTs, cx_glob, cx_call, shal_int, shal_str, shal_tup, shal_lst, shal_non, shal_bl, bin_addi, bin_subi, bin_addt, bin_addl, bin_adds, bin_mod, bin_div, cmp_lt, cmp_le, cmp_gt, cmp_ge, cmp_eqi, cmp_nei, cmp_eqs, cmp_nes, cmp_ins, cmp_nins, cmp_isn, cmp_isns, item_tup, item_lst, bi_lens, bi_lent, bi_lenl, bi_int, bi_intb, bi_abs, bi_max2, bi_tuplel, bi_tuplet, itD, slice, seqD, pure_non, pure_bl, pure_int, pure_str, pure_tup, pure_lst, pures_nil, pures_cons, startF, List.replicate, List.length_cons, List.length_nil, List.set_cons_zero, List.set_cons_succ, List.getElem?_cons_zero, List.getElem?_cons_succ, List.getElem?_nil, Nat.zero_add, Nat.reduceAdd, Nat.reduceSub, Nat.reduceLT, Nat.reduceLeDiff, if_true, Bool.not_true, Bool.not_false, List.map_cons, List.map_nil, List.cons_append, List.nil_append, reduceIte, and_self, and_true, true_and, decide_true, decide_false, Bool.true_and, Bool.and_true, Bool.false_and, Bool.and_false, fin_non, fin_bl, fin_int, fin_str, finX_same', gt_iff_lt, Nat.lt_add_one, Bool.false_eq_true]
  have fr0 : startF d_merge.ns [enc b, enc f, enc s] = [some (enc b), some (enc f), some (enc s), none, none, none, none] := rfl
  have bodyE : d_merge.body = .cons s_merge_0 (.cons s_merge_1 (.cons s_merge_2 (.cons s_merge_3 (.cons s_merge_4 (.cons s_merge_5 (.cons s_merge_6 .nil)))))) := rfl
  rw [bodyE, fr0, seq_nx t0, seq_nx t1, seq_nx t2]
  have bl := bi_lenb (m1_get0 (h := h) (a := .box (.lst (mgC b f s))))
  by_cases hc : mgC b f s = []
  · rw [if_neg (fun z => z hc)]
    have t3 : evS (prog.cx k (callF prog k)) s_merge_3 [some (enc b), some (enc f), some (enc s), some (.loc h.length), some (enc (mgD b f s)), none, none] (h ++ [.box (.lst (mgC b f s))]) = .nx [some (enc b), some (enc f), some (enc s), some (.loc h.length), some (enc (mgD b f s)), none, none] (h ++ [.box (.lst (mgC b f s))]) := by
      have z : ¬ (0 : Int) < ((mgC b f s).length : Int) := by rw [hc]; simp
      simp only [s_merge_3, bl, z, evSs, evS, evE, evL, evT, evTA, evTO, evF, evSrc, evO, evAnd, evOr, asgT, asgTs, cx_glob, cx_call, shal_int, shal_str, shal_tup, shal_lst, shal_non, shal_bl, bin_addi, bin_subi, bin_addt, bin_addl, bin_adds, bin_mod, bin_div, cmp_lt, cmp_le, cmp_gt, cmp_ge, cmp_eqi, cmp_nei, cmp_eqs, cmp_nes, cmp_ins, cmp_nins, cmp_isn, cmp_isns, item_tup, item_lst, bi_lens, bi_lent, bi_lenl, bi_int, bi_intb, bi_abs, bi_max2, bi_tuplel, bi_tuplet, itD, slice, seqD, pure_non, pure_bl, pure_int, pure_str, pure_tup, pure_lst, pures_nil, pures_cons, startF, List.replicate, List.length_cons, List.length_nil, List.set_cons_zero, List.set_cons_succ, List.getElem?_cons_zero, List.getElem?_cons_succ, List.getElem?_nil, Nat.zero_add, Nat.reduceAdd, Nat.reduceSub, Nat.reduceLT, Nat.reduceLeDiff, if_true, Bool.not_true, Bool.not_false, List.map_cons, List.map_nil, List.cons_append, List.nil_append, reduceIte, and_self, and_true, true_and, decide_true, decide_false, Bool.true_and, Bool.and_true, Bool.false_and, Bool.and_false, fin_non, fin_bl, fin_int, fin_str, finX_same', gt_iff_lt, Nat.lt_add_one, Bool.false_eq_true]
    have t4 : evS (prog.cx k (callF prog k)) s_merge_4 [some (enc b), some (enc f), some (enc s), some (.loc h.length), some (enc (mgD b f s)), none, none] (h ++ [.box (.lst (mgC b f s))]) = .nx [some (enc b), some (enc f), some (enc s), some (.loc h.length), some (enc (mgD b f s)), some (.int (sz (mgD b f s))), some (.int (dp (mgD b f s)))] (h ++ [.box (.lst (mgC b f s))]) := by
      simp only [s_merge_4, ms, evSs, evS, evE, evL, evT, evTA, evTO, evF, evSrc, evO, evAnd, evOr, asgT, asgTs, cx_glob, cx_call, shal_int, shal_str, shal_tup, shal_lst, shal_non, shal_bl, bin_addi, bin_subi, bin_addt, bin_addl, bin_adds, bin_mod, bin_div, cmp_lt, cmp_le, cmp_gt, cmp_ge, cmp_eqi, cmp_nei, cmp_eqs, cmp_nes, cmp_ins, cmp_nins, cmp_isn, cmp_isns, item_tup, item_lst, bi_lens, bi_lent, bi_lenl, bi_int, bi_intb, bi_abs, bi_max2, bi_tuplel, bi_tuplet, itD, slice, seqD, pure_non, pure_bl, pure_int, pure_str, pure_tup, pure_lst, pures_nil, pures_cons, startF, List.replicate, List.length_cons, List.length_nil, List.set_cons_zero, List.set_cons_succ, List.getElem?_cons_zero, List.getElem?_cons_succ, List.getElem?_nil, Nat.zero_add, Nat.reduceAdd, Nat.reduceSub, Nat.reduceLT, Nat.reduceLeDiff, if_true, Bool.not_true, Bool.not_false, List.map_cons, List.map_nil, List.cons_append, List.nil_append, reduceIte, and_self, and_true, true_and, decide_true, decide_false, Bool.true_and, Bool.and_true, Bool.false_and, Bool.and_false, fin_non, fin_bl, fin_int, fin_str, finX_same', gt_iff_lt, Nat.lt_add_one, Bool.false_eq_true]
    rw [seq_nx t3, seq_nx t4]
    by_cases hz : 300 < sz (mgD b f s)
    · rw [if_pos hz]
      have t5 : evS (prog.cx k (callF prog k)) s_merge_5 [some (enc b), some (enc f), some (enc s), some (.loc h.length), some (enc (mgD b f s)), some (.int (sz (mgD b f s))), some (.int (dp (mgD b f s)))] (h ++ [.box (.lst (mgC b f s))]) = .exc 2 .non [some (enc b), some (enc f), some (enc s), some (.loc h.length), some (enc (mgD b f s)), some (.int (sz (mgD b f s))), some (.int (dp (mgD b f s)))] (h ++ [.box (.lst (mgC b f s))]) := by
        have z : (300 : Int) < (sz (mgD b f s) : Int) := by omega
        simp only [s_merge_5, gl2, z, evSs, evS, evE, evL, evT, evTA, evTO, evF, evSrc, evO, evAnd, evOr, asgT, asgTs, cx_glob, cx_call, shal_int, shal_str, shal_tup, shal_lst, shal_non, shal_bl, bin_addi, bin_subi, bin_addt, bin_addl, bin_adds, bin_mod, bin_div, cmp_lt, cmp_le, cmp_gt, cmp_ge, cmp_eqi, cmp_nei, cmp_eqs, cmp_nes, cmp_ins, cmp_nins, cmp_isn, cmp_isns, item_tup, item_lst, bi_lens, bi_lent, bi_lenl, bi_int, bi_intb, bi_abs, bi_max2, bi_tuplel, bi_tuplet, itD, slice, seqD, pure_non, pure_bl, pure_int, pure_str, pure_tup, pure_lst, pures_nil, pures_cons, startF, List.replicate, List.length_cons, List.length_nil, List.set_cons_zero, List.set_cons_succ, List.getElem?_cons_zero, List.getElem?_cons_succ, List.getElem?_nil, Nat.zero_add, Nat.reduceAdd, Nat.reduceSub, Nat.reduceLT, Nat.reduceLeDiff, if_true, Bool.not_true, Bool.not_false, List.map_cons, List.map_nil, List.cons_append, List.nil_append, reduceIte, and_self, and_true, true_and, decide_true, decide_false, Bool.true_and, Bool.and_true, Bool.false_and, Bool.and_false, fin_non, fin_bl, fin_int, fin_str, finX_same', gt_iff_lt, Nat.lt_add_one, Bool.false_eq_true]
      rw [seq_exc t5]
      exact finX_app rfl
    · rw [if_neg hz]
      have t5 : evS (prog.cx k (callF prog k)) s_merge_5 [some (enc b), some (enc f), some (enc s), some (.loc h.length), some (enc (mgD b f s)), some (.int (sz (mgD b f s))), some (.int (dp (mgD b f s)))] (h ++ [.box (.lst (mgC b f s))]) = .nx [some (enc b), some (enc f), some (enc s), some (.loc h.length), some (enc (mgD b f s)), some (.int (sz (mgD b f s))), some (.int (dp (mgD b f s)))] (h ++ [.box (.lst (mgC b f s))]) := by
        have z : ¬ (300 : Int) < (sz (mgD b f s) : Int) := by omega
        have z2 : ¬ (40 : Int) < (dp (mgD b f s) : Int) := by omega
        simp only [s_merge_5, gl2, gl3, z, z2, evSs, evS, evE, evL, evT, evTA, evTO, evF, evSrc, evO, evAnd, evOr, asgT, asgTs, cx_glob, cx_call, shal_int, shal_str, shal_tup, shal_lst, shal_non, shal_bl, bin_addi, bin_subi, bin_addt, bin_addl, bin_adds, bin_mod, bin_div, cmp_lt, cmp_le, cmp_gt, cmp_ge, cmp_eqi, cmp_nei, cmp_eqs, cmp_nes, cmp_ins, cmp_nins, cmp_isn, cmp_isns, item_tup, item_lst, bi_lens, bi_lent, bi_lenl, bi_int, bi_intb, bi_abs, bi_max2, bi_tuplel, bi_tuplet, itD, slice, seqD, pure_non, pure_bl, pure_int, pure_str, pure_tup, pure_lst, pures_nil, pures_cons, startF, List.replicate, List.length_cons, List.length_nil, List.set_cons_zero, List.set_cons_succ, List.getElem?_cons_zero, List.getElem?_cons_succ, List.getElem?_nil, Nat.zero_add, Nat.reduceAdd, Nat.reduceSub, Nat.reduceLT, Nat.reduceLeDiff, if_true, Bool.not_true, Bool.not_false, List.map_cons, List.map_nil, List.cons_append, List.nil_append, reduceIte, and_self, and_true, true_and, decide_true, decide_false, Bool.true_and, Bool.and_true, Bool.false_and, Bool.and_false, fin_non, fin_bl, fin_int, fin_str, finX_same', gt_iff_lt, Nat.lt_add_one, Bool.false_eq_true]
      have t6 : evS (prog.cx k (callF prog k)) s_merge_6 [some (enc b), some (enc f), some (enc s), some (.loc h.length), some (enc (mgD b f s)), some (.int (sz (mgD b f s))), some (.int (dp (mgD b f s)))] (h ++ [.box (.lst (mgC b f s))]) = .rt (enc (mgD b f s)) (h ++ [.box (.lst (mgC b f s))]) := by
        simp only [s_merge_6, evSs, evS, evE, evL, evT, evTA, evTO, evF, evSrc, evO, evAnd, evOr, asgT, asgTs, cx_glob, cx_call, shal_int, shal_str, shal_tup, shal_lst, shal_non, shal_bl, bin_addi, bin_subi, bin_addt, bin_addl, bin_adds, bin_mod, bin_div, cmp_lt, cmp_le, cmp_gt, cmp_ge, cmp_eqi, cmp_nei, cmp_eqs, cmp_nes, cmp_ins, cmp_nins, cmp_isn, cmp_isns, item_tup, item_lst, bi_lens, bi_lent, bi_lenl, bi_int, bi_intb, bi_abs, bi_max2, bi_tuplel, bi_tuplet, itD, slice, seqD, pure_non, pure_bl, pure_int, pure_str, pure_tup, pure_lst, pures_nil, pures_cons, startF, List.replicate, List.length_cons, List.length_nil, List.set_cons_zero, List.set_cons_succ, List.getElem?_cons_zero, List.getElem?_cons_succ, List.getElem?_nil, Nat.zero_add, Nat.reduceAdd, Nat.reduceSub, Nat.reduceLT, Nat.reduceLeDiff, if_true, Bool.not_true, Bool.not_false, List.map_cons, List.map_nil, List.cons_append, List.nil_append, reduceIte, and_self, and_true, true_and, decide_true, decide_false, Bool.true_and, Bool.and_true, Bool.false_and, Bool.and_false, fin_non, fin_bl, fin_int, fin_str, finX_same', gt_iff_lt, Nat.lt_add_one, Bool.false_eq_true]
      rw [seq_nx t5, seq_rt t6]
      exact fin_app (D.pure_ok _ _ (enc_pure _)) rfl
  · rw [if_pos hc]
    have t3 : evS (prog.cx k (callF prog k)) s_merge_3 [some (enc b), some (enc f), some (enc s), some (.loc h.length), some (enc (mgD b f s)), none, none] (h ++ [.box (.lst (mgC b f s))]) = .exc 3 .non [some (enc b), some (enc f), some (enc s), some (.loc h.length), some (enc (mgD b f s)), none, none] (h ++ [.box (.lst (mgC b f s))]) := by
      have z : (0 : Int) < ((mgC b f s).length : Int) := by have := List.length_pos_iff.mpr hc; omega
      simp only [s_merge_3, bl, z, evSs, evS, evE, evL, evT, evTA, evTO, evF, evSrc, evO, evAnd, evOr, asgT, asgTs, cx_glob, cx_call, shal_int, shal_str, shal_tup, shal_lst, shal_non, shal_bl, bin_addi, bin_subi, bin_addt, bin_addl, bin_adds, bin_mod, bin_div, cmp_lt, cmp_le, cmp_gt, cmp_ge, cmp_eqi, cmp_nei, cmp_eqs, cmp_nes, cmp_ins, cmp_nins, cmp_isn, cmp_isns, item_tup, item_lst, bi_lens, bi_lent, bi_lenl, bi_int, bi_intb, bi_abs, bi_max2, bi_tuplel, bi_tuplet, itD, slice, seqD, pure_non, pure_bl, pure_int, pure_str, pure_tup, pure_lst, pures_nil, pures_cons, startF, List.replicate, List.length_cons, List.length_nil, List.set_cons_zero, List.set_cons_succ, List.getElem?_cons_zero, List.getElem?_cons_succ, List.getElem?_nil, Nat.zero_add, Nat.reduceAdd, Nat.reduceSub, Nat.reduceLT, Nat.reduceLeDiff, if_true, Bool.not_true, Bool.not_false, List.map_cons, List.map_nil, List.cons_append, List.nil_append, reduceIte, and_self, and_true, true_and, decide_true, decide_false, Bool.true_and, Bool.and_true, Bool.false_and, Bool.and_false, fin_non, fin_bl, fin_int, fin_str, finX_same', gt_iff_lt, Nat.lt_add_one, Bool.false_eq_true]
    rw [seq_exc t3]
    exact finX_app rfl
end K21
end
section
set_option Elab.async false
set_option autoImplicit false
set_option maxRecDepth 100000
set_option linter.all false
/-! N4: where two documents differ. -/
namespace K21
open Ev
mutual
def ap : Doc → Doc → List D → List D
  | .mk l ks, s, p => if Doc.mk l ks = s then [] else if l ≠ s.lb ∨ ks.length ≠ s.ks.length then [.tup p] else aps ks s.ks p 0
def aps : List Doc → List Doc → List D → Nat → List D
  | a :: as, b :: bs, p, i => ap a b (p ++ [.int i]) ++ aps as bs p (i + 1)
  | _, _, _, _ => []
end
mutual
theorem ap_len : ∀ (f s : Doc) (p : List D), (ap f s p).length ≤ sz f
  | .mk l ks, s, p => by
    have h0 := aps_len ks s.ks p 0
    rw [ap, sz]
    split
    · exact Nat.zero_le _
    · split
      · simp
      · omega
theorem aps_len : ∀ (f s : List Doc) (p : List D) (i : Nat), (aps f s p i).length ≤ szs f
  | [], _, _, _ => by simp [aps]
  | a :: as, [], _, _ => by simp [aps]
  | a :: as, b :: bs, p, i => by
    have h0 := ap_len a b (p ++ [.int (i : Int)])
    have h1 := aps_len as bs p (i + 1)
    rw [aps, szs, List.length_append]
    omega
end
mutual
theorem ap_pure : ∀ (f s : Doc) (p : List D), D.pures p = true → D.pures (ap f s p) = true
  | .mk l ks, s, p, hp => by
    have h0 := aps_pure ks s.ks p 0 hp
    rw [ap]
    split
    · rfl
    · split
      · simp [hp]
      · exact h0
theorem aps_pure : ∀ (f s : List Doc) (p : List D) (i : Nat), D.pures p = true → D.pures (aps f s p i) = true
  | [], _, _, _, _ => by simp [aps]
  | a :: as, [], _, _, _ => by simp [aps]
  | a :: as, b :: bs, p, i, hp => by
    have hq : D.pures (p ++ [D.int (i : Int)]) = true := by rw [pures_app, hp]; rfl
    have h0 := ap_pure a b (p ++ [.int (i : Int)]) hq
    have h1 := aps_pure as bs p (i + 1) hp
    rw [aps, pures_app, h0, h1]
    rfl
end
def KaOk (k : Nat) : Prop := ∀ (f s : Doc) (p : List D) (h : Mem), dp f + 1 ≤ k → dp f ≤ 60 → dp s ≤ 60 → sz f ≤ 900 → p.length + dp f ≤ 900 → D.pures p = true →
  callF prog k i_known_apart [enc f, enc s, .tup p] h = .ok (.lst (ap f s p)) h
theorem apart_loop (k : Nat) (ihk : KaOk k) (lf ls : List Nat) (kf ks : List Doc) (p : List D) (hp : D.pures p = true) (hf : dps kf ≤ 60) (hs : dps ks ≤ 60) (hk : dps kf ≤ k) (hpl : p.length + dps kf ≤ 900) (h : Mem) :
    ∀ (f' s' pf ps : List Doc) (acc : List D) (i : Nat) (o4 : Option D), kf = pf ++ f' → ks = ps ++ s' → pf.length = i → ps.length = i → f'.length = s'.length → acc.length + szs f' ≤ 50000 → szs f' ≤ 900 →
    ∃ o4', forL (evSs (prog.cx k (callF prog k)) b_known_apart_0) (.nm 4) (rngL i 1 f'.length) [some (enc (.mk lf kf)), some (enc (.mk ls ks)), some (.tup p), some (.loc h.length), o4] (h ++ [.box (.lst acc)]) =
      .nx [some (enc (.mk lf kf)), some (enc (.mk ls ks)), some (.tup p), some (.loc h.length), o4'] (h ++ [.box (.lst (acc ++ aps f' s' p i))]) := by
  intro f'
  induction f' with
  | nil =>
    intro s' pf ps acc i o4 _ _ _ _ _ _ _
    exact ⟨o4, by simp [rngL, forL, aps]⟩
  | cons f fs ih =>
    intro s' pf ps acc i o4 ef es lf' ls' q ha hz
    cases s' with
    | nil => simp at q
    | cons s ss =>
      subst ef es
      have mf : dp f + 1 ≤ dps (pf ++ f :: fs) := dp_mem (by simp)
      have ms : dp s + 1 ≤ dps (ps ++ s :: ss) := dp_mem (by simp)
      rw [szs] at ha hz
      have hq : D.pures (p ++ [D.int (i : Int)]) = true := by rw [pures_app, hp]; rfl
      have call := ihk f s (p ++ [D.int (i : Int)]) (h ++ [.box (.lst acc)]) (by omega) (by omega) (by omega) (by omega) (by rw [List.length_append]; simp; omega) hq
      have al := ap_len f s (p ++ [D.int (i : Int)])
      obtain ⟨o4', er⟩ := ih ss (pf ++ [f]) (ps ++ [s]) (acc ++ ap f s (p ++ [D.int (i : Int)])) (i + 1) (some (.int (i : Int))) (by simp) (by simp) (by simp; exact lf') (by simp; exact ls') (by simpa using q) (by rw [List.length_append]; omega) (by omega)
      refine ⟨o4', ?_⟩
      have lp : p.length + 1 ≤ LIM := lim_lt (by omega)
      have la : acc.length + (ap f s (p ++ [D.int (i : Int)])).length ≤ LIM := lim_lt (by omega)
      have ga : evL (prog.cx k (callF prog k)) (.cons (.call 12 (.cons (.ix (.v 0) (.bin .add (.v 4) (.c (.int 1)))) (.cons (.ix (.v 1) (.bin .add (.v 4) (.c (.int 1)))) (.cons (.tup (.star (.v 2) (.cons (.v 4) .nil))) .nil)))) .nil)
          [some (enc (.mk lf (pf ++ f :: fs))), some (enc (.mk ls (ps ++ s :: ss))), some (.tup p), some (.loc h.length), some (.int (i : Int))] (h ++ [.box (.lst acc)]) = .ok [.lst (ap f s (p ++ [D.int (i : Int)]))] (h ++ [.box (.lst acc)]) := by
        rw [show enc (.mk lf (pf ++ f :: fs)) = .tup (.str lf :: encs (pf ++ f :: fs)) from by rw [enc], show enc (.mk ls (ps ++ s :: ss)) = .tup (.str ls :: encs (ps ++ s :: ss)) from by rw [enc]]
        have c2 := at_child (l := lf) (suf := fs) (d := f) lf'
        have c3 := at_child (l := ls) (suf := ss) (d := s) ls'
        simp only [c2, c3, lp, call, List.length_append, evSs, evS, evE, evL, evT, evTA, evTO, evF, evSrc, evO, evAnd, evOr, asgT, asgTs, cx_glob, cx_call, shal_int, shal_str, shal_tup, shal_lst, shal_non, shal_bl, bin_addi, bin_subi, bin_addt, bin_addl, bin_adds, bin_mod, bin_div, cmp_lt, cmp_le, cmp_gt, cmp_ge, cmp_eqi, cmp_nei, cmp_eqs, cmp_nes, cmp_ins, cmp_nins, cmp_isn, cmp_isns, item_tup, item_lst, bi_lens, bi_lent, bi_lenl, bi_int, bi_intb, bi_abs, bi_max2, bi_tuplel, bi_tuplet, itD, slice, seqD, pure_non, pure_bl, pure_int, pure_str, pure_tup, pure_lst, pures_nil, pures_cons, startF, List.replicate, List.length_cons, List.length_nil, List.set_cons_zero, List.set_cons_succ, List.getElem?_cons_zero, List.getElem?_cons_succ, List.getElem?_nil, Nat.zero_add, Nat.reduceAdd, Nat.reduceSub, Nat.reduceLT, Nat.reduceLeDiff, if_true, Bool.not_true, Bool.not_false, List.map_cons, List.map_nil, List.cons_append, List.nil_append, reduceIte, and_self, and_true, true_and, decide_true, decide_false, Bool.true_and, Bool.and_true, Bool.false_and, Bool.and_false, fin_non, fin_bl, fin_int, fin_str, finX_same', gt_iff_lt, Nat.lt_add_one, Bool.false_eq_true]
      have hb : evSs (prog.cx k (callF prog k)) b_known_apart_0 [some (enc (.mk lf (pf ++ f :: fs))), some (enc (.mk ls (ps ++ s :: ss))), some (.tup p), some (.loc h.length), some (.int (i : Int))] (h ++ [.box (.lst acc)]) =
          .nx [some (enc (.mk lf (pf ++ f :: fs))), some (enc (.mk ls (ps ++ s :: ss))), some (.tup p), some (.loc h.length), some (.int (i : Int))] (h ++ [.box (.lst (acc ++ ap f s (p ++ [D.int (i : Int)])))]) := by
        rw [b_known_apart_0, evSs, evS, ev_mt (ev_v rfl) m1_get0 ga (mt_extend m1_get0 la)]
        simp only [evSs, m1_set0]
      rw [List.length_cons, rngL, forL_nx rfl hb]
      have ei : (i : Int) + 1 = ((i + 1 : Nat) : Int) := by omega
      rw [ei, er, aps, List.append_assoc]
end K21
namespace K21
open Ev
theorem lenE (x y : List Doc) : decide ((((encs x).length + 1 : Nat) : Int) = (((encs y).length + 1 : Nat) : Int)) = decide (x.length = y.length) := by
  rw [encs_len, encs_len]
  by_cases q : x.length = y.length
  · rw [decide_eq_true q, decide_eq_true (by omega)]
  · rw [decide_eq_false q, decide_eq_false (by omega)]
theorem at_0 (l : List Nat) (x : List Doc) : atI (D.str l :: encs x) 0 = some (.str l) := atI_nat (i := 0)
theorem rng_len {n : Nat} (h : n ≤ 100000) : rngD [.int (n : Int)] = some (rngL ((0 : Nat) : Int) 1 n) := by
  have sm : small62 (n : Int) = true := by unfold small62; simp; omega
  show (if small62 (n : Int) then some (rngL 0 1 ((n : Int)).toNat) else none) = _
  rw [sm, if_pos rfl]
  rfl
theorem known_apart_ok (k : Nat) : KaOk k := by
  induction k with
  | zero => intro f s p h h1; omega
  | succ k ihk =>
    rintro ⟨lf, kf⟩ ⟨ls, ks⟩ p h hk hf hs hz hpl hp
    rw [callF_succ (fd := d_known_apart) rfl ⟨rfl, by decide⟩]
    have q1 := doc_eq (h := h) hf hs
    have l0 : 0 ≤ LIM := by decide
    have l1 : 1 ≤ LIM := by decide
    rw [ap]
    have ef : enc (.mk lf kf) = .tup (.str lf :: encs kf) := by rw [enc]
    have es : enc (.mk ls ks) = .tup (.str ls :: encs ks) := by rw [enc]
    have fr0 : startF d_known_apart.ns [enc (.mk lf kf), enc (.mk ls ks), .tup p] = [some (enc (.mk lf kf)), some (enc (.mk ls ks)), some (.tup p), none, none] := rfl
    rw [fr0]
    unfold d_known_apart
    dsimp only
    by_cases e1 : (Doc.mk lf kf : Doc) = .mk ls ks
    · rw [if_pos e1]
      have d1 : decide ((Doc.mk lf kf : Doc) = .mk ls ks) = true := decide_eq_true e1
      rw [d1] at q1
      have t0 : evS (prog.cx k (callF prog k)) (.ite (.e (.cmp .eq (.v 0) (.v 1))) (.cons (.ret (.fr (.lst .nil))) .nil) .nil) [some (enc (.mk lf kf)), some (enc (.mk ls ks)), some (.tup p), none, none] h = .rt (.lst []) h := by
        simp only [q1, l0, evSs, evS, evE, evL, evT, evTA, evTO, evF, evSrc, evO, evAnd, evOr, asgT, asgTs, cx_glob, cx_call, shal_int, shal_str, shal_tup, shal_lst, shal_non, shal_bl, bin_addi, bin_subi, bin_addt, bin_addl, bin_adds, bin_mod, bin_div, cmp_lt, cmp_le, cmp_gt, cmp_ge, cmp_eqi, cmp_nei, cmp_eqs, cmp_nes, cmp_ins, cmp_nins, cmp_isn, cmp_isns, item_tup, item_lst, bi_lens, bi_lent, bi_lenl, bi_int, bi_intb, bi_abs, bi_max2, bi_tuplel, bi_tuplet, itD, slice, seqD, pure_non, pure_bl, pure_int, pure_str, pure_tup, pure_lst, pures_nil, pures_cons, startF, List.replicate, List.length_cons, List.length_nil, List.set_cons_zero, List.set_cons_succ, List.getElem?_cons_zero, List.getElem?_cons_succ, List.getElem?_nil, Nat.zero_add, Nat.reduceAdd, Nat.reduceSub, Nat.reduceLT, Nat.reduceLeDiff, if_true, Bool.not_true, Bool.not_false, List.map_cons, List.map_nil, List.cons_append, List.nil_append, reduceIte, and_self, and_true, true_and, decide_true, decide_false, Bool.true_and, Bool.and_true, Bool.false_and, Bool.and_false, fin_non, fin_bl, fin_int, fin_str, finX_same', gt_iff_lt, Nat.lt_add_one, Bool.false_eq_true]
      rw [seq_rt t0]
      exact fin_pure rfl
    · rw [if_neg e1]
      have d1 : decide ((Doc.mk lf kf : Doc) = .mk ls ks) = false := decide_eq_false e1
      rw [d1] at q1
      have t0 : evS (prog.cx k (callF prog k)) (.ite (.e (.cmp .eq (.v 0) (.v 1))) (.cons (.ret (.fr (.lst .nil))) .nil) .nil) [some (enc (.mk lf kf)), some (enc (.mk ls ks)), some (.tup p), none, none] h = .nx [some (enc (.mk lf kf)), some (enc (.mk ls ks)), some (.tup p), none, none] h := by
        simp only [q1, evSs, evS, evE, evL, evT, evTA, evTO, evF, evSrc, evO, evAnd, evOr, asgT, asgTs, cx_glob, cx_call, shal_int, shal_str, shal_tup, shal_lst, shal_non, shal_bl, bin_addi, bin_subi, bin_addt, bin_addl, bin_adds, bin_mod, bin_div, cmp_lt, cmp_le, cmp_gt, cmp_ge, cmp_eqi, cmp_nei, cmp_eqs, cmp_nes, cmp_ins, cmp_nins, cmp_isn, cmp_isns, item_tup, item_lst, bi_lens, bi_lent, bi_lenl, bi_int, bi_intb, bi_abs, bi_max2, bi_tuplel, bi_tuplet, itD, slice, seqD, pure_non, pure_bl, pure_int, pure_str, pure_tup, pure_lst, pures_nil, pures_cons, startF, List.replicate, List.length_cons, List.length_nil, List.set_cons_zero, List.set_cons_succ, List.getElem?_cons_zero, List.getElem?_cons_succ, List.getElem?_nil, Nat.zero_add, Nat.reduceAdd, Nat.reduceSub, Nat.reduceLT, Nat.reduceLeDiff, if_true, Bool.not_true, Bool.not_false, List.map_cons, List.map_nil, List.cons_append, List.nil_append, reduceIte, and_self, and_true, true_and, decide_true, decide_false, Bool.true_and, Bool.and_true, Bool.false_and, Bool.and_false, fin_non, fin_bl, fin_int, fin_str, finX_same', gt_iff_lt, Nat.lt_add_one, Bool.false_eq_true]
      rw [seq_nx t0]
      have le := lenE kf ks
      by_cases e2 : lf ≠ ls ∨ kf.length ≠ ks.length
      · rw [if_pos (show lf ≠ (Doc.mk ls ks).lb ∨ kf.length ≠ (Doc.mk ls ks).ks.length from e2)]
        have t1 : evS (prog.cx k (callF prog k)) (.ite (.or (.cons (.e (.cmp .ne (.ix (.v 0) (.c (.int 0))) (.ix (.v 1) (.c (.int 0))))) (.cons (.e (.cmp .ne (.bi .len (.cons (.v 0) .nil)) (.bi .len (.cons (.v 1) .nil)))) .nil))) (.cons (.ret (.fr (.lst (.cons (.v 2) .nil)))) .nil) .nil) [some (enc (.mk lf kf)), some (enc (.mk ls ks)), some (.tup p), none, none] h = .rt (.lst [.tup p]) h := by
          by_cases e3 : lf = ls
          · have e4 : ¬ kf.length = ks.length := fun z => e2.elim (fun q => q e3) (fun q => q z)
            rw [decide_eq_false e4] at le
            have dl : decide (lf = ls) = true := decide_eq_true e3
            simp only [ef, es, at_0, dl, le, l1, evSs, evS, evE, evL, evT, evTA, evTO, evF, evSrc, evO, evAnd, evOr, asgT, asgTs, cx_glob, cx_call, shal_int, shal_str, shal_tup, shal_lst, shal_non, shal_bl, bin_addi, bin_subi, bin_addt, bin_addl, bin_adds, bin_mod, bin_div, cmp_lt, cmp_le, cmp_gt, cmp_ge, cmp_eqi, cmp_nei, cmp_eqs, cmp_nes, cmp_ins, cmp_nins, cmp_isn, cmp_isns, item_tup, item_lst, bi_lens, bi_lent, bi_lenl, bi_int, bi_intb, bi_abs, bi_max2, bi_tuplel, bi_tuplet, itD, slice, seqD, pure_non, pure_bl, pure_int, pure_str, pure_tup, pure_lst, pures_nil, pures_cons, startF, List.replicate, List.length_cons, List.length_nil, List.set_cons_zero, List.set_cons_succ, List.getElem?_cons_zero, List.getElem?_cons_succ, List.getElem?_nil, Nat.zero_add, Nat.reduceAdd, Nat.reduceSub, Nat.reduceLT, Nat.reduceLeDiff, if_true, Bool.not_true, Bool.not_false, List.map_cons, List.map_nil, List.cons_append, List.nil_append, reduceIte, and_self, and_true, true_and, decide_true, decide_false, Bool.true_and, Bool.and_true, Bool.false_and, Bool.and_false, fin_non, fin_bl, fin_int, fin_str, finX_same', gt_iff_lt, Nat.lt_add_one, Bool.false_eq_true]
          · have dl : decide (lf = ls) = false := decide_eq_false e3
            simp only [ef, es, at_0, dl, l1, evSs, evS, evE, evL, evT, evTA, evTO, evF, evSrc, evO, evAnd, evOr, asgT, asgTs, cx_glob, cx_call, shal_int, shal_str, shal_tup, shal_lst, shal_non, shal_bl, bin_addi, bin_subi, bin_addt, bin_addl, bin_adds, bin_mod, bin_div, cmp_lt, cmp_le, cmp_gt, cmp_ge, cmp_eqi, cmp_nei, cmp_eqs, cmp_nes, cmp_ins, cmp_nins, cmp_isn, cmp_isns, item_tup, item_lst, bi_lens, bi_lent, bi_lenl, bi_int, bi_intb, bi_abs, bi_max2, bi_tuplel, bi_tuplet, itD, slice, seqD, pure_non, pure_bl, pure_int, pure_str, pure_tup, pure_lst, pures_nil, pures_cons, startF, List.replicate, List.length_cons, List.length_nil, List.set_cons_zero, List.set_cons_succ, List.getElem?_cons_zero, List.getElem?_cons_succ, List.getElem?_nil, Nat.zero_add, Nat.reduceAdd, Nat.reduceSub, Nat.reduceLT, Nat.reduceLeDiff, if_true, Bool.not_true, Bool.not_false, List.map_cons, List.map_nil, List.cons_append, List.nil_append, reduceIte, and_self, and_true, true_and, decide_true, decide_false, Bool.true_and, Bool.and_true, Bool.false_and, Bool.and_false, fin_non, fin_bl, fin_int, fin_str, finX_same', gt_iff_lt, Nat.lt_add_one, Bool.false_eq_true]
        rw [seq_rt t1]
        exact fin_pure (by simp [hp])
      · rw [if_neg (show ¬ (lf ≠ (Doc.mk ls ks).lb ∨ kf.length ≠ (Doc.mk ls ks).ks.length) from e2)]
        have e3 : lf = ls := Classical.byContradiction fun z => e2 (.inl z)
        have e4 : kf.length = ks.length := Classical.byContradiction fun z => e2 (.inr z)
        rw [decide_eq_true e4] at le
        rw [dp] at hk hf hs hpl
        rw [sz] at hz
        have lk := len_szs kf
        have t1 : evS (prog.cx k (callF prog k)) (.ite (.or (.cons (.e (.cmp .ne (.ix (.v 0) (.c (.int 0))) (.ix (.v 1) (.c (.int 0))))) (.cons (.e (.cmp .ne (.bi .len (.cons (.v 0) .nil)) (.bi .len (.cons (.v 1) .nil)))) .nil))) (.cons (.ret (.fr (.lst (.cons (.v 2) .nil)))) .nil) .nil) [some (enc (.mk lf kf)), some (enc (.mk ls ks)), some (.tup p), none, none] h = .nx [some (enc (.mk lf kf)), some (enc (.mk ls ks)), some (.tup p), none, none] h := by
          have dl : decide (lf = ls) = true := decide_eq_true e3
          simp only [ef, es, at_0, dl, le, evSs, evS, evE, evL, evT, evTA, evTO, evF, evSrc, evO, evAnd, evOr, asgT, asgTs, cx_glob, cx_call, shal_int, shal_str, shal_tup, shal_lst, shal_non, shal_bl, bin_addi, bin_subi, bin_addt, bin_addl, bin_adds, bin_mod, bin_div, cmp_lt, cmp_le, cmp_gt, cmp_ge, cmp_eqi, cmp_nei, cmp_eqs, cmp_nes, cmp_ins, cmp_nins, cmp_isn, cmp_isns, item_tup, item_lst, bi_lens, bi_lent, bi_lenl, bi_int, bi_intb, bi_abs, bi_max2, bi_tuplel, bi_tuplet, itD, slice, seqD, pure_non, pure_bl, pure_int, pure_str, pure_tup, pure_lst, pures_nil, pures_cons, startF, List.replicate, List.length_cons, List.length_nil, List.set_cons_zero, List.set_cons_succ, List.getElem?_cons_zero, List.getElem?_cons_succ, List.getElem?_nil, Nat.zero_add, Nat.reduceAdd, Nat.reduceSub, Nat.reduceLT, Nat.reduceLeDiff, if_true, Bool.not_true, Bool.not_false, List.map_cons, List.map_nil, List.cons_append, List.nil_append, reduceIte, and_self, and_true, true_and, decide_true, decide_false, Bool.true_and, Bool.and_true, Bool.false_and, Bool.and_false, fin_non, fin_bl, fin_int, fin_str, finX_same', gt_iff_lt, Nat.lt_add_one, Bool.false_eq_true]
        have t2 : evS (prog.cx k (callF prog k)) (.asg (.nm 3) (.nw (.lst .nil))) [some (enc (.mk lf kf)), some (enc (.mk ls ks)), some (.tup p), none, none] h = .nx [some (enc (.mk lf kf)), some (enc (.mk ls ks)), some (.tup p), some (.loc h.length), none] (h ++ [.box (.lst [])]) := by
          simp only [l0, evSs, evS, evE, evL, evT, evTA, evTO, evF, evSrc, evO, evAnd, evOr, asgT, asgTs, cx_glob, cx_call, shal_int, shal_str, shal_tup, shal_lst, shal_non, shal_bl, bin_addi, bin_subi, bin_addt, bin_addl, bin_adds, bin_mod, bin_div, cmp_lt, cmp_le, cmp_gt, cmp_ge, cmp_eqi, cmp_nei, cmp_eqs, cmp_nes, cmp_ins, cmp_nins, cmp_isn, cmp_isns, item_tup, item_lst, bi_lens, bi_lent, bi_lenl, bi_int, bi_intb, bi_abs, bi_max2, bi_tuplel, bi_tuplet, itD, slice, seqD, pure_non, pure_bl, pure_int, pure_str, pure_tup, pure_lst, pures_nil, pures_cons, startF, List.replicate, List.length_cons, List.length_nil, List.set_cons_zero, List.set_cons_succ, List.getElem?_cons_zero, List.getElem?_cons_succ, List.getElem?_nil, Nat.zero_add, Nat.reduceAdd, Nat.reduceSub, Nat.reduceLT, Nat.reduceLeDiff, if_true, Bool.not_true, Bool.not_false, List.map_cons, List.map_nil, List.cons_append, List.nil_append, reduceIte, and_self, and_true, true_and, decide_true, decide_false, Bool.true_and, Bool.and_true, Bool.false_and, Bool.and_false, fin_non, fin_bl, fin_int, fin_str, finX_same', gt_iff_lt, Nat.lt_add_one, Bool.false_eq_true]
        obtain ⟨o4', er⟩ := apart_loop k ihk lf ls kf ks p hp hf hs (by omega) hpl h kf ks [] [] [] 0 none rfl rfl rfl rfl e4 (by simp; omega) (by omega)
        rw [List.nil_append] at er
        have lc : (((encs kf).length + 1 : Nat) : Int) - 1 = (kf.length : Int) := by rw [encs_len]; omega
        have ea : evL (prog.cx k (callF prog k)) (.cons (.bin .sub (.bi .len (.cons (.v 0) .nil)) (.c (.int 1))) .nil) [some (enc (.mk lf kf)), some (enc (.mk ls ks)), some (.tup p), some (.loc h.length), none] (h ++ [.box (.lst [])]) = .ok [.int (kf.length : Int)] (h ++ [.box (.lst [])]) := by
          simp only [ef, lc, evSs, evS, evE, evL, evT, evTA, evTO, evF, evSrc, evO, evAnd, evOr, asgT, asgTs, cx_glob, cx_call, shal_int, shal_str, shal_tup, shal_lst, shal_non, shal_bl, bin_addi, bin_subi, bin_addt, bin_addl, bin_adds, bin_mod, bin_div, cmp_lt, cmp_le, cmp_gt, cmp_ge, cmp_eqi, cmp_nei, cmp_eqs, cmp_nes, cmp_ins, cmp_nins, cmp_isn, cmp_isns, item_tup, item_lst, bi_lens, bi_lent, bi_lenl, bi_int, bi_intb, bi_abs, bi_max2, bi_tuplel, bi_tuplet, itD, slice, seqD, pure_non, pure_bl, pure_int, pure_str, pure_tup, pure_lst, pures_nil, pures_cons, startF, List.replicate, List.length_cons, List.length_nil, List.set_cons_zero, List.set_cons_succ, List.getElem?_cons_zero, List.getElem?_cons_succ, List.getElem?_nil, Nat.zero_add, Nat.reduceAdd, Nat.reduceSub, Nat.reduceLT, Nat.reduceLeDiff, if_true, Bool.not_true, Bool.not_false, List.map_cons, List.map_nil, List.cons_append, List.nil_append, reduceIte, and_self, and_true, true_and, decide_true, decide_false, Bool.true_and, Bool.and_true, Bool.false_and, Bool.and_false, fin_non, fin_bl, fin_int, fin_str, finX_same', gt_iff_lt, Nat.lt_add_one, Bool.false_eq_true]
        have t3 : evS (prog.cx k (callF prog k)) (.for_ (.nm 4) (.rng (.cons (.bin .sub (.bi .len (.cons (.v 0) .nil)) (.c (.int 1))) .nil)) b_known_apart_0) [some (enc (.mk lf kf)), some (enc (.mk ls ks)), some (.tup p), some (.loc h.length), none] (h ++ [.box (.lst [])]) = .nx [some (enc (.mk lf kf)), some (enc (.mk ls ks)), some (.tup p), some (.loc h.length), o4'] (h ++ [.box (.lst (aps kf ks p 0))]) := by
          rw [evS_for (evSrc_rng ea (rng_len (by omega)))]
          exact er
        have t4 : evS (prog.cx k (callF prog k)) (.ret (.frz (.v 3))) [some (enc (.mk lf kf)), some (enc (.mk ls ks)), some (.tup p), some (.loc h.length), o4'] (h ++ [.box (.lst (aps kf ks p 0))]) = .rt (.lst (aps kf ks p 0)) (h ++ [.gone]) := by
          simp only [m1_get0, m1_set0, evSs, evS, evE, evL, evT, evTA, evTO, evF, evSrc, evO, evAnd, evOr, asgT, asgTs, cx_glob, cx_call, shal_int, shal_str, shal_tup, shal_lst, shal_non, shal_bl, bin_addi, bin_subi, bin_addt, bin_addl, bin_adds, bin_mod, bin_div, cmp_lt, cmp_le, cmp_gt, cmp_ge, cmp_eqi, cmp_nei, cmp_eqs, cmp_nes, cmp_ins, cmp_nins, cmp_isn, cmp_isns, item_tup, item_lst, bi_lens, bi_lent, bi_lenl, bi_int, bi_intb, bi_abs, bi_max2, bi_tuplel, bi_tuplet, itD, slice, seqD, pure_non, pure_bl, pure_int, pure_str, pure_tup, pure_lst, pures_nil, pures_cons, startF, List.replicate, List.length_cons, List.length_nil, List.set_cons_zero, List.set_cons_succ, List.getElem?_cons_zero, List.getElem?_cons_succ, List.getElem?_nil, Nat.zero_add, Nat.reduceAdd, Nat.reduceSub, Nat.reduceLT, Nat.reduceLeDiff, if_true, Bool.not_true, Bool.not_false, List.map_cons, List.map_nil, List.cons_append, List.nil_append, reduceIte, and_self, and_true, true_and, decide_true, decide_false, Bool.true_and, Bool.and_true, Bool.false_and, Bool.and_false, fin_non, fin_bl, fin_int, fin_str, finX_same', gt_iff_lt, Nat.lt_add_one, Bool.false_eq_true]
        rw [seq_nx t1, seq_nx t2, seq_nx t3, seq_rt t4]
        exact fin_app (D.pure_ok _ _ (aps_pure kf ks p 0 hp)) rfl
theorem apart_ok (k : Nat) (h : Mem) {f s : Doc} (gf : Good f) (gs : Good s) (hk : 43 ≤ k) : callF prog (k + 1) i_apart_paths [enc f, enc s] h = .ok (.lst (ap f s [])) h := by
  rw [callF_succ (fd := d_apart_paths) rfl ⟨rfl, by decide⟩]
  have l0 : 0 ≤ LIM := by decide
  have gfd := gf.d
  have gsd := gs.d
  have gfs := gf.s
  have c1 : callF prog k i_check_document [enc f] h = .ok .non h := by
    obtain ⟨j, hj⟩ : ∃ j, k = j + 1 := ⟨k - 1, by omega⟩
    rw [hj]
    exact check_ok j f h gf.ok gf.s gf.d (by omega)
  have c2 : callF prog k i_check_document [enc s] h = .ok .non h := by
    obtain ⟨j, hj⟩ : ∃ j, k = j + 1 := ⟨k - 1, by omega⟩
    rw [hj]
    exact check_ok j s h gs.ok gs.s gs.d (by omega)
  have ka := known_apart_ok k f s [] h (by omega) (by omega) (by omega) (by omega) (by simp; omega) rfl
  have fp := fin_pure (gc := true) (h := h) (d := .lst (ap f s [])) (ap_pure f s [] rfl)
  simp only [d_apart_paths, c1, c2, l0, ka, fp, evSs, evS, evE, evL, evT, evTA, evTO, evF, evSrc, evO, evAnd, evOr, asgT, asgTs, cx_glob, cx_call, shal_int, shal_str, shal_tup, shal_lst, shal_non, shal_bl, bin_addi, bin_subi, bin_addt, bin_addl, bin_adds, bin_mod, bin_div, cmp_lt, cmp_le, cmp_gt, cmp_ge, cmp_eqi, cmp_nei, cmp_eqs, cmp_nes, cmp_ins, cmp_nins, cmp_isn, cmp_isns, item_tup, item_lst, bi_lens, bi_lent, bi_lenl, bi_int, bi_intb, bi_abs, bi_max2, bi_tuplel, bi_tuplet, itD, slice, seqD, pure_non, pure_bl, pure_int, pure_str, pure_tup, pure_lst, pures_nil, pures_cons, startF, List.replicate, List.length_cons, List.length_nil, List.set_cons_zero, List.set_cons_succ, List.getElem?_cons_zero, List.getElem?_cons_succ, List.getElem?_nil, Nat.zero_add, Nat.reduceAdd, Nat.reduceSub, Nat.reduceLT, Nat.reduceLeDiff, if_true, Bool.not_true, Bool.not_false, List.map_cons, List.map_nil, List.cons_append, List.nil_append, reduceIte, and_self, and_true, true_and, decide_true, decide_false, Bool.true_and, Bool.and_true, Bool.false_and, Bool.and_false, fin_non, fin_bl, fin_int, fin_str, finX_same', gt_iff_lt, Nat.lt_add_one, Bool.false_eq_true]
end K21
end
section
set_option Elab.async false
set_option autoImplicit false
set_option maxRecDepth 100000
set_option linter.all false
/-! N5: merging by choices. -/
namespace K21
open Ev
abbrev FW : List Nat := [102, 105, 114, 115, 116]
def chL (cs : List (List Nat)) (j : Nat) : Nat := if cs[j]? = some FW then 1 else 2
def strD (cs : List (List Nat)) : List D := cs.map D.str
theorem strD_pure : ∀ cs, D.pures (strD cs) = true
  | [] => rfl
  | c :: cs => by
    show (true && D.pures (strD cs)) = true
    rw [strD_pure cs]
    rfl
theorem drop_strD (cs : List (List Nat)) (n : Nat) (c : List Nat) (e : cs[n]? = some c) : strD (cs.drop n) = .str c :: strD (cs.drop (n + 1)) := by
  obtain ⟨l, q⟩ := List.getElem?_eq_some_iff.mp e
  rw [List.drop_eq_getElem_cons l, q]
  rfl
def ChOk (k : Nat) : Prop := ∀ (b f s : Doc) (p : List D) (h : Mem) (n : Nat) (cs : List (List Nat)) (nn : Nat), dp b + 2 ≤ k → dp b ≤ 60 → dp f ≤ 60 → dp s ≤ 60 → sz b ≤ 900 → h[n]? = some (.box (.lst (strD (cs.drop nn)))) → nn + (mg (chL cs) b f s p nn).2.length ≤ cs.length →
  callF prog k i_chosen [enc b, enc f, enc s, .loc n] h = .ok (enc (mg (chL cs) b f s p nn).1) (h.set n (.box (.lst (strD (cs.drop (nn + (mg (chL cs) b f s p nn).2.length))))))
/-- the children, one by one, in the comprehension -/
theorem chosen_loop (k : Nat) (ihk : ChOk k) (lb lf ls : List Nat) (kb kf ks : List Doc) (p : List D) (n : Nat) (lab : Option D) (cs : List (List Nat)) (hb : dps kb ≤ 60) (hf : dps kf ≤ 60) (hs : dps ks ≤ 60) (hk : dps kb + 1 ≤ k) :
    ∀ (b' f' s' pb pf ps : List Doc) (acc : List D) (h : Mem) (nn i : Nat) (o5 : Option D), kb = pb ++ b' → kf = pf ++ f' → ks = ps ++ s' → pb.length = i → pf.length = i → ps.length = i → b'.length = f'.length → b'.length = s'.length → h[n]? = some (.box (.lst (strD (cs.drop nn)))) → szs b' ≤ 900 → acc.length + b'.length ≤ 1000 → nn + (mgs (chL cs) b' f' s' p i nn).2.length ≤ cs.length →
    Ev.lcL (evE (prog.cx k (callF prog k)) e_chosen_0) (fun _ h => .ok true h) (.nm 5) [some (enc (.mk lb kb)), some (enc (.mk lf kf)), some (enc (.mk ls ks)), some (.loc n), lab, o5] (rngL ((i : Int) + 1) 1 b'.length) acc h =
      .ok (acc ++ encs (mgs (chL cs) b' f' s' p i nn).1) (h.set n (.box (.lst (strD (cs.drop (nn + (mgs (chL cs) b' f' s' p i nn).2.length)))))) := by
  intro b'
  induction b' with
  | nil =>
    intro f' s' pb pf ps acc h nn i o5 _ _ _ _ _ _ _ _ e _ _ _
    simp [rngL, lcL, mgs, encs, set_same e]
  | cons b bs ih =>
    intro f' s' pb pf ps acc h nn i o5 eb ef es lb' lf' ls' q1 q2 e hsz ha hcs
    cases f' with
    | nil => simp at q1
    | cons f fs =>
      cases s' with
      | nil => simp at q2
      | cons s ss =>
        subst eb ef es
        have mb : dp b + 1 ≤ dps (pb ++ b :: bs) := dp_mem (by simp)
        have mf : dp f + 1 ≤ dps (pf ++ f :: fs) := dp_mem (by simp)
        have ms : dp s + 1 ≤ dps (ps ++ s :: ss) := dp_mem (by simp)
        rw [szs] at hsz
        rw [List.length_cons] at ha
        have hn := get_lt e
        rw [mgs] at hcs
        dsimp only at hcs
        rw [List.length_append] at hcs
        have call := ihk b f s (p ++ [D.int (i : Int)]) h n cs nn (by omega) (by omega) (by omega) (by omega) (by omega) e (by omega)
        generalize hr : mg (chL cs) b f s (p ++ [D.int (i : Int)]) nn = r at call hcs
        have ihr := ih fs ss (pb ++ [b]) (pf ++ [f]) (ps ++ [s]) (acc ++ [enc r.1]) (h.set n (.box (.lst (strD (cs.drop (nn + r.2.length)))))) (nn + r.2.length) (i + 1) o5 (by simp) (by simp) (by simp) (by simp; exact lb') (by simp; exact lf') (by simp; exact ls') (by simpa using q1) (by simpa using q2) (set_get hn) (by omega) (by rw [List.length_append]; simp; omega) (by omega)
        have la : acc.length < LIM := lim_lt' (by omega)
        have c1 := at_child (l := lb) (suf := bs) (d := b) lb'
        have c2 := at_child (l := lf) (suf := fs) (d := f) lf'
        have c3 := at_child (l := ls) (suf := ss) (d := s) ls'
        have ge : evE (prog.cx k (callF prog k)) e_chosen_0 [some (enc (.mk lb (pb ++ b :: bs))), some (enc (.mk lf (pf ++ f :: fs))), some (enc (.mk ls (ps ++ s :: ss))), some (.loc n), lab, some (.int ((i : Int) + 1))] h = .ok (enc r.1) (h.set n (.box (.lst (strD (cs.drop (nn + r.2.length)))))) := by
          rw [show enc (.mk lb (pb ++ b :: bs)) = .tup (.str lb :: encs (pb ++ b :: bs)) from by rw [enc], show enc (.mk lf (pf ++ f :: fs)) = .tup (.str lf :: encs (pf ++ f :: fs)) from by rw [enc], show enc (.mk ls (ps ++ s :: ss)) = .tup (.str ls :: encs (ps ++ s :: ss)) from by rw [enc]]
          simp only [e_chosen_0, c1, c2, c3, call, evSs, evS, evE, evL, evT, evTA, evTO, evF, evSrc, evO, evAnd, evOr, asgT, asgTs, cx_glob, cx_call, shal_int, shal_str, shal_tup, shal_lst, shal_non, shal_bl, bin_addi, bin_subi, bin_addt, bin_addl, bin_adds, bin_mod, bin_div, cmp_lt, cmp_le, cmp_gt, cmp_ge, cmp_eqi, cmp_nei, cmp_eqs, cmp_nes, cmp_ins, cmp_nins, cmp_isn, cmp_isns, item_tup, item_lst, bi_lens, bi_lent, bi_lenl, bi_int, bi_intb, bi_abs, bi_max2, bi_tuplel, bi_tuplet, itD, slice, seqD, pure_non, pure_bl, pure_int, pure_str, pure_tup, pure_lst, pures_nil, pures_cons, startF, List.replicate, List.length_cons, List.length_nil, List.set_cons_zero, List.set_cons_succ, List.getElem?_cons_zero, List.getElem?_cons_succ, List.getElem?_nil, Nat.zero_add, Nat.reduceAdd, Nat.reduceSub, Nat.reduceLT, Nat.reduceLeDiff, if_true, Bool.not_true, Bool.not_false, List.map_cons, List.map_nil, List.cons_append, List.nil_append, reduceIte, and_self, and_true, true_and, decide_true, decide_false, Bool.true_and, Bool.and_true, Bool.false_and, Bool.and_false, fin_non, fin_bl, fin_int, fin_str, finX_same', gt_iff_lt, Nat.lt_add_one, Bool.false_eq_true]
        rw [List.length_cons, rngL, lcL]
        simp only [asgT, List.length_cons, List.length_nil, List.set_cons_succ, List.set_cons_zero, Nat.reduceAdd, Nat.reduceLT, if_true]
        rw [ge]
        dsimp only
        rw [if_pos la]
        have ei : (i : Int) + 1 + 1 = ((i + 1 : Nat) : Int) + 1 := by omega
        rw [ei, ihr, mgs, hr]
        dsimp only
        rw [List.set_set, encs, List.append_assoc, List.length_append, Nat.add_assoc]
        rfl
end K21
namespace K21
open Ev
theorem rng2 {n : Nat} (h : n ≤ 100000) : rngD [.int 1, .int ((n + 1 : Nat) : Int)] = some (rngL (((0 : Nat) : Int) + 1) 1 n) := by
  have s1 : small62 1 = true := by decide
  have s2 : small62 ((n + 1 : Nat) : Int) = true := by unfold small62; simp; omega
  show (if small62 1 && small62 ((n + 1 : Nat) : Int) then some (rngL 1 1 (((n + 1 : Nat) : Int) - 1).toNat) else none) = _
  rw [s1, s2]
  have e : (((n + 1 : Nat) : Int) - 1).toNat = n := by omega
  rw [e]
  rfl
theorem chosen_ok (k : Nat) : ChOk k := by
  induction k with
  | zero => intro b f s p h n cs nn h1; omega
  | succ k ihk =>
    rintro ⟨lb, kb⟩ ⟨lf, kf⟩ ⟨ls, ks⟩ p h n cs nn hk hb hf hs hz e hcs
    rw [callF_succ (fd := d_chosen) rfl ⟨rfl, by decide⟩]
    have q1 := doc_eq (h := h) hf hs
    have q2 := doc_eq (h := h) hs hb
    have q3 := doc_eq (h := h) hf hb
    have hn := get_lt e
    have fr0 : startF d_chosen.ns [enc (.mk lb kb), enc (.mk lf kf), enc (.mk ls ks), .loc n] = [some (enc (.mk lb kb)), some (enc (.mk lf kf)), some (enc (.mk ls ks)), some (.loc n), none, none] := rfl
    have bodyE : d_chosen.body = .cons s_chosen_0 (.cons s_chosen_1 (.cons s_chosen_2 (.cons s_chosen_3 (.cons s_chosen_4 (.cons s_chosen_5 .nil))))) := rfl
    rw [bodyE, fr0]
    rw [mg] at hcs ⊢
    by_cases e1 : (Doc.mk lf kf : Doc) = .mk ls ks
    · rw [if_pos (.inl e1)]
      have fp := fin_pure (gc := true) (h := h) (enc_pure (.mk lf kf))
      have d1 : decide ((Doc.mk lf kf : Doc) = .mk ls ks) = true := decide_eq_true e1
      rw [d1] at q1
      have t0 : evS (prog.cx k (callF prog k)) s_chosen_0 [some (enc (.mk lb kb)), some (enc (.mk lf kf)), some (enc (.mk ls ks)), some (.loc n), none, none] h = .rt (enc (.mk lf kf)) h := by
        simp only [s_chosen_0, q1, evSs, evS, evE, evL, evT, evTA, evTO, evF, evSrc, evO, evAnd, evOr, asgT, asgTs, cx_glob, cx_call, shal_int, shal_str, shal_tup, shal_lst, shal_non, shal_bl, bin_addi, bin_subi, bin_addt, bin_addl, bin_adds, bin_mod, bin_div, cmp_lt, cmp_le, cmp_gt, cmp_ge, cmp_eqi, cmp_nei, cmp_eqs, cmp_nes, cmp_ins, cmp_nins, cmp_isn, cmp_isns, item_tup, item_lst, bi_lens, bi_lent, bi_lenl, bi_int, bi_intb, bi_abs, bi_max2, bi_tuplel, bi_tuplet, itD, slice, seqD, pure_non, pure_bl, pure_int, pure_str, pure_tup, pure_lst, pures_nil, pures_cons, startF, List.replicate, List.length_cons, List.length_nil, List.set_cons_zero, List.set_cons_succ, List.getElem?_cons_zero, List.getElem?_cons_succ, List.getElem?_nil, Nat.zero_add, Nat.reduceAdd, Nat.reduceSub, Nat.reduceLT, Nat.reduceLeDiff, if_true, Bool.not_true, Bool.not_false, List.map_cons, List.map_nil, List.cons_append, List.nil_append, reduceIte, and_self, and_true, true_and, decide_true, decide_false, Bool.true_and, Bool.and_true, Bool.false_and, Bool.and_false, fin_non, fin_bl, fin_int, fin_str, finX_same', gt_iff_lt, Nat.lt_add_one, Bool.false_eq_true]
      rw [seq_rt t0]
      simp only [List.length_nil, Nat.add_zero, set_same e]
      exact fp
    · have d1 : decide ((Doc.mk lf kf : Doc) = .mk ls ks) = false := decide_eq_false e1
      rw [d1] at q1
      by_cases e2 : (Doc.mk ls ks : Doc) = .mk lb kb
      · rw [if_pos (.inr e2)]
        have fp := fin_pure (gc := true) (h := h) (enc_pure (.mk lf kf))
        have d2 : decide ((Doc.mk ls ks : Doc) = .mk lb kb) = true := decide_eq_true e2
        rw [d2] at q2
        have t0 : evS (prog.cx k (callF prog k)) s_chosen_0 [some (enc (.mk lb kb)), some (enc (.mk lf kf)), some (enc (.mk ls ks)), some (.loc n), none, none] h = .rt (enc (.mk lf kf)) h := by
          simp only [s_chosen_0, q1, q2, evSs, evS, evE, evL, evT, evTA, evTO, evF, evSrc, evO, evAnd, evOr, asgT, asgTs, cx_glob, cx_call, shal_int, shal_str, shal_tup, shal_lst, shal_non, shal_bl, bin_addi, bin_subi, bin_addt, bin_addl, bin_adds, bin_mod, bin_div, cmp_lt, cmp_le, cmp_gt, cmp_ge, cmp_eqi, cmp_nei, cmp_eqs, cmp_nes, cmp_ins, cmp_nins, cmp_isn, cmp_isns, item_tup, item_lst, bi_lens, bi_lent, bi_lenl, bi_int, bi_intb, bi_abs, bi_max2, bi_tuplel, bi_tuplet, itD, slice, seqD, pure_non, pure_bl, pure_int, pure_str, pure_tup, pure_lst, pures_nil, pures_cons, startF, List.replicate, List.length_cons, List.length_nil, List.set_cons_zero, List.set_cons_succ, List.getElem?_cons_zero, List.getElem?_cons_succ, List.getElem?_nil, Nat.zero_add, Nat.reduceAdd, Nat.reduceSub, Nat.reduceLT, Nat.reduceLeDiff, if_true, Bool.not_true, Bool.not_false, List.map_cons, List.map_nil, List.cons_append, List.nil_append, reduceIte, and_self, and_true, true_and, decide_true, decide_false, Bool.true_and, Bool.and_true, Bool.false_and, Bool.and_false, fin_non, fin_bl, fin_int, fin_str, finX_same', gt_iff_lt, Nat.lt_add_one, Bool.false_eq_true]
        rw [seq_rt t0]
        simp only [List.length_nil, Nat.add_zero, set_same e]
        exact fp
      · have ne12 : ¬ ((Doc.mk lf kf : Doc) = .mk ls ks ∨ (Doc.mk ls ks : Doc) = .mk lb kb) := by rintro (z | z); exact e1 z; exact e2 z
        rw [if_neg ne12] at hcs ⊢
        have d2 : decide ((Doc.mk ls ks : Doc) = .mk lb kb) = false := decide_eq_false e2
        rw [d2] at q2
        have t0 : evS (prog.cx k (callF prog k)) s_chosen_0 [some (enc (.mk lb kb)), some (enc (.mk lf kf)), some (enc (.mk ls ks)), some (.loc n), none, none] h = .nx [some (enc (.mk lb kb)), some (enc (.mk lf kf)), some (enc (.mk ls ks)), some (.loc n), none, none] h := by
          simp only [s_chosen_0, q1, q2, evSs, evS, evE, evL, evT, evTA, evTO, evF, evSrc, evO, evAnd, evOr, asgT, asgTs, cx_glob, cx_call, shal_int, shal_str, shal_tup, shal_lst, shal_non, shal_bl, bin_addi, bin_subi, bin_addt, bin_addl, bin_adds, bin_mod, bin_div, cmp_lt, cmp_le, cmp_gt, cmp_ge, cmp_eqi, cmp_nei, cmp_eqs, cmp_nes, cmp_ins, cmp_nins, cmp_isn, cmp_isns, item_tup, item_lst, bi_lens, bi_lent, bi_lenl, bi_int, bi_intb, bi_abs, bi_max2, bi_tuplel, bi_tuplet, itD, slice, seqD, pure_non, pure_bl, pure_int, pure_str, pure_tup, pure_lst, pures_nil, pures_cons, startF, List.replicate, List.length_cons, List.length_nil, List.set_cons_zero, List.set_cons_succ, List.getElem?_cons_zero, List.getElem?_cons_succ, List.getElem?_nil, Nat.zero_add, Nat.reduceAdd, Nat.reduceSub, Nat.reduceLT, Nat.reduceLeDiff, if_true, Bool.not_true, Bool.not_false, List.map_cons, List.map_nil, List.cons_append, List.nil_append, reduceIte, and_self, and_true, true_and, decide_true, decide_false, Bool.true_and, Bool.and_true, Bool.false_and, Bool.and_false, fin_non, fin_bl, fin_int, fin_str, finX_same', gt_iff_lt, Nat.lt_add_one, Bool.false_eq_true]
        rw [seq_nx t0]
        by_cases e3 : (Doc.mk lf kf : Doc) = .mk lb kb
        · rw [if_pos e3]
          have fp := fin_pure (gc := true) (h := h) (enc_pure (.mk ls ks))
          have d3 : decide ((Doc.mk lf kf : Doc) = .mk lb kb) = true := decide_eq_true e3
          rw [d3] at q3
          have t1 : evS (prog.cx k (callF prog k)) s_chosen_1 [some (enc (.mk lb kb)), some (enc (.mk lf kf)), some (enc (.mk ls ks)), some (.loc n), none, none] h = .rt (enc (.mk ls ks)) h := by
            simp only [s_chosen_1, q3, evSs, evS, evE, evL, evT, evTA, evTO, evF, evSrc, evO, evAnd, evOr, asgT, asgTs, cx_glob, cx_call, shal_int, shal_str, shal_tup, shal_lst, shal_non, shal_bl, bin_addi, bin_subi, bin_addt, bin_addl, bin_adds, bin_mod, bin_div, cmp_lt, cmp_le, cmp_gt, cmp_ge, cmp_eqi, cmp_nei, cmp_eqs, cmp_nes, cmp_ins, cmp_nins, cmp_isn, cmp_isns, item_tup, item_lst, bi_lens, bi_lent, bi_lenl, bi_int, bi_intb, bi_abs, bi_max2, bi_tuplel, bi_tuplet, itD, slice, seqD, pure_non, pure_bl, pure_int, pure_str, pure_tup, pure_lst, pures_nil, pures_cons, startF, List.replicate, List.length_cons, List.length_nil, List.set_cons_zero, List.set_cons_succ, List.getElem?_cons_zero, List.getElem?_cons_succ, List.getElem?_nil, Nat.zero_add, Nat.reduceAdd, Nat.reduceSub, Nat.reduceLT, Nat.reduceLeDiff, if_true, Bool.not_true, Bool.not_false, List.map_cons, List.map_nil, List.cons_append, List.nil_append, reduceIte, and_self, and_true, true_and, decide_true, decide_false, Bool.true_and, Bool.and_true, Bool.false_and, Bool.and_false, fin_non, fin_bl, fin_int, fin_str, finX_same', gt_iff_lt, Nat.lt_add_one, Bool.false_eq_true]
          rw [seq_rt t1]
          simp only [List.length_nil, Nat.add_zero, set_same e]
          exact fp
        · rw [if_neg e3] at hcs ⊢
          have d3 : decide ((Doc.mk lf kf : Doc) = .mk lb kb) = false := decide_eq_false e3
          rw [d3] at q3
          have t1 : evS (prog.cx k (callF prog k)) s_chosen_1 [some (enc (.mk lb kb)), some (enc (.mk lf kf)), some (enc (.mk ls ks)), some (.loc n), none, none] h = .nx [some (enc (.mk lb kb)), some (enc (.mk lf kf)), some (enc (.mk ls ks)), some (.loc n), none, none] h := by
            simp only [s_chosen_1, q3, evSs, evS, evE, evL, evT, evTA, evTO, evF, evSrc, evO, evAnd, evOr, asgT, asgTs, cx_glob, cx_call, shal_int, shal_str, shal_tup, shal_lst, shal_non, shal_bl, bin_addi, bin_subi, bin_addt, bin_addl, bin_adds, bin_mod, bin_div, cmp_lt, cmp_le, cmp_gt, cmp_ge, cmp_eqi, cmp_nei, cmp_eqs, cmp_nes, cmp_ins, cmp_nins, cmp_isn, cmp_isns, item_tup, item_lst, bi_lens, bi_lent, bi_lenl, bi_int, bi_intb, bi_abs, bi_max2, bi_tuplel, bi_tuplet, itD, slice, seqD, pure_non, pure_bl, pure_int, pure_str, pure_tup, pure_lst, pures_nil, pures_cons, startF, List.replicate, List.length_cons, List.length_nil, List.set_cons_zero, List.set_cons_succ, List.getElem?_cons_zero, List.getElem?_cons_succ, List.getElem?_nil, Nat.zero_add, Nat.reduceAdd, Nat.reduceSub, Nat.reduceLT, Nat.reduceLeDiff, if_true, Bool.not_true, Bool.not_false, List.map_cons, List.map_nil, List.cons_append, List.nil_append, reduceIte, and_self, and_true, true_and, decide_true, decide_false, Bool.true_and, Bool.and_true, Bool.false_and, Bool.and_false, fin_non, fin_bl, fin_int, fin_str, finX_same', gt_iff_lt, Nat.lt_add_one, Bool.false_eq_true]
          rw [seq_nx t1]
          have eb : enc (.mk lb kb) = .tup (.str lb :: encs kb) := by rw [enc]
          have ef : enc (.mk lf kf) = .tup (.str lf :: encs kf) := by rw [enc]
          have es : enc (.mk ls ks) = .tup (.str ls :: encs ks) := by rw [enc]
          have le1 := lenE kb kf
          have le2 := lenE kb ks
          by_cases e4 : kb.length ≠ kf.length ∨ kb.length ≠ ks.length
          · rw [if_pos (show kb.length ≠ (Doc.mk lf kf).ks.length ∨ kb.length ≠ (Doc.mk ls ks).ks.length from e4)] at hcs ⊢
            dsimp only [List.length_cons, List.length_nil] at hcs ⊢
            obtain ⟨c, hc⟩ : ∃ c, cs[nn]? = some c := ⟨cs[nn], List.getElem?_eq_getElem (by omega)⟩
            rw [drop_strD cs nn c hc] at e
            have pp := mt_pop1 e
            have okb := fin_set0 (h := h) (n := n) (o := .box (.lst (strD (cs.drop (nn + 1))))) (D.pure_ok h.length _ (enc_pure (pk (chL cs nn) (Doc.mk lb kb) (.mk lf kf) (.mk ls ks)))) (okB_box (strD_pure _))
            have t2 : evS (prog.cx k (callF prog k)) s_chosen_2 [some (enc (.mk lb kb)), some (enc (.mk lf kf)), some (enc (.mk ls ks)), some (.loc n), none, none] h = .rt (enc (pk (chL cs nn) (Doc.mk lb kb) (.mk lf kf) (.mk ls ks))) (h.set n (.box (.lst (strD (cs.drop (nn + 1)))))) := by
              have cw : evT (prog.cx k (callF prog k)) (.e (.cmp .eq (.mt .pop1 (.v 3) (.cons (.c (.int 0)) .nil)) (.c (.str FW)))) [some (enc (.mk lb kb)), some (enc (.mk lf kf)), some (enc (.mk ls ks)), some (.loc n), none, none] h = .ok (decide (c = FW)) (h.set n (.box (.lst (strD (cs.drop (nn + 1)))))) := by
                simp only [shal_box e, pp, evSs, evS, evE, evL, evT, evTA, evTO, evF, evSrc, evO, evAnd, evOr, asgT, asgTs, cx_glob, cx_call, shal_int, shal_str, shal_tup, shal_lst, shal_non, shal_bl, bin_addi, bin_subi, bin_addt, bin_addl, bin_adds, bin_mod, bin_div, cmp_lt, cmp_le, cmp_gt, cmp_ge, cmp_eqi, cmp_nei, cmp_eqs, cmp_nes, cmp_ins, cmp_nins, cmp_isn, cmp_isns, item_tup, item_lst, bi_lens, bi_lent, bi_lenl, bi_int, bi_intb, bi_abs, bi_max2, bi_tuplel, bi_tuplet, itD, slice, seqD, pure_non, pure_bl, pure_int, pure_str, pure_tup, pure_lst, pures_nil, pures_cons, startF, List.replicate, List.length_cons, List.length_nil, List.set_cons_zero, List.set_cons_succ, List.getElem?_cons_zero, List.getElem?_cons_succ, List.getElem?_nil, Nat.zero_add, Nat.reduceAdd, Nat.reduceSub, Nat.reduceLT, Nat.reduceLeDiff, if_true, Bool.not_true, Bool.not_false, List.map_cons, List.map_nil, List.cons_append, List.nil_append, reduceIte, and_self, and_true, true_and, decide_true, decide_false, Bool.true_and, Bool.and_true, Bool.false_and, Bool.and_false, fin_non, fin_bl, fin_int, fin_str, finX_same', gt_iff_lt, Nat.lt_add_one, Bool.false_eq_true]
              have pkE : pk (chL cs nn) (Doc.mk lb kb) (.mk lf kf) (.mk ls ks) = if c = FW then .mk lf kf else .mk ls ks := by
                unfold chL pk
                rw [hc]
                by_cases z : c = FW <;> simp [z]
              have rt : evSs (prog.cx k (callF prog k)) (.cons (.ret (.ite (.e (.cmp .eq (.mt .pop1 (.v 3) (.cons (.c (.int 0)) .nil)) (.c (.str FW)))) (.v 1) (.v 2))) .nil) [some (enc (.mk lb kb)), some (enc (.mk lf kf)), some (enc (.mk ls ks)), some (.loc n), none, none] h = .rt (enc (pk (chL cs nn) (Doc.mk lb kb) (.mk lf kf) (.mk ls ks))) (h.set n (.box (.lst (strD (cs.drop (nn + 1)))))) := by
                refine seq_rt ?_
                rw [evS, evE, cw, pkE]
                by_cases z : c = FW
                · simp only [z, evSs, evS, evE, evL, evT, evTA, evTO, evF, evSrc, evO, evAnd, evOr, asgT, asgTs, cx_glob, cx_call, shal_int, shal_str, shal_tup, shal_lst, shal_non, shal_bl, bin_addi, bin_subi, bin_addt, bin_addl, bin_adds, bin_mod, bin_div, cmp_lt, cmp_le, cmp_gt, cmp_ge, cmp_eqi, cmp_nei, cmp_eqs, cmp_nes, cmp_ins, cmp_nins, cmp_isn, cmp_isns, item_tup, item_lst, bi_lens, bi_lent, bi_lenl, bi_int, bi_intb, bi_abs, bi_max2, bi_tuplel, bi_tuplet, itD, slice, seqD, pure_non, pure_bl, pure_int, pure_str, pure_tup, pure_lst, pures_nil, pures_cons, startF, List.replicate, List.length_cons, List.length_nil, List.set_cons_zero, List.set_cons_succ, List.getElem?_cons_zero, List.getElem?_cons_succ, List.getElem?_nil, Nat.zero_add, Nat.reduceAdd, Nat.reduceSub, Nat.reduceLT, Nat.reduceLeDiff, if_true, Bool.not_true, Bool.not_false, List.map_cons, List.map_nil, List.cons_append, List.nil_append, reduceIte, and_self, and_true, true_and, decide_true, decide_false, Bool.true_and, Bool.and_true, Bool.false_and, Bool.and_false, fin_non, fin_bl, fin_int, fin_str, finX_same', gt_iff_lt, Nat.lt_add_one, Bool.false_eq_true]
                · simp only [z, evSs, evS, evE, evL, evT, evTA, evTO, evF, evSrc, evO, evAnd, evOr, asgT, asgTs, cx_glob, cx_call, shal_int, shal_str, shal_tup, shal_lst, shal_non, shal_bl, bin_addi, bin_subi, bin_addt, bin_addl, bin_adds, bin_mod, bin_div, cmp_lt, cmp_le, cmp_gt, cmp_ge, cmp_eqi, cmp_nei, cmp_eqs, cmp_nes, cmp_ins, cmp_nins, cmp_isn, cmp_isns, item_tup, item_lst, bi_lens, bi_lent, bi_lenl, bi_int, bi_intb, bi_abs, bi_max2, bi_tuplel, bi_tuplet, itD, slice, seqD, pure_non, pure_bl, pure_int, pure_str, pure_tup, pure_lst, pures_nil, pures_cons, startF, List.replicate, List.length_cons, List.length_nil, List.set_cons_zero, List.set_cons_succ, List.getElem?_cons_zero, List.getElem?_cons_succ, List.getElem?_nil, Nat.zero_add, Nat.reduceAdd, Nat.reduceSub, Nat.reduceLT, Nat.reduceLeDiff, if_true, Bool.not_true, Bool.not_false, List.map_cons, List.map_nil, List.cons_append, List.nil_append, reduceIte, and_self, and_true, true_and, decide_true, decide_false, Bool.true_and, Bool.and_true, Bool.false_and, Bool.and_false, fin_non, fin_bl, fin_int, fin_str, finX_same', gt_iff_lt, Nat.lt_add_one, Bool.false_eq_true]
              have tt : evT (prog.cx k (callF prog k)) (.or (.cons (.e (.cmp .ne (.bi .len (.cons (.v 0) .nil)) (.bi .len (.cons (.v 1) .nil)))) (.cons (.e (.cmp .ne (.bi .len (.cons (.v 0) .nil)) (.bi .len (.cons (.v 2) .nil)))) .nil))) [some (enc (.mk lb kb)), some (enc (.mk lf kf)), some (enc (.mk ls ks)), some (.loc n), none, none] h = .ok true h := by
                by_cases e5 : kb.length = kf.length
                · have e6 : ¬ kb.length = ks.length := fun z => e4.elim (fun q => q e5) (fun q => q z)
                  rw [decide_eq_true e5] at le1
                  rw [decide_eq_false e6] at le2
                  simp only [eb, ef, es, le1, le2, evSs, evS, evE, evL, evT, evTA, evTO, evF, evSrc, evO, evAnd, evOr, asgT, asgTs, cx_glob, cx_call, shal_int, shal_str, shal_tup, shal_lst, shal_non, shal_bl, bin_addi, bin_subi, bin_addt, bin_addl, bin_adds, bin_mod, bin_div, cmp_lt, cmp_le, cmp_gt, cmp_ge, cmp_eqi, cmp_nei, cmp_eqs, cmp_nes, cmp_ins, cmp_nins, cmp_isn, cmp_isns, item_tup, item_lst, bi_lens, bi_lent, bi_lenl, bi_int, bi_intb, bi_abs, bi_max2, bi_tuplel, bi_tuplet, itD, slice, seqD, pure_non, pure_bl, pure_int, pure_str, pure_tup, pure_lst, pures_nil, pures_cons, startF, List.replicate, List.length_cons, List.length_nil, List.set_cons_zero, List.set_cons_succ, List.getElem?_cons_zero, List.getElem?_cons_succ, List.getElem?_nil, Nat.zero_add, Nat.reduceAdd, Nat.reduceSub, Nat.reduceLT, Nat.reduceLeDiff, if_true, Bool.not_true, Bool.not_false, List.map_cons, List.map_nil, List.cons_append, List.nil_append, reduceIte, and_self, and_true, true_and, decide_true, decide_false, Bool.true_and, Bool.and_true, Bool.false_and, Bool.and_false, fin_non, fin_bl, fin_int, fin_str, finX_same', gt_iff_lt, Nat.lt_add_one, Bool.false_eq_true]
                · rw [decide_eq_false e5] at le1
                  simp only [eb, ef, es, le1, evSs, evS, evE, evL, evT, evTA, evTO, evF, evSrc, evO, evAnd, evOr, asgT, asgTs, cx_glob, cx_call, shal_int, shal_str, shal_tup, shal_lst, shal_non, shal_bl, bin_addi, bin_subi, bin_addt, bin_addl, bin_adds, bin_mod, bin_div, cmp_lt, cmp_le, cmp_gt, cmp_ge, cmp_eqi, cmp_nei, cmp_eqs, cmp_nes, cmp_ins, cmp_nins, cmp_isn, cmp_isns, item_tup, item_lst, bi_lens, bi_lent, bi_lenl, bi_int, bi_intb, bi_abs, bi_max2, bi_tuplel, bi_tuplet, itD, slice, seqD, pure_non, pure_bl, pure_int, pure_str, pure_tup, pure_lst, pures_nil, pures_cons, startF, List.replicate, List.length_cons, List.length_nil, List.set_cons_zero, List.set_cons_succ, List.getElem?_cons_zero, List.getElem?_cons_succ, List.getElem?_nil, Nat.zero_add, Nat.reduceAdd, Nat.reduceSub, Nat.reduceLT, Nat.reduceLeDiff, if_true, Bool.not_true, Bool.not_false, List.map_cons, List.map_nil, List.cons_append, List.nil_append, reduceIte, and_self, and_true, true_and, decide_true, decide_false, Bool.true_and, Bool.and_true, Bool.false_and, Bool.and_false, fin_non, fin_bl, fin_int, fin_str, finX_same', gt_iff_lt, Nat.lt_add_one, Bool.false_eq_true]
              rw [s_chosen_2, evS, tt]
              exact rt
            rw [seq_rt t2]
            exact okb
          · rw [if_neg (show ¬ (kb.length ≠ (Doc.mk lf kf).ks.length ∨ kb.length ≠ (Doc.mk ls ks).ks.length) from e4)] at hcs ⊢
            have e5 : kb.length = kf.length := Classical.byContradiction fun z => e4 (.inl z)
            have e6 : kb.length = ks.length := Classical.byContradiction fun z => e4 (.inr z)
            rw [decide_eq_true e5] at le1
            rw [decide_eq_true e6] at le2
            rw [dp] at hb hf hs hk
            rw [sz] at hz
            have lk := len_szs kb
            have mlb : callF prog k i_merged_label [.str lb, .str lf, .str ls] h = .ok (oD (ml lb lf ls)) h := by
              obtain ⟨j, hj⟩ : ∃ j, k = j + 1 := ⟨k - 1, by omega⟩
              rw [hj]
              exact merged_label_ok j lb lf ls h
            have t2 : evS (prog.cx k (callF prog k)) s_chosen_2 [some (enc (.mk lb kb)), some (enc (.mk lf kf)), some (enc (.mk ls ks)), some (.loc n), none, none] h = .nx [some (enc (.mk lb kb)), some (enc (.mk lf kf)), some (enc (.mk ls ks)), some (.loc n), none, none] h := by
              simp only [s_chosen_2, eb, ef, es, le1, le2, evSs, evS, evE, evL, evT, evTA, evTO, evF, evSrc, evO, evAnd, evOr, asgT, asgTs, cx_glob, cx_call, shal_int, shal_str, shal_tup, shal_lst, shal_non, shal_bl, bin_addi, bin_subi, bin_addt, bin_addl, bin_adds, bin_mod, bin_div, cmp_lt, cmp_le, cmp_gt, cmp_ge, cmp_eqi, cmp_nei, cmp_eqs, cmp_nes, cmp_ins, cmp_nins, cmp_isn, cmp_isns, item_tup, item_lst, bi_lens, bi_lent, bi_lenl, bi_int, bi_intb, bi_abs, bi_max2, bi_tuplel, bi_tuplet, itD, slice, seqD, pure_non, pure_bl, pure_int, pure_str, pure_tup, pure_lst, pures_nil, pures_cons, startF, List.replicate, List.length_cons, List.length_nil, List.set_cons_zero, List.set_cons_succ, List.getElem?_cons_zero, List.getElem?_cons_succ, List.getElem?_nil, Nat.zero_add, Nat.reduceAdd, Nat.reduceSub, Nat.reduceLT, Nat.reduceLeDiff, if_true, Bool.not_true, Bool.not_false, List.map_cons, List.map_nil, List.cons_append, List.nil_append, reduceIte, and_self, and_true, true_and, decide_true, decide_false, Bool.true_and, Bool.and_true, Bool.false_and, Bool.and_false, fin_non, fin_bl, fin_int, fin_str, finX_same', gt_iff_lt, Nat.lt_add_one, Bool.false_eq_true]
            have t3 : evS (prog.cx k (callF prog k)) s_chosen_3 [some (enc (.mk lb kb)), some (enc (.mk lf kf)), some (enc (.mk ls ks)), some (.loc n), none, none] h = .nx [some (enc (.mk lb kb)), some (enc (.mk lf kf)), some (enc (.mk ls ks)), some (.loc n), some (oD (ml lb lf ls)), none] h := by
              simp only [s_chosen_3, eb, ef, es, at_0, mlb, evSs, evS, evE, evL, evT, evTA, evTO, evF, evSrc, evO, evAnd, evOr, asgT, asgTs, cx_glob, cx_call, shal_int, shal_str, shal_tup, shal_lst, shal_non, shal_bl, bin_addi, bin_subi, bin_addt, bin_addl, bin_adds, bin_mod, bin_div, cmp_lt, cmp_le, cmp_gt, cmp_ge, cmp_eqi, cmp_nei, cmp_eqs, cmp_nes, cmp_ins, cmp_nins, cmp_isn, cmp_isns, item_tup, item_lst, bi_lens, bi_lent, bi_lenl, bi_int, bi_intb, bi_abs, bi_max2, bi_tuplel, bi_tuplet, itD, slice, seqD, pure_non, pure_bl, pure_int, pure_str, pure_tup, pure_lst, pures_nil, pures_cons, startF, List.replicate, List.length_cons, List.length_nil, List.set_cons_zero, List.set_cons_succ, List.getElem?_cons_zero, List.getElem?_cons_succ, List.getElem?_nil, Nat.zero_add, Nat.reduceAdd, Nat.reduceSub, Nat.reduceLT, Nat.reduceLeDiff, if_true, Bool.not_true, Bool.not_false, List.map_cons, List.map_nil, List.cons_append, List.nil_append, reduceIte, and_self, and_true, true_and, decide_true, decide_false, Bool.true_and, Bool.and_true, Bool.false_and, Bool.and_false, fin_non, fin_bl, fin_int, fin_str, finX_same', gt_iff_lt, Nat.lt_add_one, Bool.false_eq_true]
            have t5 : ∀ (hh : Mem) (m : Nat) (l : List Nat), hh[n]? = some (.box (.lst (strD (cs.drop m)))) → m + (mgs (chL cs) kb kf ks p 0 m).2.length ≤ cs.length → evS (prog.cx k (callF prog k)) s_chosen_5 [some (enc (.mk lb kb)), some (enc (.mk lf kf)), some (enc (.mk ls ks)), some (.loc n), some (.str l), none] hh =
                .rt (enc (.mk l (mgs (chL cs) kb kf ks p 0 m).1)) (hh.set n (.box (.lst (strD (cs.drop (m + (mgs (chL cs) kb kf ks p 0 m).2.length)))))) := by
              intro hh m l he hm
              have lp := chosen_loop k ihk lb lf ls kb kf ks p n (some (.str l)) cs hb hf hs (by omega) kb kf ks [] [] [] [] hh m 0 none rfl rfl rfl rfl rfl rfl e5 e6 he (by omega) (by simp; omega) hm
              have ln := mgs_llen (chL cs) kb kf ks p 0 m e5 e6
              generalize mgs (chL cs) kb kf ks p 0 m = r at lp ln ⊢
              rw [List.nil_append] at lp
              have ea : evL (prog.cx k (callF prog k)) (.cons (.c (.int 1)) (.cons (.bi .len (.cons (.v 0) .nil)) .nil)) [some (enc (.mk lb kb)), some (enc (.mk lf kf)), some (enc (.mk ls ks)), some (.loc n), some (.str l), none] hh = .ok [.int 1, .int ((kb.length + 1 : Nat) : Int)] hh := by
                simp only [eb, encs_len, evSs, evS, evE, evL, evT, evTA, evTO, evF, evSrc, evO, evAnd, evOr, asgT, asgTs, cx_glob, cx_call, shal_int, shal_str, shal_tup, shal_lst, shal_non, shal_bl, bin_addi, bin_subi, bin_addt, bin_addl, bin_adds, bin_mod, bin_div, cmp_lt, cmp_le, cmp_gt, cmp_ge, cmp_eqi, cmp_nei, cmp_eqs, cmp_nes, cmp_ins, cmp_nins, cmp_isn, cmp_isns, item_tup, item_lst, bi_lens, bi_lent, bi_lenl, bi_int, bi_intb, bi_abs, bi_max2, bi_tuplel, bi_tuplet, itD, slice, seqD, pure_non, pure_bl, pure_int, pure_str, pure_tup, pure_lst, pures_nil, pures_cons, startF, List.replicate, List.length_cons, List.length_nil, List.set_cons_zero, List.set_cons_succ, List.getElem?_cons_zero, List.getElem?_cons_succ, List.getElem?_nil, Nat.zero_add, Nat.reduceAdd, Nat.reduceSub, Nat.reduceLT, Nat.reduceLeDiff, if_true, Bool.not_true, Bool.not_false, List.map_cons, List.map_nil, List.cons_append, List.nil_append, reduceIte, and_self, and_true, true_and, decide_true, decide_false, Bool.true_and, Bool.and_true, Bool.false_and, Bool.and_false, fin_non, fin_bl, fin_int, fin_str, finX_same', gt_iff_lt, Nat.lt_add_one, Bool.false_eq_true]
              have ey : evT (prog.cx k (callF prog k)) .yes = fun _ h => .ok true h := by funext _ _; rw [evT]
              have lcE : evE (prog.cx k (callF prog k)) (.fr (.lc e_chosen_0 (.nm 5) (.rng (.cons (.c (.int 1)) (.cons (.bi .len (.cons (.v 0) .nil)) .nil))) .yes)) [some (enc (.mk lb kb)), some (enc (.mk lf kf)), some (enc (.mk ls ks)), some (.loc n), some (.str l), none] hh = .ok (.lst (encs r.1)) (hh.set n (.box (.lst (strD (cs.drop (m + r.2.length)))))) := by
                exact ev_lc (evSrc_rng ea (rng2 (by omega))) (by rw [ey]; exact lp)
              have el : (encs r.1).length + 1 ≤ LIM := by rw [encs_len, ln]; exact lim_lt (by omega)
              rw [show enc (.mk l r.1) = .tup (.str l :: encs r.1) from by rw [enc], s_chosen_5]
              refine ev_ret (ev_tup (ev_cons (ev_v rfl) ?_) (by rw [List.length_cons]; exact el))
              have st := ev_star (xs := encs r.1) lcE rfl ev_nil
              rw [List.append_nil] at st
              exact st
            rw [seq_nx t2, seq_nx t3]
            simp only [Doc.lb, Doc.ks] at hcs ⊢
            cases hml : ml lb lf ls with
            | some l =>
              rw [hml] at hcs
              dsimp only at hcs ⊢
              have t4 : evS (prog.cx k (callF prog k)) s_chosen_4 [some (enc (.mk lb kb)), some (enc (.mk lf kf)), some (enc (.mk ls ks)), some (.loc n), some (oD (some l)), none] h = .nx [some (enc (.mk lb kb)), some (enc (.mk lf kf)), some (enc (.mk ls ks)), some (.loc n), some (.str l), none] h := by
                simp only [s_chosen_4, oD, evSs, evS, evE, evL, evT, evTA, evTO, evF, evSrc, evO, evAnd, evOr, asgT, asgTs, cx_glob, cx_call, shal_int, shal_str, shal_tup, shal_lst, shal_non, shal_bl, bin_addi, bin_subi, bin_addt, bin_addl, bin_adds, bin_mod, bin_div, cmp_lt, cmp_le, cmp_gt, cmp_ge, cmp_eqi, cmp_nei, cmp_eqs, cmp_nes, cmp_ins, cmp_nins, cmp_isn, cmp_isns, item_tup, item_lst, bi_lens, bi_lent, bi_lenl, bi_int, bi_intb, bi_abs, bi_max2, bi_tuplel, bi_tuplet, itD, slice, seqD, pure_non, pure_bl, pure_int, pure_str, pure_tup, pure_lst, pures_nil, pures_cons, startF, List.replicate, List.length_cons, List.length_nil, List.set_cons_zero, List.set_cons_succ, List.getElem?_cons_zero, List.getElem?_cons_succ, List.getElem?_nil, Nat.zero_add, Nat.reduceAdd, Nat.reduceSub, Nat.reduceLT, Nat.reduceLeDiff, if_true, Bool.not_true, Bool.not_false, List.map_cons, List.map_nil, List.cons_append, List.nil_append, reduceIte, and_self, and_true, true_and, decide_true, decide_false, Bool.true_and, Bool.and_true, Bool.false_and, Bool.and_false, fin_non, fin_bl, fin_int, fin_str, finX_same', gt_iff_lt, Nat.lt_add_one, Bool.false_eq_true]
              rw [seq_nx t4, seq_rt (t5 h nn l e hcs)]
              exact fin_set0 (D.pure_ok h.length _ (enc_pure _)) (okB_box (strD_pure _))
            | none =>
              rw [hml] at hcs
              dsimp only at hcs ⊢
              rw [List.length_cons] at hcs ⊢
              obtain ⟨c, hc⟩ : ∃ c, cs[nn]? = some c := ⟨cs[nn], List.getElem?_eq_getElem (by omega)⟩
              rw [drop_strD cs nn c hc] at e
              have pp := mt_pop1 e
              have pkE : pk (chL cs nn) lb lf ls = if c = FW then lf else ls := by
                unfold chL pk
                rw [hc]
                by_cases z : c = FW <;> simp [z]
              have cw : evT (prog.cx k (callF prog k)) (.e (.cmp .eq (.mt .pop1 (.v 3) (.cons (.c (.int 0)) .nil)) (.c (.str FW)))) [some (enc (.mk lb kb)), some (enc (.mk lf kf)), some (enc (.mk ls ks)), some (.loc n), some .non, none] h = .ok (decide (c = FW)) (h.set n (.box (.lst (strD (cs.drop (nn + 1)))))) := by
                simp only [shal_box e, pp, evSs, evS, evE, evL, evT, evTA, evTO, evF, evSrc, evO, evAnd, evOr, asgT, asgTs, cx_glob, cx_call, shal_int, shal_str, shal_tup, shal_lst, shal_non, shal_bl, bin_addi, bin_subi, bin_addt, bin_addl, bin_adds, bin_mod, bin_div, cmp_lt, cmp_le, cmp_gt, cmp_ge, cmp_eqi, cmp_nei, cmp_eqs, cmp_nes, cmp_ins, cmp_nins, cmp_isn, cmp_isns, item_tup, item_lst, bi_lens, bi_lent, bi_lenl, bi_int, bi_intb, bi_abs, bi_max2, bi_tuplel, bi_tuplet, itD, slice, seqD, pure_non, pure_bl, pure_int, pure_str, pure_tup, pure_lst, pures_nil, pures_cons, startF, List.replicate, List.length_cons, List.length_nil, List.set_cons_zero, List.set_cons_succ, List.getElem?_cons_zero, List.getElem?_cons_succ, List.getElem?_nil, Nat.zero_add, Nat.reduceAdd, Nat.reduceSub, Nat.reduceLT, Nat.reduceLeDiff, if_true, Bool.not_true, Bool.not_false, List.map_cons, List.map_nil, List.cons_append, List.nil_append, reduceIte, and_self, and_true, true_and, decide_true, decide_false, Bool.true_and, Bool.and_true, Bool.false_and, Bool.and_false, fin_non, fin_bl, fin_int, fin_str, finX_same', gt_iff_lt, Nat.lt_add_one, Bool.false_eq_true]
              have t4 : evS (prog.cx k (callF prog k)) s_chosen_4 [some (enc (.mk lb kb)), some (enc (.mk lf kf)), some (enc (.mk ls ks)), some (.loc n), some (oD none), none] h = .nx [some (enc (.mk lb kb)), some (enc (.mk lf kf)), some (enc (.mk ls ks)), some (.loc n), some (.str (pk (chL cs nn) lb lf ls)), none] (h.set n (.box (.lst (strD (cs.drop (nn + 1)))))) := by
                have inner : evS (prog.cx k (callF prog k)) (.asg (.nm 4) (.ite (.e (.cmp .eq (.mt .pop1 (.v 3) (.cons (.c (.int 0)) .nil)) (.c (.str FW)))) (.ix (.v 1) (.c (.int 0))) (.ix (.v 2) (.c (.int 0))))) [some (enc (.mk lb kb)), some (enc (.mk lf kf)), some (enc (.mk ls ks)), some (.loc n), some .non, none] h = .nx [some (enc (.mk lb kb)), some (enc (.mk lf kf)), some (enc (.mk ls ks)), some (.loc n), some (.str (pk (chL cs nn) lb lf ls)), none] (h.set n (.box (.lst (strD (cs.drop (nn + 1)))))) := by
                  rw [evS, evE, cw, pkE]
                  by_cases z : c = FW
                  · simp only [z, eb, ef, es, at_0, evSs, evS, evE, evL, evT, evTA, evTO, evF, evSrc, evO, evAnd, evOr, asgT, asgTs, cx_glob, cx_call, shal_int, shal_str, shal_tup, shal_lst, shal_non, shal_bl, bin_addi, bin_subi, bin_addt, bin_addl, bin_adds, bin_mod, bin_div, cmp_lt, cmp_le, cmp_gt, cmp_ge, cmp_eqi, cmp_nei, cmp_eqs, cmp_nes, cmp_ins, cmp_nins, cmp_isn, cmp_isns, item_tup, item_lst, bi_lens, bi_lent, bi_lenl, bi_int, bi_intb, bi_abs, bi_max2, bi_tuplel, bi_tuplet, itD, slice, seqD, pure_non, pure_bl, pure_int, pure_str, pure_tup, pure_lst, pures_nil, pures_cons, startF, List.replicate, List.length_cons, List.length_nil, List.set_cons_zero, List.set_cons_succ, List.getElem?_cons_zero, List.getElem?_cons_succ, List.getElem?_nil, Nat.zero_add, Nat.reduceAdd, Nat.reduceSub, Nat.reduceLT, Nat.reduceLeDiff, if_true, Bool.not_true, Bool.not_false, List.map_cons, List.map_nil, List.cons_append, List.nil_append, reduceIte, and_self, and_true, true_and, decide_true, decide_false, Bool.true_and, Bool.and_true, Bool.false_and, Bool.and_false, fin_non, fin_bl, fin_int, fin_str, finX_same', gt_iff_lt, Nat.lt_add_one, Bool.false_eq_true]
                  · simp only [z, eb, ef, es, at_0, evSs, evS, evE, evL, evT, evTA, evTO, evF, evSrc, evO, evAnd, evOr, asgT, asgTs, cx_glob, cx_call, shal_int, shal_str, shal_tup, shal_lst, shal_non, shal_bl, bin_addi, bin_subi, bin_addt, bin_addl, bin_adds, bin_mod, bin_div, cmp_lt, cmp_le, cmp_gt, cmp_ge, cmp_eqi, cmp_nei, cmp_eqs, cmp_nes, cmp_ins, cmp_nins, cmp_isn, cmp_isns, item_tup, item_lst, bi_lens, bi_lent, bi_lenl, bi_int, bi_intb, bi_abs, bi_max2, bi_tuplel, bi_tuplet, itD, slice, seqD, pure_non, pure_bl, pure_int, pure_str, pure_tup, pure_lst, pures_nil, pures_cons, startF, List.replicate, List.length_cons, List.length_nil, List.set_cons_zero, List.set_cons_succ, List.getElem?_cons_zero, List.getElem?_cons_succ, List.getElem?_nil, Nat.zero_add, Nat.reduceAdd, Nat.reduceSub, Nat.reduceLT, Nat.reduceLeDiff, if_true, Bool.not_true, Bool.not_false, List.map_cons, List.map_nil, List.cons_append, List.nil_append, reduceIte, and_self, and_true, true_and, decide_true, decide_false, Bool.true_and, Bool.and_true, Bool.false_and, Bool.and_false, fin_non, fin_bl, fin_int, fin_str, finX_same', gt_iff_lt, Nat.lt_add_one, Bool.false_eq_true]
                have tt : evT (prog.cx k (callF prog k)) (.e (.cmp .is_ (.v 4) (.c .non))) [some (enc (.mk lb kb)), some (enc (.mk lf kf)), some (enc (.mk ls ks)), some (.loc n), some .non, none] h = .ok true h := by
                  simp only [evSs, evS, evE, evL, evT, evTA, evTO, evF, evSrc, evO, evAnd, evOr, asgT, asgTs, cx_glob, cx_call, shal_int, shal_str, shal_tup, shal_lst, shal_non, shal_bl, bin_addi, bin_subi, bin_addt, bin_addl, bin_adds, bin_mod, bin_div, cmp_lt, cmp_le, cmp_gt, cmp_ge, cmp_eqi, cmp_nei, cmp_eqs, cmp_nes, cmp_ins, cmp_nins, cmp_isn, cmp_isns, item_tup, item_lst, bi_lens, bi_lent, bi_lenl, bi_int, bi_intb, bi_abs, bi_max2, bi_tuplel, bi_tuplet, itD, slice, seqD, pure_non, pure_bl, pure_int, pure_str, pure_tup, pure_lst, pures_nil, pures_cons, startF, List.replicate, List.length_cons, List.length_nil, List.set_cons_zero, List.set_cons_succ, List.getElem?_cons_zero, List.getElem?_cons_succ, List.getElem?_nil, Nat.zero_add, Nat.reduceAdd, Nat.reduceSub, Nat.reduceLT, Nat.reduceLeDiff, if_true, Bool.not_true, Bool.not_false, List.map_cons, List.map_nil, List.cons_append, List.nil_append, reduceIte, and_self, and_true, true_and, decide_true, decide_false, Bool.true_and, Bool.and_true, Bool.false_and, Bool.and_false, fin_non, fin_bl, fin_int, fin_str, finX_same', gt_iff_lt, Nat.lt_add_one, Bool.false_eq_true]
                rw [s_chosen_4, evS, oD, tt]
                dsimp only
                rw [seq_nx inner, evSs]
              have hn2 : (h.set n (.box (.lst (strD (cs.drop (nn + 1))))))[n]? = some (.box (.lst (strD (cs.drop (nn + 1))))) := set_get hn
              have t5' := t5 _ (nn + 1) (pk (chL cs nn) lb lf ls) hn2 (by omega)
              rw [List.set_set] at t5'
              rw [seq_nx t4, seq_rt t5']
              have ea : nn + ((mgs (chL cs) kb kf ks p 0 (nn + 1)).2.length + 1) = nn + 1 + (mgs (chL cs) kb kf ks p 0 (nn + 1)).2.length := by omega
              rw [ea]
              exact fin_set0 (D.pure_ok h.length _ (enc_pure _)) (okB_box (strD_pure _))
end K21
end
section
set_option Elab.async false
set_option autoImplicit false
set_option maxRecDepth 100000
set_option linter.all false
/-! N6: plain facts about merging. -/
namespace K21
open Ev
mutual
/-- the clashes do not hang on the choices -/
theorem mg_same (ch ch' : Nat → Nat) : ∀ (b f s : Doc) (p : List D) (n n' : Nat), (mg ch b f s p n).2 = (mg ch' b f s p n').2
  | .mk lb kb, f, s, p, n, n' => by
    have h0 := mgs_same ch ch' kb f.ks s.ks p 0 n n'
    have h1 := mgs_same ch ch' kb f.ks s.ks p 0 (n + 1) (n' + 1)
    rw [mg, mg]
    split
    · rfl
    · split
      · rfl
      · split
        · rfl
        · split
          · exact h0
          · dsimp only
            rw [h1]
theorem mgs_same (ch ch' : Nat → Nat) : ∀ (b f s : List Doc) (p : List D) (i n n' : Nat), (mgs ch b f s p i n).2 = (mgs ch' b f s p i n').2
  | [], _, _, _, _, _, _ => by simp [mgs]
  | b :: bs, [], _, _, _, _, _ => by simp [mgs]
  | b :: bs, f :: fs, [], _, _, _, _ => by simp [mgs]
  | b :: bs, f :: fs, s :: ss, p, i, n, n' => by
    have h0 := mg_same ch ch' b f s (p ++ [.int (i : Int)]) n n'
    have h1 := mgs_same ch ch' bs fs ss p (i + 1) (n + (mg ch b f s (p ++ [.int (i : Int)]) n).2.length) (n' + (mg ch' b f s (p ++ [.int (i : Int)]) n').2.length)
    rw [mgs, mgs]
    dsimp only
    rw [h1, h0]
end
end K21
namespace K21
open Ev
mutual
/-- without a clash the outcome does not hang on them either -/
theorem mg_free (ch ch' : Nat → Nat) : ∀ (b f s : Doc) (p : List D) (n n' : Nat), (mg ch b f s p n).2 = [] → (mg ch b f s p n).1 = (mg ch' b f s p n').1
  | .mk lb kb, f, s, p, n, n', h => by
    rw [mg] at h ⊢
    rw [mg]
    split at h
    · rename_i e
      rw [if_pos e, if_pos e]
    · rename_i e
      rw [if_neg e, if_neg e]
      split at h
      · rename_i e2
        rw [if_pos e2, if_pos e2]
      · rename_i e2
        rw [if_neg e2, if_neg e2]
        split at h
        · cases h
        · rename_i e3
          rw [if_neg e3, if_neg e3]
          cases q : ml lb f.lb s.lb with
          | some l =>
            rw [q] at h
            dsimp only at h ⊢
            rw [mgs_free ch ch' kb f.ks s.ks p 0 n n' h]
          | none =>
            rw [q] at h
            cases h
theorem mgs_free (ch ch' : Nat → Nat) : ∀ (b f s : List Doc) (p : List D) (i n n' : Nat), (mgs ch b f s p i n).2 = [] → (mgs ch b f s p i n).1 = (mgs ch' b f s p i n').1
  | [], _, _, _, _, _, _, _ => by simp [mgs]
  | b :: bs, [], _, _, _, _, _, _ => by simp [mgs]
  | b :: bs, f :: fs, [], _, _, _, _, _ => by simp [mgs]
  | b :: bs, f :: fs, s :: ss, p, i, n, n', h => by
    rw [mgs] at h ⊢
    rw [mgs]
    dsimp only at h ⊢
    obtain ⟨h1, h2⟩ := List.append_eq_nil_iff.mp h
    have e1 := mg_free ch ch' b f s (p ++ [D.int (i : Int)]) n n' h1
    have e2 := mgs_free ch ch' bs fs ss p (i + 1) _ (n' + (mg ch' b f s (p ++ [D.int (i : Int)]) n').2.length) h2
    rw [e1, e2]
end
end K21
end
section
set_option Elab.async false
set_option autoImplicit false
set_option maxRecDepth 100000
set_option linter.all false
/-! N7: merging by choices, the door. -/
namespace K21
open Ev
abbrev SW : List Nat := [115, 101, 99, 111, 110, 100]
theorem gl6 : prog.glob[6]? = some (.tup [.str FW, .str SW]) := rfl
theorem clashes_at (k : Nat) (h : Mem) {b f s : Doc} (gb : Good b) (gf : Good f) (gs : Good s) (hk : 44 ≤ k) : callF prog k i_clashes [enc b, enc f, enc s] h = .ok (.lst (mgC b f s)) h := by
  obtain ⟨j, hj⟩ : ∃ j, k = j + 1 := ⟨k - 1, by omega⟩
  rw [hj]
  exact clashes_ok j h gb gf gs (by omega)
theorem strD_len (cs : List (List Nat)) : (strD cs).length = cs.length := by unfold strD; simp
/-- not a choice for each clash -/
theorem merge_by_few (k : Nat) (h : Mem) {b f s : Doc} (cs : List (List Nat)) (gb : Good b) (gf : Good f) (gs : Good s) (hk : 44 ≤ k) (hc : cs.length ≠ (mgC b f s).length) : callF prog (k + 1) i_merge_by [enc b, enc f, enc s, .tup (strD cs)] h = .exc 1 .non h := by
  rw [callF_succ (fd := d_merge_by) rfl ⟨rfl, by decide⟩]
  have ct := clashes_at k h gb gf gs hk
  have t0 : evS (prog.cx k (callF prog k)) s_merge_by_0 [some (enc b), some (enc f), some (enc s), some (.tup (strD cs)), none, none, none, none, none] h = .nx [some (enc b), some (enc f), some (enc s), some (.tup (strD cs)), some (.int (mgC b f s).length), none, none, none, none] h := by
    simp only [s_merge_by_0, ct, evSs, evS, evE, evL, evT, evTA, evTO, evF, evSrc, evO, evAnd, evOr, asgT, asgTs, cx_glob, cx_call, shal_int, shal_str, shal_tup, shal_lst, shal_non, shal_bl, bin_addi, bin_subi, bin_addt, bin_addl, bin_adds, bin_mod, bin_div, cmp_lt, cmp_le, cmp_gt, cmp_ge, cmp_eqi, cmp_nei, cmp_eqs, cmp_nes, cmp_ins, cmp_nins, cmp_isn, cmp_isns, item_tup, item_lst, bi_lens, bi_lent, bi_lenl, bi_int, bi_intb, bi_abs, bi_max2, bi_tuplel, bi_tuplet, itD, slice, seqD, pure_non, pure_bl, pure_int, pure_str, pure_tup, pure_lst, pures_nil, pures_cons, startF, List.replicate, List.length_cons, List.length_nil, List.set_cons_zero, List.set_cons_succ, List.getElem?_cons_zero, List.getElem?_cons_succ, List.getElem?_nil, Nat.zero_add, Nat.reduceAdd, Nat.reduceSub, Nat.reduceLT, Nat.reduceLeDiff, if_true, Bool.not_true, Bool.not_false, List.map_cons, List.map_nil, List.cons_append, List.nil_append, reduceIte, and_self, and_true, true_and, decide_true, decide_false, Bool.true_and, Bool.and_true, Bool.false_and, Bool.and_false, fin_non, fin_bl, fin_int, fin_str, finX_same', gt_iff_lt, Nat.lt_add_one, Bool.false_eq_true]
  have t1 : evS (prog.cx k (callF prog k)) s_merge_by_1 [some (enc b), some (enc f), some (enc s), some (.tup (strD cs)), some (.int (mgC b f s).length), none, none, none, none] h = .exc 1 .non [some (enc b), some (enc f), some (enc s), some (.tup (strD cs)), some (.int (mgC b f s).length), none, none, none, none] h := by
    have d : decide (((strD cs).length : Int) = ((mgC b f s).length : Int)) = false := decide_eq_false (by rw [strD_len]; omega)
    simp only [s_merge_by_1, d, evSs, evS, evE, evL, evT, evTA, evTO, evF, evSrc, evO, evAnd, evOr, asgT, asgTs, cx_glob, cx_call, shal_int, shal_str, shal_tup, shal_lst, shal_non, shal_bl, bin_addi, bin_subi, bin_addt, bin_addl, bin_adds, bin_mod, bin_div, cmp_lt, cmp_le, cmp_gt, cmp_ge, cmp_eqi, cmp_nei, cmp_eqs, cmp_nes, cmp_ins, cmp_nins, cmp_isn, cmp_isns, item_tup, item_lst, bi_lens, bi_lent, bi_lenl, bi_int, bi_intb, bi_abs, bi_max2, bi_tuplel, bi_tuplet, itD, slice, seqD, pure_non, pure_bl, pure_int, pure_str, pure_tup, pure_lst, pures_nil, pures_cons, startF, List.replicate, List.length_cons, List.length_nil, List.set_cons_zero, List.set_cons_succ, List.getElem?_cons_zero, List.getElem?_cons_succ, List.getElem?_nil, Nat.zero_add, Nat.reduceAdd, Nat.reduceSub, Nat.reduceLT, Nat.reduceLeDiff, if_true, Bool.not_true, Bool.not_false, List.map_cons, List.map_nil, List.cons_append, List.nil_append, reduceIte, and_self, and_true, true_and, decide_true, decide_false, Bool.true_and, Bool.and_true, Bool.false_and, Bool.and_false, fin_non, fin_bl, fin_int, fin_str, finX_same', gt_iff_lt, Nat.lt_add_one, Bool.false_eq_true]
  have fr0 : startF d_merge_by.ns [enc b, enc f, enc s, .tup (strD cs)] = [some (enc b), some (enc f), some (enc s), some (.tup (strD cs)), none, none, none, none, none] := rfl
  have bodyE : d_merge_by.body = .cons s_merge_by_0 (.cons s_merge_by_1 (.cons s_merge_by_2 (.cons s_merge_by_3 (.cons s_merge_by_4 (.cons s_merge_by_5 .nil))))) := rfl
  rw [bodyE, fr0, seq_nx t0, seq_exc t1]
  exact finX_same
end K21
namespace K21
open Ev
theorem merge_by_ok (k : Nat) (h : Mem) {b f s : Doc} (cs : List (List Nat)) (gb : Good b) (gf : Good f) (gs : Good s) (hk : 44 ≤ k) (hc : cs.length = (mgC b f s).length) (hw : ∀ c ∈ cs, c = FW ∨ c = SW) (hz : sz (mg (chL cs) b f s [] 0).1 ≤ 300) :
    callF prog (k + 1) i_merge_by [enc b, enc f, enc s, .tup (strD cs)] h = .ok (enc (mg (chL cs) b f s [] 0).1) h := by
  rw [callF_succ (fd := d_merge_by) rfl ⟨rfl, by decide⟩]
  have gbd := gb.d
  have gfd := gf.d
  have gsd := gs.d
  have gbs := gb.s
  have same := mg_same (chL cs) c0 b f s [] 0 0
  have lenc : cs.length ≤ 300 := by rw [hc]; exact Nat.le_trans (mg_len c0 b f s [] 0) gbs
  have ct := clashes_at k h gb gf gs hk
  have dpm : dp (mg (chL cs) b f s [] 0).1 ≤ 40 := mg_dp (chL cs) b f s [] 0 40 gbd gfd gsd
  have co := chosen_ok k b f s [] (h ++ [.box (.lst (strD cs))]) h.length cs 0 (by omega) (by omega) (by omega) (by omega) (by omega) (by rw [m1_get0]; rfl) (by rw [same, hc]; simp)
  rw [m1_set0] at co
  generalize hr : (mg (chL cs) b f s [] 0).1 = r at co hz dpm ⊢
  generalize strD (cs.drop (0 + (mg (chL cs) b f s [] 0).2.length)) = rest at co
  have ms := measured_ok k r (h ++ [.box (.lst rest)]) (by omega)
  have t0 : evS (prog.cx k (callF prog k)) s_merge_by_0 [some (enc b), some (enc f), some (enc s), some (.tup (strD cs)), none, none, none, none, none] h = .nx [some (enc b), some (enc f), some (enc s), some (.tup (strD cs)), some (.int (mgC b f s).length), none, none, none, none] h := by
    simp only [s_merge_by_0, ct, evSs, evS, evE, evL, evT, evTA, evTO, evF, evSrc, evO, evAnd, evOr, asgT, asgTs, cx_glob, cx_call, shal_int, shal_str, shal_tup, shal_lst, shal_non, shal_bl, bin_addi, bin_subi, bin_addt, bin_addl, bin_adds, bin_mod, bin_div, cmp_lt, cmp_le, cmp_gt, cmp_ge, cmp_eqi, cmp_nei, cmp_eqs, cmp_nes, cmp_ins, cmp_nins, cmp_isn, cmp_isns, item_tup, item_lst, bi_lens, bi_lent, bi_lenl, bi_int, bi_intb, bi_abs, bi_max2, bi_tuplel, bi_tuplet, itD, slice, seqD, pure_non, pure_bl, pure_int, pure_str, pure_tup, pure_lst, pures_nil, pures_cons, startF, List.replicate, List.length_cons, List.length_nil, List.set_cons_zero, List.set_cons_succ, List.getElem?_cons_zero, List.getElem?_cons_succ, List.getElem?_nil, Nat.zero_add, Nat.reduceAdd, Nat.reduceSub, Nat.reduceLT, Nat.reduceLeDiff, if_true, Bool.not_true, Bool.not_false, List.map_cons, List.map_nil, List.cons_append, List.nil_append, reduceIte, and_self, and_true, true_and, decide_true, decide_false, Bool.true_and, Bool.and_true, Bool.false_and, Bool.and_false, fin_non, fin_bl, fin_int, fin_str, finX_same', gt_iff_lt, Nat.lt_add_one, Bool.false_eq_true]
  have lp := lcL_nm (elt := evE (prog.cx k (callF prog k)) e_merge_by_0) (test := evT (prog.cx k (callF prog k)) .yes) (i := 8) (σ := [some (enc b), some (enc f), some (enc s), some (.tup (strD cs)), some (.int (mgC b f s).length), none, none, none, none]) (h := h) (F := fun _ => .bl true) (p := fun _ => true) (by simp)
    (strD cs) [] (fun x hx => by
      obtain ⟨c, hc, e⟩ := List.mem_map.mp hx
      subst e
      refine ⟨by rw [evT], fun _ => ?_⟩
      have gg : evE (prog.cx k (callF prog k)) (.g 6) [some (enc b), some (enc f), some (enc s), some (.tup (strD cs)), some (.int (mgC b f s).length), none, none, none, some (.str c)] h = .ok (.tup [.str FW, .str SW]) h := by
        simp only [gl6, evSs, evS, evE, evL, evT, evTA, evTO, evF, evSrc, evO, evAnd, evOr, asgT, asgTs, cx_glob, cx_call, shal_int, shal_str, shal_tup, shal_lst, shal_non, shal_bl, bin_addi, bin_subi, bin_addt, bin_addl, bin_adds, bin_mod, bin_div, cmp_lt, cmp_le, cmp_gt, cmp_ge, cmp_eqi, cmp_nei, cmp_eqs, cmp_nes, cmp_ins, cmp_nins, cmp_isn, cmp_isns, item_tup, item_lst, bi_lens, bi_lent, bi_lenl, bi_int, bi_intb, bi_abs, bi_max2, bi_tuplel, bi_tuplet, itD, slice, seqD, pure_non, pure_bl, pure_int, pure_str, pure_tup, pure_lst, pures_nil, pures_cons, startF, List.replicate, List.length_cons, List.length_nil, List.set_cons_zero, List.set_cons_succ, List.getElem?_cons_zero, List.getElem?_cons_succ, List.getElem?_nil, Nat.zero_add, Nat.reduceAdd, Nat.reduceSub, Nat.reduceLT, Nat.reduceLeDiff, if_true, Bool.not_true, Bool.not_false, List.map_cons, List.map_nil, List.cons_append, List.nil_append, reduceIte, and_self, and_true, true_and, decide_true, decide_false, Bool.true_and, Bool.and_true, Bool.false_and, Bool.and_false, fin_non, fin_bl, fin_int, fin_str, finX_same', gt_iff_lt, Nat.lt_add_one, Bool.false_eq_true]
      exact ev_cmp (ev_v rfl) gg (by rcases hw c hc with z | z <;> subst z <;> rfl)) (by rw [strD_len]; exact lim_lt (by simp; omega))
  have lp2 : lcL (evE (prog.cx k (callF prog k)) e_merge_by_0) (evT (prog.cx k (callF prog k)) .yes) (.nm 8) [some (enc b), some (enc f), some (enc s), some (.tup (strD cs)), some (.int (mgC b f s).length), none, none, none, none] (strD cs) [] h = .ok (cs.map fun _ => D.bl true) h := by
    rw [lp, List.filter_eq_self.mpr fun _ _ => rfl]
    unfold strD
    rw [List.map_map]
    rfl
  have tA : evE (prog.cx k (callF prog k)) (.bi .all (.cons (.fr (.lc e_merge_by_0 (.nm 8) (.it (.v 3)) .yes)) .nil)) [some (enc b), some (enc f), some (enc s), some (.tup (strD cs)), some (.int (mgC b f s).length), none, none, none, none] h = .ok (.bl true) h := by
    have es : evSrc (prog.cx k (callF prog k)) (.it (.v 3)) [some (enc b), some (enc f), some (enc s), some (.tup (strD cs)), some (.int (mgC b f s).length), none, none, none, none] h = .ok (strD cs) h := by
      simp only [evSs, evS, evE, evL, evT, evTA, evTO, evF, evSrc, evO, evAnd, evOr, asgT, asgTs, cx_glob, cx_call, shal_int, shal_str, shal_tup, shal_lst, shal_non, shal_bl, bin_addi, bin_subi, bin_addt, bin_addl, bin_adds, bin_mod, bin_div, cmp_lt, cmp_le, cmp_gt, cmp_ge, cmp_eqi, cmp_nei, cmp_eqs, cmp_nes, cmp_ins, cmp_nins, cmp_isn, cmp_isns, item_tup, item_lst, bi_lens, bi_lent, bi_lenl, bi_int, bi_intb, bi_abs, bi_max2, bi_tuplel, bi_tuplet, itD, slice, seqD, pure_non, pure_bl, pure_int, pure_str, pure_tup, pure_lst, pures_nil, pures_cons, startF, List.replicate, List.length_cons, List.length_nil, List.set_cons_zero, List.set_cons_succ, List.getElem?_cons_zero, List.getElem?_cons_succ, List.getElem?_nil, Nat.zero_add, Nat.reduceAdd, Nat.reduceSub, Nat.reduceLT, Nat.reduceLeDiff, if_true, Bool.not_true, Bool.not_false, List.map_cons, List.map_nil, List.cons_append, List.nil_append, reduceIte, and_self, and_true, true_and, decide_true, decide_false, Bool.true_and, Bool.and_true, Bool.false_and, Bool.and_false, fin_non, fin_bl, fin_int, fin_str, finX_same', gt_iff_lt, Nat.lt_add_one, Bool.false_eq_true]
    rw [evE, ev_cons (ev_lc es lp2) ev_nil]
    dsimp only
    rw [bi_all, bools_map]
    simp
  have t1 : evS (prog.cx k (callF prog k)) s_merge_by_1 [some (enc b), some (enc f), some (enc s), some (.tup (strD cs)), some (.int (mgC b f s).length), none, none, none, none] h = .nx [some (enc b), some (enc f), some (enc s), some (.tup (strD cs)), some (.int (mgC b f s).length), none, none, none, none] h := by
    have d : decide (((strD cs).length : Int) = ((mgC b f s).length : Int)) = true := decide_eq_true (by rw [strD_len]; omega)
    have a1 : evT (prog.cx k (callF prog k)) (.e (.cmp .ne (.bi .len (.cons (.v 3) .nil)) (.v 4))) [some (enc b), some (enc f), some (enc s), some (.tup (strD cs)), some (.int (mgC b f s).length), none, none, none, none] h = .ok false h := by
      simp only [d, evSs, evS, evE, evL, evT, evTA, evTO, evF, evSrc, evO, evAnd, evOr, asgT, asgTs, cx_glob, cx_call, shal_int, shal_str, shal_tup, shal_lst, shal_non, shal_bl, bin_addi, bin_subi, bin_addt, bin_addl, bin_adds, bin_mod, bin_div, cmp_lt, cmp_le, cmp_gt, cmp_ge, cmp_eqi, cmp_nei, cmp_eqs, cmp_nes, cmp_ins, cmp_nins, cmp_isn, cmp_isns, item_tup, item_lst, bi_lens, bi_lent, bi_lenl, bi_int, bi_intb, bi_abs, bi_max2, bi_tuplel, bi_tuplet, itD, slice, seqD, pure_non, pure_bl, pure_int, pure_str, pure_tup, pure_lst, pures_nil, pures_cons, startF, List.replicate, List.length_cons, List.length_nil, List.set_cons_zero, List.set_cons_succ, List.getElem?_cons_zero, List.getElem?_cons_succ, List.getElem?_nil, Nat.zero_add, Nat.reduceAdd, Nat.reduceSub, Nat.reduceLT, Nat.reduceLeDiff, if_true, Bool.not_true, Bool.not_false, List.map_cons, List.map_nil, List.cons_append, List.nil_append, reduceIte, and_self, and_true, true_and, decide_true, decide_false, Bool.true_and, Bool.and_true, Bool.false_and, Bool.and_false, fin_non, fin_bl, fin_int, fin_str, finX_same', gt_iff_lt, Nat.lt_add_one, Bool.false_eq_true]
    have a2 : evT (prog.cx k (callF prog k)) (.not (.e (.bi .all (.cons (.fr (.lc e_merge_by_0 (.nm 8) (.it (.v 3)) .yes)) .nil)))) [some (enc b), some (enc f), some (enc s), some (.tup (strD cs)), some (.int (mgC b f s).length), none, none, none, none] h = .ok false h := by
      rw [evT, evT, tA]
      rfl
    have tt : evT (prog.cx k (callF prog k)) (.or (.cons (.e (.cmp .ne (.bi .len (.cons (.v 3) .nil)) (.v 4))) (.cons (.not (.e (.bi .all (.cons (.fr (.lc e_merge_by_0 (.nm 8) (.it (.v 3)) .yes)) .nil)))) .nil))) [some (enc b), some (enc f), some (enc s), some (.tup (strD cs)), some (.int (mgC b f s).length), none, none, none, none] h = .ok false h := by
      rw [evT]
      simp only [evTO, a1, a2]
    rw [s_merge_by_1, evS, tt]
    dsimp only
    rw [evSs]
  have t2 : evS (prog.cx k (callF prog k)) s_merge_by_2 [some (enc b), some (enc f), some (enc s), some (.tup (strD cs)), some (.int (mgC b f s).length), none, none, none, none] h = .nx [some (enc b), some (enc f), some (enc s), some (.tup (strD cs)), some (.int (mgC b f s).length), some (enc r), none, none, none] (h ++ [.box (.lst rest)]) := by
    simp only [s_merge_by_2, co, evSs, evS, evE, evL, evT, evTA, evTO, evF, evSrc, evO, evAnd, evOr, asgT, asgTs, cx_glob, cx_call, shal_int, shal_str, shal_tup, shal_lst, shal_non, shal_bl, bin_addi, bin_subi, bin_addt, bin_addl, bin_adds, bin_mod, bin_div, cmp_lt, cmp_le, cmp_gt, cmp_ge, cmp_eqi, cmp_nei, cmp_eqs, cmp_nes, cmp_ins, cmp_nins, cmp_isn, cmp_isns, item_tup, item_lst, bi_lens, bi_lent, bi_lenl, bi_int, bi_intb, bi_abs, bi_max2, bi_tuplel, bi_tuplet, itD, slice, seqD, pure_non, pure_bl, pure_int, pure_str, pure_tup, pure_lst, pures_nil, pures_cons, startF, List.replicate, List.length_cons, List.length_nil, List.set_cons_zero, List.set_cons_succ, List.getElem?_cons_zero, List.getElem?_cons_succ, List.getElem?_nil, Nat.zero_add, Nat.reduceAdd, Nat.reduceSub, Nat.reduceLT, Nat.reduceLeDiff, if_true, Bool.not_true, Bool.not_false, List.map_cons, List.map_nil, List.cons_append, List.nil_append, reduceIte, and_self, and_true, true_and, decide_true, decide_false, Bool.true_and, Bool.and_true, Bool.false_and, Bool.and_false, fin_non, fin_bl, fin_int, fin_str, finX_same', gt_iff_lt, Nat.lt_add_one, Bool.false_eq_true]
  have t3 : evS (prog.cx k (callF prog k)) s_merge_by_3 [some (enc b), some (enc f), some (enc s), some (.tup (strD cs)), some (.int (mgC b f s).length), some (enc r), none, none, none] (h ++ [.box (.lst rest)]) = .nx [some (enc b), some (enc f), some (enc s), some (.tup (strD cs)), some (.int (mgC b f s).length), some (enc r), some (.int (sz r)), some (.int (dp r)), none] (h ++ [.box (.lst rest)]) := by
    simp only [s_merge_by_3, ms, evSs, evS, evE, evL, evT, evTA, evTO, evF, evSrc, evO, evAnd, evOr, asgT, asgTs, cx_glob, cx_call, shal_int, shal_str, shal_tup, shal_lst, shal_non, shal_bl, bin_addi, bin_subi, bin_addt, bin_addl, bin_adds, bin_mod, bin_div, cmp_lt, cmp_le, cmp_gt, cmp_ge, cmp_eqi, cmp_nei, cmp_eqs, cmp_nes, cmp_ins, cmp_nins, cmp_isn, cmp_isns, item_tup, item_lst, bi_lens, bi_lent, bi_lenl, bi_int, bi_intb, bi_abs, bi_max2, bi_tuplel, bi_tuplet, itD, slice, seqD, pure_non, pure_bl, pure_int, pure_str, pure_tup, pure_lst, pures_nil, pures_cons, startF, List.replicate, List.length_cons, List.length_nil, List.set_cons_zero, List.set_cons_succ, List.getElem?_cons_zero, List.getElem?_cons_succ, List.getElem?_nil, Nat.zero_add, Nat.reduceAdd, Nat.reduceSub, Nat.reduceLT, Nat.reduceLeDiff, if_true, Bool.not_true, Bool.not_false, List.map_cons, List.map_nil, List.cons_append, List.nil_append, reduceIte, and_self, and_true, true_and, decide_true, decide_false, Bool.true_and, Bool.and_true, Bool.false_and, Bool.and_false, fin_non, fin_bl, fin_int, fin_str, finX_same', gt_iff_lt, Nat.lt_add_one, Bool.false_eq_true]
  have t4 : evS (prog.cx k (callF prog k)) s_merge_by_4 [some (enc b), some (enc f), some (enc s), some (.tup (strD cs)), some (.int (mgC b f s).length), some (enc r), some (.int (sz r)), some (.int (dp r)), none] (h ++ [.box (.lst rest)]) = .nx [some (enc b), some (enc f), some (enc s), some (.tup (strD cs)), some (.int (mgC b f s).length), some (enc r), some (.int (sz r)), some (.int (dp r)), none] (h ++ [.box (.lst rest)]) := by
    have z1 : ¬ (300 : Int) < (sz r : Int) := by omega
    have z2 : ¬ (40 : Int) < (dp r : Int) := by omega
    simp only [s_merge_by_4, gl2, gl3, z1, z2, evSs, evS, evE, evL, evT, evTA, evTO, evF, evSrc, evO, evAnd, evOr, asgT, asgTs, cx_glob, cx_call, shal_int, shal_str, shal_tup, shal_lst, shal_non, shal_bl, bin_addi, bin_subi, bin_addt, bin_addl, bin_adds, bin_mod, bin_div, cmp_lt, cmp_le, cmp_gt, cmp_ge, cmp_eqi, cmp_nei, cmp_eqs, cmp_nes, cmp_ins, cmp_nins, cmp_isn, cmp_isns, item_tup, item_lst, bi_lens, bi_lent, bi_lenl, bi_int, bi_intb, bi_abs, bi_max2, bi_tuplel, bi_tuplet, itD, slice, seqD, pure_non, pure_bl, pure_int, pure_str, pure_tup, pure_lst, pures_nil, pures_cons, startF, List.replicate, List.length_cons, List.length_nil, List.set_cons_zero, List.set_cons_succ, List.getElem?_cons_zero, List.getElem?_cons_succ, List.getElem?_nil, Nat.zero_add, Nat.reduceAdd, Nat.reduceSub, Nat.reduceLT, Nat.reduceLeDiff, if_true, Bool.not_true, Bool.not_false, List.map_cons, List.map_nil, List.cons_append, List.nil_append, reduceIte, and_self, and_true, true_and, decide_true, decide_false, Bool.true_and, Bool.and_true, Bool.false_and, Bool.and_false, fin_non, fin_bl, fin_int, fin_str, finX_same', gt_iff_lt, Nat.lt_add_one, Bool.false_eq_true]
  have t5 : evS (prog.cx k (callF prog k)) s_merge_by_5 [some (enc b), some (enc f), some (enc s), some (.tup (strD cs)), some (.int (mgC b f s).length), some (enc r), some (.int (sz r)), some (.int (dp r)), none] (h ++ [.box (.lst rest)]) = .rt (enc r) (h ++ [.box (.lst rest)]) := by
    simp only [s_merge_by_5, evSs, evS, evE, evL, evT, evTA, evTO, evF, evSrc, evO, evAnd, evOr, asgT, asgTs, cx_glob, cx_call, shal_int, shal_str, shal_tup, shal_lst, shal_non, shal_bl, bin_addi, bin_subi, bin_addt, bin_addl, bin_adds, bin_mod, bin_div, cmp_lt, cmp_le, cmp_gt, cmp_ge, cmp_eqi, cmp_nei, cmp_eqs, cmp_nes, cmp_ins, cmp_nins, cmp_isn, cmp_isns, item_tup, item_lst, bi_lens, bi_lent, bi_lenl, bi_int, bi_intb, bi_abs, bi_max2, bi_tuplel, bi_tuplet, itD, slice, seqD, pure_non, pure_bl, pure_int, pure_str, pure_tup, pure_lst, pures_nil, pures_cons, startF, List.replicate, List.length_cons, List.length_nil, List.set_cons_zero, List.set_cons_succ, List.getElem?_cons_zero, List.getElem?_cons_succ, List.getElem?_nil, Nat.zero_add, Nat.reduceAdd, Nat.reduceSub, Nat.reduceLT, Nat.reduceLeDiff, if_true, Bool.not_true, Bool.not_false, List.map_cons, List.map_nil, List.cons_append, List.nil_append, reduceIte, and_self, and_true, true_and, decide_true, decide_false, Bool.true_and, Bool.and_true, Bool.false_and, Bool.and_false, fin_non, fin_bl, fin_int, fin_str, finX_same', gt_iff_lt, Nat.lt_add_one, Bool.false_eq_true]
  have fr0 : startF d_merge_by.ns [enc b, enc f, enc s, .tup (strD cs)] = [some (enc b), some (enc f), some (enc s), some (.tup (strD cs)), none, none, none, none, none] := rfl
  have bodyE : d_merge_by.body = .cons s_merge_by_0 (.cons s_merge_by_1 (.cons s_merge_by_2 (.cons s_merge_by_3 (.cons s_merge_by_4 (.cons s_merge_by_5 .nil))))) := rfl
  rw [bodyE, fr0, seq_nx t0, seq_nx t1, seq_nx t2, seq_nx t3, seq_nx t4, seq_rt t5]
  exact fin_app (D.pure_ok _ _ (enc_pure _)) rfl
end K21
end
section
set_option Elab.async false
set_option autoImplicit false
set_option maxRecDepth 100000
set_option linter.all false
/-! N8: the law's own small defs. -/
namespace K21
open Ev
theorem law_same_ok (k : Nat) (h : Mem) (x y : D) (ds : List D) (hx : full h 3 (.lst [x]) = some (.lst ds)) (hy : full h 3 (.lst [y]) = some (.lst ds)) (h1 : (D.lst ds).dep ≤ 64) (h2 : (D.lst ds).wt ≤ 1000000) (h3 : (D.lst ds).fine = true) : callF prog (k + 1) i_law_same [x, y] h = .ok (.bl true) h := by
  rw [callF_succ (fd := d_law_same) rfl ⟨rfl, by decide⟩]
  have l1 : 1 ≤ LIM := by decide
  have b1 : biF .repr [.lst [x]] h = some (.rep (.lst ds)) := by
    simp only [biF, hx]
    rw [if_pos ⟨h1, h2, h3⟩]
  have b2 : biF .repr [.lst [y]] h = some (.rep (.lst ds)) := by
    simp only [biF, hy]
    rw [if_pos ⟨h1, h2, h3⟩]
  have c : cmpop h .eq (.rep (.lst ds)) (.rep (.lst ds)) = some true := by
    show (if (D.lst ds).beq (.lst ds) then some true else none) = some true
    rw [D.beq_refl, if_pos rfl]
  simp only [d_law_same, l1, b1, b2, c, evSs, evS, evE, evL, evT, evTA, evTO, evF, evSrc, evO, evAnd, evOr, asgT, asgTs, cx_glob, cx_call, shal_int, shal_str, shal_tup, shal_lst, shal_non, shal_bl, bin_addi, bin_subi, bin_addt, bin_addl, bin_adds, bin_mod, bin_div, cmp_lt, cmp_le, cmp_gt, cmp_ge, cmp_eqi, cmp_nei, cmp_eqs, cmp_nes, cmp_ins, cmp_nins, cmp_isn, cmp_isns, item_tup, item_lst, bi_lens, bi_lent, bi_lenl, bi_int, bi_intb, bi_abs, bi_max2, bi_tuplel, bi_tuplet, itD, slice, seqD, pure_non, pure_bl, pure_int, pure_str, pure_tup, pure_lst, pures_nil, pures_cons, startF, List.replicate, List.length_cons, List.length_nil, List.set_cons_zero, List.set_cons_succ, List.getElem?_cons_zero, List.getElem?_cons_succ, List.getElem?_nil, Nat.zero_add, Nat.reduceAdd, Nat.reduceSub, Nat.reduceLT, Nat.reduceLeDiff, if_true, Bool.not_true, Bool.not_false, List.map_cons, List.map_nil, List.cons_append, List.nil_append, reduceIte, and_self, and_true, true_and, decide_true, decide_false, Bool.true_and, Bool.and_true, Bool.false_and, Bool.and_false, fin_non, fin_bl, fin_int, fin_str, finX_same', gt_iff_lt, Nat.lt_add_one, Bool.false_eq_true]
end K21
namespace K21
open Ev
theorem law_next_ok (k : Nat) (h : Mem) (n : Nat) (is : List Int) (c m : Nat) (e : h[n]? = some (.box (.lst [.lst (is.map .int), .int (c : Int)]))) (hi : is ≠ []) (hl : is.length ≤ 100000) (hc : c < 2 ^ 60) (hm : 0 < m) :
    ∃ r : Nat, r < m ∧ callF prog (k + 1) i_law_next [.loc n, .int (m : Int)] h = .ok (.int (r : Int)) (h.set n (.box (.lst [.lst (is.map .int), .int ((c + 1 : Nat) : Int)]))) := by
  rw [callF_succ (fd := d_law_next) rfl ⟨rfl, by decide⟩]
  have hn := get_lt e
  have ip : 0 < is.length := List.length_pos_iff.mpr hi
  have lenI : (is.map D.int).length = is.length := by simp
  have e2 : (h.set n (.box (.lst [.lst (is.map .int), .int ((c + 1 : Nat) : Int)])))[n]? = some (.box (.lst [.lst (is.map .int), .int ((c + 1 : Nat) : Int)])) := set_get hn
  have a0 : ∀ x y : D, atI [x, y] 0 = some x := fun x y => atI_nat (i := 0)
  have a1 : ∀ x y : D, atI [x, y] 1 = some y := fun x y => atI_nat (i := 1)
  have ix1 : ixN 2 1 = some 1 := by decide
  have cc : (c : Int) + 1 = ((c + 1 : Nat) : Int) := by omega
  have t0 : evS (prog.cx k (callF prog k)) (.setix (.v 0) (.c (.int 1)) (.bin .add (.ix (.v 0) (.c (.int 1))) (.c (.int 1)))) [some (.loc n), some (.int (m : Int)), none] h = .nx [some (.loc n), some (.int (m : Int)), none] (h.set n (.box (.lst [.lst (is.map .int), .int ((c + 1 : Nat) : Int)]))) := by
    simp only [shal_box e, a1, e, ix1, cc, evSs, evS, evE, evL, evT, evTA, evTO, evF, evSrc, evO, evAnd, evOr, asgT, asgTs, cx_glob, cx_call, shal_int, shal_str, shal_tup, shal_lst, shal_non, shal_bl, bin_addi, bin_subi, bin_addt, bin_addl, bin_adds, bin_mod, bin_div, cmp_lt, cmp_le, cmp_gt, cmp_ge, cmp_eqi, cmp_nei, cmp_eqs, cmp_nes, cmp_ins, cmp_nins, cmp_isn, cmp_isns, item_tup, item_lst, bi_lens, bi_lent, bi_lenl, bi_int, bi_intb, bi_abs, bi_max2, bi_tuplel, bi_tuplet, itD, slice, seqD, pure_non, pure_bl, pure_int, pure_str, pure_tup, pure_lst, pures_nil, pures_cons, startF, List.replicate, List.length_cons, List.length_nil, List.set_cons_zero, List.set_cons_succ, List.getElem?_cons_zero, List.getElem?_cons_succ, List.getElem?_nil, Nat.zero_add, Nat.reduceAdd, Nat.reduceSub, Nat.reduceLT, Nat.reduceLeDiff, if_true, Bool.not_true, Bool.not_false, List.map_cons, List.map_nil, List.cons_append, List.nil_append, reduceIte, and_self, and_true, true_and, decide_true, decide_false, Bool.true_and, Bool.and_true, Bool.false_and, Bool.and_false, fin_non, fin_bl, fin_int, fin_str, finX_same', gt_iff_lt, Nat.lt_add_one, Bool.false_eq_true]
  generalize hh : h.set n (.box (.lst [.lst (is.map .int), .int ((c + 1 : Nat) : Int)])) = h2 at e2 t0 ⊢
  have lp : (0 : Int) < (is.length : Int) ∧ (is.length : Int) < 1073741824 := by omega
  have t1 : evS (prog.cx k (callF prog k)) (.asg (.nm 2) (.bin .fdiv (.ix (.v 0) (.c (.int 1))) (.bi .len (.cons (.ix (.v 0) (.c (.int 0))) .nil)))) [some (.loc n), some (.int (m : Int)), none] h2 = .nx [some (.loc n), some (.int (m : Int)), some (.int (((c + 1 : Nat) : Int) / (is.length : Int)))] h2 := by
    simp only [shal_box e2, a0, a1, lenI, lp, evSs, evS, evE, evL, evT, evTA, evTO, evF, evSrc, evO, evAnd, evOr, asgT, asgTs, cx_glob, cx_call, shal_int, shal_str, shal_tup, shal_lst, shal_non, shal_bl, bin_addi, bin_subi, bin_addt, bin_addl, bin_adds, bin_mod, bin_div, cmp_lt, cmp_le, cmp_gt, cmp_ge, cmp_eqi, cmp_nei, cmp_eqs, cmp_nes, cmp_ins, cmp_nins, cmp_isn, cmp_isns, item_tup, item_lst, bi_lens, bi_lent, bi_lenl, bi_int, bi_intb, bi_abs, bi_max2, bi_tuplel, bi_tuplet, itD, slice, seqD, pure_non, pure_bl, pure_int, pure_str, pure_tup, pure_lst, pures_nil, pures_cons, startF, List.replicate, List.length_cons, List.length_nil, List.set_cons_zero, List.set_cons_succ, List.getElem?_cons_zero, List.getElem?_cons_succ, List.getElem?_nil, Nat.zero_add, Nat.reduceAdd, Nat.reduceSub, Nat.reduceLT, Nat.reduceLeDiff, if_true, Bool.not_true, Bool.not_false, List.map_cons, List.map_nil, List.cons_append, List.nil_append, reduceIte, and_self, and_true, true_and, decide_true, decide_false, Bool.true_and, Bool.and_true, Bool.false_and, Bool.and_false, fin_non, fin_bl, fin_int, fin_str, finX_same', gt_iff_lt, Nat.lt_add_one, Bool.false_eq_true]
  have ej : ((c + 1 : Nat) : Int) % (is.length : Int) = (((c + 1) % is.length : Nat) : Int) := by simp
  have jl : (c + 1) % is.length < is.length := Nat.mod_lt _ ip
  have ea : atI (is.map D.int) (((c + 1) % is.length : Nat) : Int) = some (.int is[(c + 1) % is.length]) := by
    rw [atI_nat, List.getElem?_map, List.getElem?_eq_getElem jl]
    rfl
  generalize hq : ((c + 1 : Nat) : Int) / (is.length : Int) = q at t1
  generalize hv : is[(c + 1) % is.length] = v at ea
  have p1 : binop .mul (.int q) (.int 389) = some (.int (q * 389)) := mul_r (by decide)
  have p2 : binop .mul (.int ((c + 1 : Nat) : Int)) (.int q) = some (.int (((c + 1 : Nat) : Int) * q)) := mul_l (by omega)
  have p3 : binop .mul (.int (((c + 1 : Nat) : Int) * q)) (.int 17) = some (.int (((c + 1 : Nat) : Int) * q * 17)) := mul_r (by decide)
  have mp : (0 : Int) < (m : Int) := by omega
  have nn := Int.emod_nonneg (v + q * 389 + ((c + 1 : Nat) : Int) * q * 17) (show (m : Int) ≠ 0 by omega)
  have lt := Int.emod_lt_of_pos (v + q * 389 + ((c + 1 : Nat) : Int) * q * 17) mp
  refine ⟨((v + q * 389 + ((c + 1 : Nat) : Int) * q * 17) % (m : Int)).toNat, by omega, ?_⟩
  have et : ((((v + q * 389 + ((c + 1 : Nat) : Int) * q * 17) % (m : Int)).toNat : Nat) : Int) = (v + q * 389 + ((c + 1 : Nat) : Int) * q * 17) % (m : Int) := by omega
  have t2 : evS (prog.cx k (callF prog k)) (.ret (.bin .mod (.bi .int_ (.cons (.bin .add (.bin .add (.ix (.ix (.v 0) (.c (.int 0))) (.bin .mod (.ix (.v 0) (.c (.int 1))) (.bi .len (.cons (.ix (.v 0) (.c (.int 0))) .nil)))) (.bin .mul (.v 2) (.c (.int 389)))) (.bin .mul (.bin .mul (.ix (.v 0) (.c (.int 1))) (.v 2)) (.c (.int 17)))) .nil)) (.v 1))) [some (.loc n), some (.int (m : Int)), some (.int q)] h2 = .rt (.int ((v + q * 389 + ((c + 1 : Nat) : Int) * q * 17) % (m : Int))) h2 := by
    have v0 : evE (prog.cx k (callF prog k)) (.v 0) [some (.loc n), some (.int (m : Int)), some (.int q)] h2 = .ok (.loc n) h2 := ev_v rfl
    have w0 : evE (prog.cx k (callF prog k)) (.ix (.v 0) (.c (.int 0))) [some (.loc n), some (.int (m : Int)), some (.int q)] h2 = .ok (.lst (is.map .int)) h2 := ev_ix v0 (ev_c rfl) (by rw [shal_box e2]; exact a0 _ _)
    have w1 : evE (prog.cx k (callF prog k)) (.ix (.v 0) (.c (.int 1))) [some (.loc n), some (.int (m : Int)), some (.int q)] h2 = .ok (.int ((c + 1 : Nat) : Int)) h2 := ev_ix v0 (ev_c rfl) (by rw [shal_box e2]; exact a1 _ _)
    have wl : evE (prog.cx k (callF prog k)) (.bi .len (.cons (.ix (.v 0) (.c (.int 0))) .nil)) [some (.loc n), some (.int (m : Int)), some (.int q)] h2 = .ok (.int (is.length : Int)) h2 := ev_bi (ev_cons w0 ev_nil) (by rw [bi_lenl, lenI])
    have wm := ev_bin (o := .mod) w1 wl (z := .int (((c + 1) % is.length : Nat) : Int)) (by rw [shal_int, shal_int, bin_mod, if_pos lp.1, ej])
    have wi := ev_ix w0 wm (z := .int v) (by rw [shal_lst, item_lst]; exact ea)
    have v2 : evE (prog.cx k (callF prog k)) (.v 2) [some (.loc n), some (.int (m : Int)), some (.int q)] h2 = .ok (.int q) h2 := ev_v rfl
    have wa := ev_bin (o := .mul) v2 (ev_c (d := .int 389) rfl) p1
    have wb := ev_bin (o := .add) wi wa rfl
    have wc := ev_bin (o := .mul) (ev_bin (o := .mul) w1 v2 p2) (ev_c (d := .int 17) rfl) p3
    have wd := ev_bin (o := .add) wb wc rfl
    exact ev_ret (ev_bin (ev_bi (ev_cons wd ev_nil) rfl) (ev_v rfl) (by show binop .mod (.int _) (.int _) = _; rw [bin_mod, if_pos mp]))
  show (match evSs _ (.cons _ (.cons _ (.cons _ .nil))) [some (.loc n), some (.int (m : Int)), none] h with
    | .nx _ h1 => fin true h h1 .non
    | .rt d h1 => fin true h h1 d
    | .exc c x _ h1 => finX true h h1 c x
    | _ => .stuck) = _
  rw [seq_nx t0, seq_nx t1, seq_rt t2, et, ← hh]
  refine fin_set0 rfl (okB_box ?_)
  have pi : ∀ l : List Int, D.pures (l.map D.int) = true := fun l => by
    induction l with
    | nil => rfl
    | cons a l ih => rw [List.map_cons, pures_cons, ih]; rfl
  rw [pures_cons, pures_cons, pure_lst, pi]
  rfl
end K21
end
section
set_option Elab.async false
set_option autoImplicit false
set_option maxRecDepth 100000
set_option linter.all false
/-! N9: the law's stream. -/
namespace K21
open Ev
theorem map_snoc (is : List Int) (i : Int) : is.map D.int ++ [D.int i] = (is ++ [i]).map D.int := by simp
theorem ints_pure : ∀ l : List Int, D.pures (l.map D.int) = true
  | [] => rfl
  | a :: l => by rw [List.map_cons, pures_cons, ints_pure l]; rfl
def stI (h : Mem) (B : Nat) (sc : D) (xs : List D) (σ : Fr) (h' : Mem) : Prop :=
  ∃ (is : List Int) (r : Int) (o2 o4 o5 : Option D), σ = [some sc, some (.loc h.length), o2, some (.int r), o4, o5] ∧ h' = h ++ [.box (.lst (is.map .int))] ∧ is.length + xs.length ≤ B
def stQ (h : Mem) (B : Nat) (sc : D) (r : RS) : Prop :=
  ∃ (is : List Int) (o2 o3 o4 o5 : Option D), r = .nx [some sc, some (.loc h.length), o2, o3, o4, o5] (h ++ [.box (.lst (is.map .int))]) ∧ is.length ≤ B
theorem stream_0 (k : Nat) (h : Mem) (B : Nat) (sc : D) (hB : B ≤ 10000) (xs : List D) (σ : Fr) (h' : Mem) (i : stI h B sc xs σ h') : stQ h B sc (forL (evSs (prog.cx k (callF prog k)) b_law_stream_0) (.nm 4) xs σ h') := by
  refine forL_inv (Q := stQ h B sc) (stI h B sc) ?_ ?_ xs σ h' i
  · rintro σ h' ⟨is, r, o2, o4, o5, rfl, rfl, hl⟩
    exact ⟨is, o2, _, o4, o5, rfl, by simpa using hl⟩
  · rintro x xs σ h' ⟨is, r, o2, o4, o5, rfl, rfl, hl⟩
    refine ⟨[some sc, some (.loc h.length), o2, some (.int r), some x, o5], rfl, ?_⟩
    rw [List.length_cons] at hl
    have lx : (is.map D.int).length < LIM := lim_lt' (by rw [List.length_map]; omega)
    have p1 : (0 : Int) < 1009 := by decide
    have p2 : (0 : Int) < 1009 ∧ (1009 : Int) < 1073741824 := by decide
    have ga : evL (prog.cx k (callF prog k)) (.cons (.bin .mod (.bi .int_ (.cons (.v 3) .nil)) (.c (.int 1009))) .nil) [some sc, some (.loc h.length), o2, some (.int r), some x, o5] (h ++ [.box (.lst (is.map .int))]) = .ok [.int (r % 1009)] (h ++ [.box (.lst (is.map .int))]) := by
      simp only [p1, evSs, evS, evE, evL, evT, evTA, evTO, evF, evSrc, evO, evAnd, evOr, asgT, asgTs, cx_glob, cx_call, shal_int, shal_str, shal_tup, shal_lst, shal_non, shal_bl, bin_addi, bin_subi, bin_addt, bin_addl, bin_adds, bin_mod, bin_div, cmp_lt, cmp_le, cmp_gt, cmp_ge, cmp_eqi, cmp_nei, cmp_eqs, cmp_nes, cmp_ins, cmp_nins, cmp_isn, cmp_isns, item_tup, item_lst, bi_lens, bi_lent, bi_lenl, bi_int, bi_intb, bi_abs, bi_max2, bi_tuplel, bi_tuplet, itD, slice, seqD, pure_non, pure_bl, pure_int, pure_str, pure_tup, pure_lst, pures_nil, pures_cons, startF, List.replicate, List.length_cons, List.length_nil, List.set_cons_zero, List.set_cons_succ, List.getElem?_cons_zero, List.getElem?_cons_succ, List.getElem?_nil, Nat.zero_add, Nat.reduceAdd, Nat.reduceSub, Nat.reduceLT, Nat.reduceLeDiff, if_true, Bool.not_true, Bool.not_false, List.map_cons, List.map_nil, List.cons_append, List.nil_append, reduceIte, and_self, and_true, true_and, decide_true, decide_false, Bool.true_and, Bool.and_true, Bool.false_and, Bool.and_false, fin_non, fin_bl, fin_int, fin_str, finX_same', gt_iff_lt, Nat.lt_add_one, Bool.false_eq_true]
    have t0 := evS_expr (ev_mt (m := .append) (o := .v 1) (ev_v (C := prog.cx k (callF prog k)) rfl) m1_get0 ga (mt_append m1_get0 lx))
    rw [m1_set0, map_snoc] at t0
    have t1 : evS (prog.cx k (callF prog k)) (.asg (.nm 3) (.bin .fdiv (.v 3) (.c (.int 1009)))) [some sc, some (.loc h.length), o2, some (.int r), some x, o5] (h ++ [.box (.lst ((is ++ [r % 1009]).map .int))]) = .nx [some sc, some (.loc h.length), o2, some (.int (r / 1009)), some x, o5] (h ++ [.box (.lst ((is ++ [r % 1009]).map .int))]) := by
      simp only [p2, evSs, evS, evE, evL, evT, evTA, evTO, evF, evSrc, evO, evAnd, evOr, asgT, asgTs, cx_glob, cx_call, shal_int, shal_str, shal_tup, shal_lst, shal_non, shal_bl, bin_addi, bin_subi, bin_addt, bin_addl, bin_adds, bin_mod, bin_div, cmp_lt, cmp_le, cmp_gt, cmp_ge, cmp_eqi, cmp_nei, cmp_eqs, cmp_nes, cmp_ins, cmp_nins, cmp_isn, cmp_isns, item_tup, item_lst, bi_lens, bi_lent, bi_lenl, bi_int, bi_intb, bi_abs, bi_max2, bi_tuplel, bi_tuplet, itD, slice, seqD, pure_non, pure_bl, pure_int, pure_str, pure_tup, pure_lst, pures_nil, pures_cons, startF, List.replicate, List.length_cons, List.length_nil, List.set_cons_zero, List.set_cons_succ, List.getElem?_cons_zero, List.getElem?_cons_succ, List.getElem?_nil, Nat.zero_add, Nat.reduceAdd, Nat.reduceSub, Nat.reduceLT, Nat.reduceLeDiff, if_true, Bool.not_true, Bool.not_false, List.map_cons, List.map_nil, List.cons_append, List.nil_append, reduceIte, and_self, and_true, true_and, decide_true, decide_false, Bool.true_and, Bool.and_true, Bool.false_and, Bool.and_false, fin_non, fin_bl, fin_int, fin_str, finX_same', gt_iff_lt, Nat.lt_add_one, Bool.false_eq_true]
    have le : (is ++ [r % 1009]).length = is.length + 1 := by simp
    by_cases z : r / 1009 = 0
    · have t2 : evS (prog.cx k (callF prog k)) (.ite (.e (.cmp .eq (.v 3) (.c (.int 0)))) (.cons .brk .nil) .nil) [some sc, some (.loc h.length), o2, some (.int (r / 1009)), some x, o5] (h ++ [.box (.lst ((is ++ [r % 1009]).map .int))]) = .bk [some sc, some (.loc h.length), o2, some (.int (r / 1009)), some x, o5] (h ++ [.box (.lst ((is ++ [r % 1009]).map .int))]) := by
        rw [z]
        simp only [evSs, evS, evE, evL, evT, evTA, evTO, evF, evSrc, evO, evAnd, evOr, asgT, asgTs, cx_glob, cx_call, shal_int, shal_str, shal_tup, shal_lst, shal_non, shal_bl, bin_addi, bin_subi, bin_addt, bin_addl, bin_adds, bin_mod, bin_div, cmp_lt, cmp_le, cmp_gt, cmp_ge, cmp_eqi, cmp_nei, cmp_eqs, cmp_nes, cmp_ins, cmp_nins, cmp_isn, cmp_isns, item_tup, item_lst, bi_lens, bi_lent, bi_lenl, bi_int, bi_intb, bi_abs, bi_max2, bi_tuplel, bi_tuplet, itD, slice, seqD, pure_non, pure_bl, pure_int, pure_str, pure_tup, pure_lst, pures_nil, pures_cons, startF, List.replicate, List.length_cons, List.length_nil, List.set_cons_zero, List.set_cons_succ, List.getElem?_cons_zero, List.getElem?_cons_succ, List.getElem?_nil, Nat.zero_add, Nat.reduceAdd, Nat.reduceSub, Nat.reduceLT, Nat.reduceLeDiff, if_true, Bool.not_true, Bool.not_false, List.map_cons, List.map_nil, List.cons_append, List.nil_append, reduceIte, and_self, and_true, true_and, decide_true, decide_false, Bool.true_and, Bool.and_true, Bool.false_and, Bool.and_false, fin_non, fin_bl, fin_int, fin_str, finX_same', gt_iff_lt, Nat.lt_add_one, Bool.false_eq_true]
      have e : evSs (prog.cx k (callF prog k)) b_law_stream_0 [some sc, some (.loc h.length), o2, some (.int r), some x, o5] (h ++ [.box (.lst (is.map .int))]) = .bk [some sc, some (.loc h.length), o2, some (.int (r / 1009)), some x, o5] (h ++ [.box (.lst ((is ++ [r % 1009]).map .int))]) := by
        rw [b_law_stream_0, seq_nx t0, seq_nx t1, evSs, t2]
      rw [e]
      exact ⟨_, _, _, _, _, rfl, by omega⟩
    · have t2 : evS (prog.cx k (callF prog k)) (.ite (.e (.cmp .eq (.v 3) (.c (.int 0)))) (.cons .brk .nil) .nil) [some sc, some (.loc h.length), o2, some (.int (r / 1009)), some x, o5] (h ++ [.box (.lst ((is ++ [r % 1009]).map .int))]) = .nx [some sc, some (.loc h.length), o2, some (.int (r / 1009)), some x, o5] (h ++ [.box (.lst ((is ++ [r % 1009]).map .int))]) := by
        have dz : decide (r / 1009 = 0) = false := decide_eq_false z
        simp only [dz, evSs, evS, evE, evL, evT, evTA, evTO, evF, evSrc, evO, evAnd, evOr, asgT, asgTs, cx_glob, cx_call, shal_int, shal_str, shal_tup, shal_lst, shal_non, shal_bl, bin_addi, bin_subi, bin_addt, bin_addl, bin_adds, bin_mod, bin_div, cmp_lt, cmp_le, cmp_gt, cmp_ge, cmp_eqi, cmp_nei, cmp_eqs, cmp_nes, cmp_ins, cmp_nins, cmp_isn, cmp_isns, item_tup, item_lst, bi_lens, bi_lent, bi_lenl, bi_int, bi_intb, bi_abs, bi_max2, bi_tuplel, bi_tuplet, itD, slice, seqD, pure_non, pure_bl, pure_int, pure_str, pure_tup, pure_lst, pures_nil, pures_cons, startF, List.replicate, List.length_cons, List.length_nil, List.set_cons_zero, List.set_cons_succ, List.getElem?_cons_zero, List.getElem?_cons_succ, List.getElem?_nil, Nat.zero_add, Nat.reduceAdd, Nat.reduceSub, Nat.reduceLT, Nat.reduceLeDiff, if_true, Bool.not_true, Bool.not_false, List.map_cons, List.map_nil, List.cons_append, List.nil_append, reduceIte, and_self, and_true, true_and, decide_true, decide_false, Bool.true_and, Bool.and_true, Bool.false_and, Bool.and_false, fin_non, fin_bl, fin_int, fin_str, finX_same', gt_iff_lt, Nat.lt_add_one, Bool.false_eq_true]
      have e : evSs (prog.cx k (callF prog k)) b_law_stream_0 [some sc, some (.loc h.length), o2, some (.int r), some x, o5] (h ++ [.box (.lst (is.map .int))]) = .nx [some sc, some (.loc h.length), o2, some (.int (r / 1009)), some x, o5] (h ++ [.box (.lst ((is ++ [r % 1009]).map .int))]) := by
        rw [b_law_stream_0, seq_nx t0, seq_nx t1, seq_nx t2, evSs]
      rw [e]
      exact ⟨_, _, _, _, _, rfl, rfl, by omega⟩
def stI1 (h : Mem) (B : Nat) (sc : D) (xs : List D) (σ : Fr) (h' : Mem) : Prop :=
  ∃ (is : List Int) (s : Int) (o2 o3 o4 : Option D), σ = [some sc, some (.loc h.length), o2, o3, o4, some (.int s)] ∧ h' = h ++ [.box (.lst (is.map .int))] ∧ is.length + xs.length ≤ B ∧ (0 ≤ s ∧ s < 2147483647) ∧ ∀ x ∈ xs, ∃ i : Int, x = .int i
theorem stream_1 (k : Nat) (h : Mem) (B : Nat) (sc : D) (hB : B ≤ 10000) (xs : List D) (σ : Fr) (h' : Mem) (i : stI1 h B sc xs σ h') : stQ h B sc (forL (evSs (prog.cx k (callF prog k)) b_law_stream_1) (.nm 4) xs σ h') := by
  refine forL_inv (Q := stQ h B sc) (stI1 h B sc) ?_ ?_ xs σ h' i
  · rintro σ h' ⟨is, s, o2, o3, o4, rfl, rfl, hl, _⟩
    exact ⟨is, o2, _, o4, _, rfl, by simpa using hl⟩
  · rintro x xs σ h' ⟨is, s, o2, o3, o4, rfl, rfl, hl, hs, hx⟩
    obtain ⟨i, rfl⟩ := hx x List.mem_cons_self
    refine ⟨[some sc, some (.loc h.length), o2, o3, some (.int i), some (.int s)], rfl, ?_⟩
    rw [List.length_cons] at hl
    have lx : (is.map D.int).length < LIM := lim_lt' (by rw [List.length_map]; omega)
    have m1 : binop .mul (.int s) (.int 48271) = some (.int (s * 48271)) := mul_r (by decide)
    have m2 : binop .mul (.int 7) (.int i) = some (.int (7 * i)) := mul_l (by decide)
    have p1 : (0 : Int) < 2147483647 := by decide
    have t0 : evS (prog.cx k (callF prog k)) (.asg (.nm 5) (.bin .mod (.bi .int_ (.cons (.bin .add (.bin .add (.bin .mul (.v 5) (.c (.int 48271))) (.bin .mul (.c (.int 7)) (.v 4))) (.c (.int 11))) .nil)) (.c (.int 2147483647)))) [some sc, some (.loc h.length), o2, o3, some (.int i), some (.int s)] (h ++ [.box (.lst (is.map .int))]) = .nx [some sc, some (.loc h.length), o2, o3, some (.int i), some (.int ((s * 48271 + 7 * i + 11) % 2147483647))] (h ++ [.box (.lst (is.map .int))]) := by
      simp only [m1, m2, p1, evSs, evS, evE, evL, evT, evTA, evTO, evF, evSrc, evO, evAnd, evOr, asgT, asgTs, cx_glob, cx_call, shal_int, shal_str, shal_tup, shal_lst, shal_non, shal_bl, bin_addi, bin_subi, bin_addt, bin_addl, bin_adds, bin_mod, bin_div, cmp_lt, cmp_le, cmp_gt, cmp_ge, cmp_eqi, cmp_nei, cmp_eqs, cmp_nes, cmp_ins, cmp_nins, cmp_isn, cmp_isns, item_tup, item_lst, bi_lens, bi_lent, bi_lenl, bi_int, bi_intb, bi_abs, bi_max2, bi_tuplel, bi_tuplet, itD, slice, seqD, pure_non, pure_bl, pure_int, pure_str, pure_tup, pure_lst, pures_nil, pures_cons, startF, List.replicate, List.length_cons, List.length_nil, List.set_cons_zero, List.set_cons_succ, List.getElem?_cons_zero, List.getElem?_cons_succ, List.getElem?_nil, Nat.zero_add, Nat.reduceAdd, Nat.reduceSub, Nat.reduceLT, Nat.reduceLeDiff, if_true, Bool.not_true, Bool.not_false, List.map_cons, List.map_nil, List.cons_append, List.nil_append, reduceIte, and_self, and_true, true_and, decide_true, decide_false, Bool.true_and, Bool.and_true, Bool.false_and, Bool.and_false, fin_non, fin_bl, fin_int, fin_str, finX_same', gt_iff_lt, Nat.lt_add_one, Bool.false_eq_true]
    have b1 := Int.emod_nonneg (s * 48271 + 7 * i + 11) (show (2147483647 : Int) ≠ 0 by decide)
    have b2 := Int.emod_lt_of_pos (s * 48271 + 7 * i + 11) p1
    generalize (s * 48271 + 7 * i + 11) % 2147483647 = s' at t0 b1 b2
    have m3 : binop .mul (.int s') (.int 69621) = some (.int (s' * 69621)) := mul_r (by decide)
    have p2 : (0 : Int) < 2147483629 := by decide
    have p3 : (0 : Int) < 1009 := by decide
    have ga : evL (prog.cx k (callF prog k)) (.cons (.bin .mod (.bin .mod (.bi .int_ (.cons (.bin .add (.bin .mul (.v 5) (.c (.int 69621))) (.v 4)) .nil)) (.c (.int 2147483629))) (.c (.int 1009))) .nil) [some sc, some (.loc h.length), o2, o3, some (.int i), some (.int s')] (h ++ [.box (.lst (is.map .int))]) = .ok [.int ((s' * 69621 + i) % 2147483629 % 1009)] (h ++ [.box (.lst (is.map .int))]) := by
      simp only [m3, p2, p3, evSs, evS, evE, evL, evT, evTA, evTO, evF, evSrc, evO, evAnd, evOr, asgT, asgTs, cx_glob, cx_call, shal_int, shal_str, shal_tup, shal_lst, shal_non, shal_bl, bin_addi, bin_subi, bin_addt, bin_addl, bin_adds, bin_mod, bin_div, cmp_lt, cmp_le, cmp_gt, cmp_ge, cmp_eqi, cmp_nei, cmp_eqs, cmp_nes, cmp_ins, cmp_nins, cmp_isn, cmp_isns, item_tup, item_lst, bi_lens, bi_lent, bi_lenl, bi_int, bi_intb, bi_abs, bi_max2, bi_tuplel, bi_tuplet, itD, slice, seqD, pure_non, pure_bl, pure_int, pure_str, pure_tup, pure_lst, pures_nil, pures_cons, startF, List.replicate, List.length_cons, List.length_nil, List.set_cons_zero, List.set_cons_succ, List.getElem?_cons_zero, List.getElem?_cons_succ, List.getElem?_nil, Nat.zero_add, Nat.reduceAdd, Nat.reduceSub, Nat.reduceLT, Nat.reduceLeDiff, if_true, Bool.not_true, Bool.not_false, List.map_cons, List.map_nil, List.cons_append, List.nil_append, reduceIte, and_self, and_true, true_and, decide_true, decide_false, Bool.true_and, Bool.and_true, Bool.false_and, Bool.and_false, fin_non, fin_bl, fin_int, fin_str, finX_same', gt_iff_lt, Nat.lt_add_one, Bool.false_eq_true]
    have t1 := evS_expr (ev_mt (m := .append) (o := .v 1) (ev_v (C := prog.cx k (callF prog k)) rfl) m1_get0 ga (mt_append m1_get0 lx))
    rw [m1_set0, map_snoc] at t1
    have e : evSs (prog.cx k (callF prog k)) b_law_stream_1 [some sc, some (.loc h.length), o2, o3, some (.int i), some (.int s)] (h ++ [.box (.lst (is.map .int))]) = .nx [some sc, some (.loc h.length), o2, o3, some (.int i), some (.int s')] (h ++ [.box (.lst ((is ++ [(s' * 69621 + i) % 2147483629 % 1009]).map .int))]) := by
      rw [b_law_stream_1, seq_nx t0, seq_nx t1, evSs]
    rw [e]
    exact ⟨_, _, _, _, _, rfl, rfl, by simp; omega, ⟨b1, b2⟩, fun y hy => hx y (List.mem_cons_of_mem _ hy)⟩
theorem rngL_len (c : Int) : ∀ (n : Nat) (lo : Int), (rngL lo c n).length = n
  | 0, _ => rfl
  | n + 1, lo => by rw [rngL, List.length_cons, rngL_len c n]
theorem rngL_int (c : Int) : ∀ (n : Nat) (lo : Int), ∀ x ∈ rngL lo c n, ∃ i : Int, x = .int i
  | 0, _, x, h => by cases h
  | n + 1, lo, x, h => by
    rw [rngL] at h
    rcases List.mem_cons.mp h with z | z
    · exact ⟨lo, z⟩
    · exact rngL_int c n _ x z
theorem rng1 {n : Nat} (h : n ≤ 1000000) : rngD [.int (n : Int)] = some (rngL 0 1 n) := by
  have sm : small62 (n : Int) = true := by unfold small62; simp; omega
  show (if small62 (n : Int) then some (rngL 0 1 ((n : Int)).toNat) else none) = _
  rw [sm, if_pos rfl]
  rfl
theorem stream_2 (k : Nat) (h : Mem) (is : List Int) (sc : D) (i : Int) (o3 o4 o5 : Option D) (hB : is.length ≤ 9000) : ∃ (is' : List Int) (p2 p3 p4 p5 : Option D), evSs (prog.cx k (callF prog k)) b_law_stream_2 [some sc, some (.loc h.length), some (.int i), o3, o4, o5] (h ++ [.box (.lst (is.map .int))]) = .nx [some sc, some (.loc h.length), p2, p3, p4, p5] (h ++ [.box (.lst (is'.map .int))]) ∧ is'.length ≤ is.length + 60 := by
  have f0 : evS (prog.cx k (callF prog k)) (.asg (.nm 3) (.bi .abs (.cons (.bi .int_ (.cons (.v 2) .nil)) .nil))) [some sc, some (.loc h.length), some (.int i), o3, o4, o5] (h ++ [.box (.lst (is.map .int))]) = .nx [some sc, some (.loc h.length), some (.int i), some (.int (if i < 0 then -i else i)), o4, o5] (h ++ [.box (.lst (is.map .int))]) := by
    simp only [evSs, evS, evE, evL, evT, evTA, evTO, evF, evSrc, evO, evAnd, evOr, asgT, asgTs, cx_glob, cx_call, shal_int, shal_str, shal_tup, shal_lst, shal_non, shal_bl, bin_addi, bin_subi, bin_addt, bin_addl, bin_adds, bin_mod, bin_div, cmp_lt, cmp_le, cmp_gt, cmp_ge, cmp_eqi, cmp_nei, cmp_eqs, cmp_nes, cmp_ins, cmp_nins, cmp_isn, cmp_isns, item_tup, item_lst, bi_lens, bi_lent, bi_lenl, bi_int, bi_intb, bi_abs, bi_max2, bi_tuplel, bi_tuplet, itD, slice, seqD, pure_non, pure_bl, pure_int, pure_str, pure_tup, pure_lst, pures_nil, pures_cons, startF, List.replicate, List.length_cons, List.length_nil, List.set_cons_zero, List.set_cons_succ, List.getElem?_cons_zero, List.getElem?_cons_succ, List.getElem?_nil, Nat.zero_add, Nat.reduceAdd, Nat.reduceSub, Nat.reduceLT, Nat.reduceLeDiff, if_true, Bool.not_true, Bool.not_false, List.map_cons, List.map_nil, List.cons_append, List.nil_append, reduceIte, and_self, and_true, true_and, decide_true, decide_false, Bool.true_and, Bool.and_true, Bool.false_and, Bool.and_false, fin_non, fin_bl, fin_int, fin_str, finX_same', gt_iff_lt, Nat.lt_add_one, Bool.false_eq_true]
  generalize (if i < 0 then -i else i) = r at f0
  have pw : binop .pow (.int 10) (.int 18) = some (.int 1000000000000000000) := rfl
  have tt : evT (prog.cx k (callF prog k)) (.e (.cmp .ge (.v 3) (.bin .pow (.c (.int 10)) (.c (.int 18))))) [some sc, some (.loc h.length), some (.int i), some (.int r), o4, o5] (h ++ [.box (.lst (is.map .int))]) = .ok (decide (1000000000000000000 ≤ r)) (h ++ [.box (.lst (is.map .int))]) := by
    simp only [pw, evSs, evS, evE, evL, evT, evTA, evTO, evF, evSrc, evO, evAnd, evOr, asgT, asgTs, cx_glob, cx_call, shal_int, shal_str, shal_tup, shal_lst, shal_non, shal_bl, bin_addi, bin_subi, bin_addt, bin_addl, bin_adds, bin_mod, bin_div, cmp_lt, cmp_le, cmp_gt, cmp_ge, cmp_eqi, cmp_nei, cmp_eqs, cmp_nes, cmp_ins, cmp_nins, cmp_isn, cmp_isns, item_tup, item_lst, bi_lens, bi_lent, bi_lenl, bi_int, bi_intb, bi_abs, bi_max2, bi_tuplel, bi_tuplet, itD, slice, seqD, pure_non, pure_bl, pure_int, pure_str, pure_tup, pure_lst, pures_nil, pures_cons, startF, List.replicate, List.length_cons, List.length_nil, List.set_cons_zero, List.set_cons_succ, List.getElem?_cons_zero, List.getElem?_cons_succ, List.getElem?_nil, Nat.zero_add, Nat.reduceAdd, Nat.reduceSub, Nat.reduceLT, Nat.reduceLeDiff, if_true, Bool.not_true, Bool.not_false, List.map_cons, List.map_nil, List.cons_append, List.nil_append, reduceIte, and_self, and_true, true_and, decide_true, decide_false, Bool.true_and, Bool.and_true, Bool.false_and, Bool.and_false, fin_non, fin_bl, fin_int, fin_str, finX_same', gt_iff_lt, Nat.lt_add_one, Bool.false_eq_true]
  by_cases z : 1000000000000000000 ≤ r
  · rw [decide_eq_true z] at tt
    obtain ⟨is', p2, p3, p4, p5, e, l⟩ := stream_0 k h (is.length + 60) sc (by omega) (rngL 0 1 60) [some sc, some (.loc h.length), some (.int i), some (.int r), o4, o5] (h ++ [.box (.lst (is.map .int))]) ⟨is, r, _, _, _, rfl, rfl, by rw [rngL_len]; exact Nat.le_refl _⟩
    have ea : evL (prog.cx k (callF prog k)) (.cons (.c (.int 60)) .nil) [some sc, some (.loc h.length), some (.int i), some (.int r), o4, o5] (h ++ [.box (.lst (is.map .int))]) = .ok [.int ((60 : Nat) : Int)] (h ++ [.box (.lst (is.map .int))]) := ev_cons (ev_c rfl) ev_nil
    refine ⟨is', p2, p3, p4, p5, ?_, by omega⟩
    rw [b_law_stream_2]
    refine sq_nx f0 (sq_nx ?_ sq_nil)
    rw [evS_ite tt, if_pos rfl]
    refine sq_nx ?_ sq_nil
    rw [evS_for (evSrc_rng ea (rng1 (by decide)))]
    exact e
  · rw [decide_eq_false z] at tt
    have p1 : (0 : Int) < 2147483647 := by decide
    have f1 : evS (prog.cx k (callF prog k)) (.asg (.nm 5) (.bin .mod (.bi .int_ (.cons (.v 3) .nil)) (.c (.int 2147483647)))) [some sc, some (.loc h.length), some (.int i), some (.int r), o4, o5] (h ++ [.box (.lst (is.map .int))]) = .nx [some sc, some (.loc h.length), some (.int i), some (.int r), o4, some (.int (r % 2147483647))] (h ++ [.box (.lst (is.map .int))]) := by
      simp only [p1, evSs, evS, evE, evL, evT, evTA, evTO, evF, evSrc, evO, evAnd, evOr, asgT, asgTs, cx_glob, cx_call, shal_int, shal_str, shal_tup, shal_lst, shal_non, shal_bl, bin_addi, bin_subi, bin_addt, bin_addl, bin_adds, bin_mod, bin_div, cmp_lt, cmp_le, cmp_gt, cmp_ge, cmp_eqi, cmp_nei, cmp_eqs, cmp_nes, cmp_ins, cmp_nins, cmp_isn, cmp_isns, item_tup, item_lst, bi_lens, bi_lent, bi_lenl, bi_int, bi_intb, bi_abs, bi_max2, bi_tuplel, bi_tuplet, itD, slice, seqD, pure_non, pure_bl, pure_int, pure_str, pure_tup, pure_lst, pures_nil, pures_cons, startF, List.replicate, List.length_cons, List.length_nil, List.set_cons_zero, List.set_cons_succ, List.getElem?_cons_zero, List.getElem?_cons_succ, List.getElem?_nil, Nat.zero_add, Nat.reduceAdd, Nat.reduceSub, Nat.reduceLT, Nat.reduceLeDiff, if_true, Bool.not_true, Bool.not_false, List.map_cons, List.map_nil, List.cons_append, List.nil_append, reduceIte, and_self, and_true, true_and, decide_true, decide_false, Bool.true_and, Bool.and_true, Bool.false_and, Bool.and_false, fin_non, fin_bl, fin_int, fin_str, finX_same', gt_iff_lt, Nat.lt_add_one, Bool.false_eq_true]
    have b1 := Int.emod_nonneg r (show (2147483647 : Int) ≠ 0 by decide)
    have b2 := Int.emod_lt_of_pos r p1
    generalize r % 2147483647 = s at f1 b1 b2
    obtain ⟨is', p2, p3, p4, p5, e, l⟩ := stream_1 k h (is.length + 60) sc (by omega) (rngL 0 1 10) [some sc, some (.loc h.length), some (.int i), some (.int r), o4, some (.int s)] (h ++ [.box (.lst (is.map .int))]) ⟨is, s, _, _, _, rfl, rfl, by rw [rngL_len]; omega, ⟨b1, b2⟩, rngL_int 1 10 0⟩
    have ea : evL (prog.cx k (callF prog k)) (.cons (.c (.int 10)) .nil) [some sc, some (.loc h.length), some (.int i), some (.int r), o4, some (.int s)] (h ++ [.box (.lst (is.map .int))]) = .ok [.int ((10 : Nat) : Int)] (h ++ [.box (.lst (is.map .int))]) := ev_cons (ev_c rfl) ev_nil
    refine ⟨is', p2, p3, p4, p5, ?_, by omega⟩
    rw [b_law_stream_2]
    refine sq_nx f0 (sq_nx ?_ sq_nil)
    rw [evS_ite tt, if_neg (by decide)]
    refine sq_nx f1 (sq_nx ?_ sq_nil)
    rw [evS_for (evSrc_rng ea (rng1 (by decide)))]
    exact e
theorem stream_loop (k : Nat) (h : Mem) (sc : D) : ∀ (xs : List Int) (is : List Int) (o2 o3 o4 o5 : Option D), is.length + 60 * xs.length ≤ 9000 → ∃ (is' : List Int) (p2 p3 p4 p5 : Option D), forL (evSs (prog.cx k (callF prog k)) b_law_stream_2) (.nm 2) (xs.map .int) [some sc, some (.loc h.length), o2, o3, o4, o5] (h ++ [.box (.lst (is.map .int))]) = .nx [some sc, some (.loc h.length), p2, p3, p4, p5] (h ++ [.box (.lst (is'.map .int))]) ∧ is'.length ≤ is.length + 60 * xs.length := by
  intro xs
  induction xs with
  | nil => intro is o2 o3 o4 o5 _; exact ⟨is, _, _, _, _, rfl, by omega⟩
  | cons x xs ih =>
    intro is o2 o3 o4 o5 hl
    rw [List.length_cons] at hl
    obtain ⟨is1, q2, q3, q4, q5, e1, l1⟩ := stream_2 k h is sc x o3 o4 o5 (by omega)
    obtain ⟨is2, r2, r3, r4, r5, e2, l2⟩ := ih is1 q2 q3 q4 q5 (by omega)
    refine ⟨is2, r2, r3, r4, r5, ?_, by rw [List.length_cons]; omega⟩
    rw [List.map_cons, forL_nx rfl e1, e2]
theorem law_stream_ok (k : Nat) (h : Mem) (ns : List Int) (hn : ns.length ≤ 63) : ∃ is : List Int, is ≠ [] ∧ is.length ≤ 100000 ∧ callF prog (k + 1) i_law_stream [.scr (ns.map .int)] h = .ok (.lst (is.map .int)) h := by
  rw [callF_out d_law_stream rfl ⟨rfl, by decide⟩]
  have l0 : 0 ≤ LIM := by decide
  have ct : cut (ns.map D.int) none (some 63) = ns.map D.int := by
    have sx : sIx (ns.map D.int).length (ns.map D.int).length (some 63) = ns.length := by
      show (if (0 : Int) ≤ 63 then min (63 : Int).toNat (ns.map D.int).length else ((63 : Int) + (ns.map D.int).length).toNat) = _
      rw [if_pos (by decide), List.length_map]
      show min 63 ns.length = _
      omega
    show ((ns.map D.int).drop 0).take (sIx (ns.map D.int).length (ns.map D.int).length (some 63) - 0) = _
    rw [sx, List.drop_zero, Nat.sub_zero, List.take_of_length_le (by rw [List.length_map]; exact Nat.le_refl _)]
  have t0 : evS (prog.cx k (callF prog k)) (.asg (.nm 1) (.nw (.lst .nil))) [some (.scr (ns.map .int)), none, none, none, none, none] h = .nx [some (.scr (ns.map .int)), some (.loc h.length), none, none, none, none] (h ++ [.box (.lst [])]) := by
    simp only [l0, evSs, evS, evE, evL, evT, evTA, evTO, evF, evSrc, evO, evAnd, evOr, asgT, asgTs, cx_glob, cx_call, shal_int, shal_str, shal_tup, shal_lst, shal_non, shal_bl, bin_addi, bin_subi, bin_addt, bin_addl, bin_adds, bin_mod, bin_div, cmp_lt, cmp_le, cmp_gt, cmp_ge, cmp_eqi, cmp_nei, cmp_eqs, cmp_nes, cmp_ins, cmp_nins, cmp_isn, cmp_isns, item_tup, item_lst, bi_lens, bi_lent, bi_lenl, bi_int, bi_intb, bi_abs, bi_max2, bi_tuplel, bi_tuplet, itD, slice, seqD, pure_non, pure_bl, pure_int, pure_str, pure_tup, pure_lst, pures_nil, pures_cons, startF, List.replicate, List.length_cons, List.length_nil, List.set_cons_zero, List.set_cons_succ, List.getElem?_cons_zero, List.getElem?_cons_succ, List.getElem?_nil, Nat.zero_add, Nat.reduceAdd, Nat.reduceSub, Nat.reduceLT, Nat.reduceLeDiff, if_true, Bool.not_true, Bool.not_false, List.map_cons, List.map_nil, List.cons_append, List.nil_append, reduceIte, and_self, and_true, true_and, decide_true, decide_false, Bool.true_and, Bool.and_true, Bool.false_and, Bool.and_false, fin_non, fin_bl, fin_int, fin_str, finX_same', gt_iff_lt, Nat.lt_add_one, Bool.false_eq_true]
  have es : evSrc (prog.cx k (callF prog k)) (.it (.sl (.v 0) .no (.so (.c (.int 63))))) [some (.scr (ns.map .int)), some (.loc h.length), none, none, none, none] (h ++ [.box (.lst [])]) = .ok (ns.map .int) (h ++ [.box (.lst [])]) := by
    have sh : shal (h ++ [.box (.lst [])]) (.scr (ns.map .int)) = .scr (ns.map .int) := rfl
    simp only [sh, ct, evSs, evS, evE, evL, evT, evTA, evTO, evF, evSrc, evO, evAnd, evOr, asgT, asgTs, cx_glob, cx_call, shal_int, shal_str, shal_tup, shal_lst, shal_non, shal_bl, bin_addi, bin_subi, bin_addt, bin_addl, bin_adds, bin_mod, bin_div, cmp_lt, cmp_le, cmp_gt, cmp_ge, cmp_eqi, cmp_nei, cmp_eqs, cmp_nes, cmp_ins, cmp_nins, cmp_isn, cmp_isns, item_tup, item_lst, bi_lens, bi_lent, bi_lenl, bi_int, bi_intb, bi_abs, bi_max2, bi_tuplel, bi_tuplet, itD, slice, seqD, pure_non, pure_bl, pure_int, pure_str, pure_tup, pure_lst, pures_nil, pures_cons, startF, List.replicate, List.length_cons, List.length_nil, List.set_cons_zero, List.set_cons_succ, List.getElem?_cons_zero, List.getElem?_cons_succ, List.getElem?_nil, Nat.zero_add, Nat.reduceAdd, Nat.reduceSub, Nat.reduceLT, Nat.reduceLeDiff, if_true, Bool.not_true, Bool.not_false, List.map_cons, List.map_nil, List.cons_append, List.nil_append, reduceIte, and_self, and_true, true_and, decide_true, decide_false, Bool.true_and, Bool.and_true, Bool.false_and, Bool.and_false, fin_non, fin_bl, fin_int, fin_str, finX_same', gt_iff_lt, Nat.lt_add_one, Bool.false_eq_true]
  obtain ⟨is, p2, p3, p4, p5, e, l⟩ := stream_loop k h (.scr (ns.map .int)) ns [] none none none none (by simp; omega)
  have t1 : evS (prog.cx k (callF prog k)) (.for_ (.nm 2) (.it (.sl (.v 0) .no (.so (.c (.int 63))))) b_law_stream_2) [some (.scr (ns.map .int)), some (.loc h.length), none, none, none, none] (h ++ [.box (.lst [])]) = .nx [some (.scr (ns.map .int)), some (.loc h.length), p2, p3, p4, p5] (h ++ [.box (.lst (is.map .int))]) := by
    rw [evS_for es]
    exact e
  rw [List.length_nil, Nat.zero_add] at l
  refine ⟨if is = [] then [0] else is, by split <;> simp_all, by
    split
    · decide
    · omega, ?_⟩
  rw [d_law_stream]
  refine st_nx t0 (st_nx t1 ?_)
  have bl : biF .len [.loc h.length] (h ++ [.box (.lst (is.map .int))]) = some (.int ((is.map D.int).length : Int)) := bi_lenb m1_get0
  by_cases z : is = []
  · subst z
    rw [if_pos rfl]
    have bl : biF .len [.loc h.length] (h ++ [.box (.lst [])]) = some (.int 0) := bi_lenb m1_get0
    have tt : evT (prog.cx k (callF prog k)) (.e (.cmp .eq (.bi .len (.cons (.v 1) .nil)) (.c (.int 0)))) [some (.scr (ns.map .int)), some (.loc h.length), p2, p3, p4, p5] (h ++ [.box (.lst [])]) = .ok true (h ++ [.box (.lst [])]) := by
      simp only [bl, evSs, evS, evE, evL, evT, evTA, evTO, evF, evSrc, evO, evAnd, evOr, asgT, asgTs, cx_glob, cx_call, shal_int, shal_str, shal_tup, shal_lst, shal_non, shal_bl, bin_addi, bin_subi, bin_addt, bin_addl, bin_adds, bin_mod, bin_div, cmp_lt, cmp_le, cmp_gt, cmp_ge, cmp_eqi, cmp_nei, cmp_eqs, cmp_nes, cmp_ins, cmp_nins, cmp_isn, cmp_isns, item_tup, item_lst, bi_lens, bi_lent, bi_lenl, bi_int, bi_intb, bi_abs, bi_max2, bi_tuplel, bi_tuplet, itD, slice, seqD, pure_non, pure_bl, pure_int, pure_str, pure_tup, pure_lst, pures_nil, pures_cons, startF, List.replicate, List.length_cons, List.length_nil, List.set_cons_zero, List.set_cons_succ, List.getElem?_cons_zero, List.getElem?_cons_succ, List.getElem?_nil, Nat.zero_add, Nat.reduceAdd, Nat.reduceSub, Nat.reduceLT, Nat.reduceLeDiff, if_true, Bool.not_true, Bool.not_false, List.map_cons, List.map_nil, List.cons_append, List.nil_append, reduceIte, and_self, and_true, true_and, decide_true, decide_false, Bool.true_and, Bool.and_true, Bool.false_and, Bool.and_false, fin_non, fin_bl, fin_int, fin_str, finX_same', gt_iff_lt, Nat.lt_add_one, Bool.false_eq_true]
    refine st_nx (σ1 := [some (.scr (ns.map .int)), some (.loc h.length), p2, p3, p4, p5]) (h1 := h ++ [.box (.lst [.int 0])]) ?_ ?_
    · refine (evS_ite tt).trans ?_
      rw [if_pos rfl]
      refine sq_nx (evS_expr (ev_mt (ev_v rfl) m1_get0 (ev_cons (ev_c rfl) ev_nil) (mt_append m1_get0 (by decide)))) ?_
      rw [m1_set0, sq_nil]
      rfl
    · refine st_rt (d := .lst [.int 0]) (h1 := h ++ [.gone]) ?_ ?_
      · simp only [m1_get0, m1_set0, evSs, evS, evE, evL, evT, evTA, evTO, evF, evSrc, evO, evAnd, evOr, asgT, asgTs, cx_glob, cx_call, shal_int, shal_str, shal_tup, shal_lst, shal_non, shal_bl, bin_addi, bin_subi, bin_addt, bin_addl, bin_adds, bin_mod, bin_div, cmp_lt, cmp_le, cmp_gt, cmp_ge, cmp_eqi, cmp_nei, cmp_eqs, cmp_nes, cmp_ins, cmp_nins, cmp_isn, cmp_isns, item_tup, item_lst, bi_lens, bi_lent, bi_lenl, bi_int, bi_intb, bi_abs, bi_max2, bi_tuplel, bi_tuplet, itD, slice, seqD, pure_non, pure_bl, pure_int, pure_str, pure_tup, pure_lst, pures_nil, pures_cons, startF, List.replicate, List.length_cons, List.length_nil, List.set_cons_zero, List.set_cons_succ, List.getElem?_cons_zero, List.getElem?_cons_succ, List.getElem?_nil, Nat.zero_add, Nat.reduceAdd, Nat.reduceSub, Nat.reduceLT, Nat.reduceLeDiff, if_true, Bool.not_true, Bool.not_false, List.map_cons, List.map_nil, List.cons_append, List.nil_append, reduceIte, and_self, and_true, true_and, decide_true, decide_false, Bool.true_and, Bool.and_true, Bool.false_and, Bool.and_false, fin_non, fin_bl, fin_int, fin_str, finX_same', gt_iff_lt, Nat.lt_add_one, Bool.false_eq_true]
      · exact fin_app rfl rfl
  · rw [if_neg z]
    have tt : evT (prog.cx k (callF prog k)) (.e (.cmp .eq (.bi .len (.cons (.v 1) .nil)) (.c (.int 0)))) [some (.scr (ns.map .int)), some (.loc h.length), p2, p3, p4, p5] (h ++ [.box (.lst (is.map .int))]) = .ok false (h ++ [.box (.lst (is.map .int))]) := by
      have := List.length_pos_iff.mpr z
      have d : decide (((is.map D.int).length : Int) = 0) = false := decide_eq_false (by rw [List.length_map]; omega)
      simp only [bl, d, evSs, evS, evE, evL, evT, evTA, evTO, evF, evSrc, evO, evAnd, evOr, asgT, asgTs, cx_glob, cx_call, shal_int, shal_str, shal_tup, shal_lst, shal_non, shal_bl, bin_addi, bin_subi, bin_addt, bin_addl, bin_adds, bin_mod, bin_div, cmp_lt, cmp_le, cmp_gt, cmp_ge, cmp_eqi, cmp_nei, cmp_eqs, cmp_nes, cmp_ins, cmp_nins, cmp_isn, cmp_isns, item_tup, item_lst, bi_lens, bi_lent, bi_lenl, bi_int, bi_intb, bi_abs, bi_max2, bi_tuplel, bi_tuplet, itD, slice, seqD, pure_non, pure_bl, pure_int, pure_str, pure_tup, pure_lst, pures_nil, pures_cons, startF, List.replicate, List.length_cons, List.length_nil, List.set_cons_zero, List.set_cons_succ, List.getElem?_cons_zero, List.getElem?_cons_succ, List.getElem?_nil, Nat.zero_add, Nat.reduceAdd, Nat.reduceSub, Nat.reduceLT, Nat.reduceLeDiff, if_true, Bool.not_true, Bool.not_false, List.map_cons, List.map_nil, List.cons_append, List.nil_append, reduceIte, and_self, and_true, true_and, decide_true, decide_false, Bool.true_and, Bool.and_true, Bool.false_and, Bool.and_false, fin_non, fin_bl, fin_int, fin_str, finX_same', gt_iff_lt, Nat.lt_add_one, Bool.false_eq_true]
    refine st_nx (σ1 := [some (.scr (ns.map .int)), some (.loc h.length), p2, p3, p4, p5]) (h1 := h ++ [.box (.lst (is.map .int))]) ?_ ?_
    · refine (evS_ite tt).trans ?_
      rw [if_neg (by decide), sq_nil]
    · refine st_rt (d := .lst (is.map .int)) (h1 := h ++ [.gone]) ?_ ?_
      · simp only [m1_get0, m1_set0, evSs, evS, evE, evL, evT, evTA, evTO, evF, evSrc, evO, evAnd, evOr, asgT, asgTs, cx_glob, cx_call, shal_int, shal_str, shal_tup, shal_lst, shal_non, shal_bl, bin_addi, bin_subi, bin_addt, bin_addl, bin_adds, bin_mod, bin_div, cmp_lt, cmp_le, cmp_gt, cmp_ge, cmp_eqi, cmp_nei, cmp_eqs, cmp_nes, cmp_ins, cmp_nins, cmp_isn, cmp_isns, item_tup, item_lst, bi_lens, bi_lent, bi_lenl, bi_int, bi_intb, bi_abs, bi_max2, bi_tuplel, bi_tuplet, itD, slice, seqD, pure_non, pure_bl, pure_int, pure_str, pure_tup, pure_lst, pures_nil, pures_cons, startF, List.replicate, List.length_cons, List.length_nil, List.set_cons_zero, List.set_cons_succ, List.getElem?_cons_zero, List.getElem?_cons_succ, List.getElem?_nil, Nat.zero_add, Nat.reduceAdd, Nat.reduceSub, Nat.reduceLT, Nat.reduceLeDiff, if_true, Bool.not_true, Bool.not_false, List.map_cons, List.map_nil, List.cons_append, List.nil_append, reduceIte, and_self, and_true, true_and, decide_true, decide_false, Bool.true_and, Bool.and_true, Bool.false_and, Bool.and_false, fin_non, fin_bl, fin_int, fin_str, finX_same', gt_iff_lt, Nat.lt_add_one, Bool.false_eq_true]
      · exact fin_app (D.pure_ok _ _ (ints_pure is)) rfl
end K21
end
section
set_option Elab.async false
set_option autoImplicit false
set_option maxRecDepth 100000
set_option linter.all false
/-! N10: the law's list of nodes, and putting in. -/
namespace K21
open Ev
mutual
theorem nds_len : ∀ (d : Doc) (p : List D), (nds p d).length = sz d
  | .mk l ks, p => by rw [nds, List.length_cons, ndss_len ks p 0, sz]; omega
theorem ndss_len : ∀ (ds : List Doc) (p : List D) (i : Nat), (ndss p i ds).length = szs ds
  | [], _, _ => rfl
  | d :: ds, p, i => by rw [ndss, List.length_append, nds_len d, ndss_len ds, szs]
end
def LnOk (k : Nat) : Prop := ∀ (d : Doc) (p : List D) (h : Mem), dp d < k → p.length + dp d ≤ 900 → sz d ≤ 900 → D.pures p = true → callF prog k i_law_nodes [enc d, .tup p] h = .ok (.lst (nds p d)) h
theorem lnodes_loop (k : Nat) (ihk : LnOk k) (l : List Nat) (kd : List Doc) (p : List D) (hp : D.pures p = true) (hk : dps kd ≤ k) (hpl : p.length + dps kd ≤ 900) (hz : szs kd ≤ 900) (h : Mem) :
    ∀ (suf pre : List Doc) (acc : List D) (o : Option D) (i : Nat), kd = pre ++ suf → pre.length = i → acc.length + szs suf ≤ 2000 →
    ∃ o', forL (evSs (prog.cx k (callF prog k)) b_law_nodes_0) (.nm 3) (rngL (i : Int) 1 suf.length) [some (enc (.mk l kd)), some (.tup p), some (.loc h.length), o] (h ++ [.box (.lst acc)]) =
      .nx [some (enc (.mk l kd)), some (.tup p), some (.loc h.length), o'] (h ++ [.box (.lst (acc ++ ndss p i suf))]) := by
  intro suf
  induction suf with
  | nil => intro pre acc o i _ _ _; exact ⟨o, by simp [rngL, forL, ndss]⟩
  | cons d suf ih =>
    intro pre acc o i e hi ha
    have dm : d ∈ kd := by rw [e]; simp
    have d1 := dp_mem dm
    have d2 := sz_mem dm
    rw [szs] at ha
    have call := ihk d (p ++ [D.int (i : Int)]) (h ++ [.box (.lst acc)]) (by omega) (by rw [List.length_append]; simp; omega) (by omega) (by rw [pures_app, hp]; rfl)
    have la : acc.length + (nds (p ++ [D.int (i : Int)]) d).length ≤ LIM := lim_lt (by rw [nds_len]; omega)
    have lp : p.length + 1 ≤ LIM := lim_lt (by omega)
    have l1 : 1 ≤ LIM := by decide
    have c1 := at_child (l := l) (suf := suf) (d := d) hi
    have ga : evL (prog.cx k (callF prog k)) (.cons (.call 17 (.cons (.ix (.v 0) (.bin .add (.v 3) (.c (.int 1)))) (.cons (.bin .add (.v 1) (.tup (.cons (.v 3) .nil))) .nil))) .nil) [some (enc (.mk l kd)), some (.tup p), some (.loc h.length), some (.int (i : Int))] (h ++ [.box (.lst acc)]) = .ok [.lst (nds (p ++ [D.int (i : Int)]) d)] (h ++ [.box (.lst acc)]) := by
      rw [show enc (.mk l kd) = .tup (.str l :: encs kd) from by rw [enc], e]
      simp only [c1, lp, l1, call, evSs, evS, evE, evL, evT, evTA, evTO, evF, evSrc, evO, evAnd, evOr, asgT, asgTs, cx_glob, cx_call, shal_int, shal_str, shal_tup, shal_lst, shal_non, shal_bl, bin_addi, bin_subi, bin_addt, bin_addl, bin_adds, bin_mod, bin_div, cmp_lt, cmp_le, cmp_gt, cmp_ge, cmp_eqi, cmp_nei, cmp_eqs, cmp_nes, cmp_ins, cmp_nins, cmp_isn, cmp_isns, item_tup, item_lst, bi_lens, bi_lent, bi_lenl, bi_int, bi_intb, bi_abs, bi_max2, bi_tuplel, bi_tuplet, itD, slice, seqD, pure_non, pure_bl, pure_int, pure_str, pure_tup, pure_lst, pures_nil, pures_cons, startF, List.replicate, List.length_cons, List.length_nil, List.set_cons_zero, List.set_cons_succ, List.getElem?_cons_zero, List.getElem?_cons_succ, List.getElem?_nil, Nat.zero_add, Nat.reduceAdd, Nat.reduceSub, Nat.reduceLT, Nat.reduceLeDiff, if_true, Bool.not_true, Bool.not_false, List.map_cons, List.map_nil, List.cons_append, List.nil_append, reduceIte, and_self, and_true, true_and, decide_true, decide_false, Bool.true_and, Bool.and_true, Bool.false_and, Bool.and_false, fin_non, fin_bl, fin_int, fin_str, finX_same', gt_iff_lt, Nat.lt_add_one, Bool.false_eq_true]
    have hb : evSs (prog.cx k (callF prog k)) b_law_nodes_0 [some (enc (.mk l kd)), some (.tup p), some (.loc h.length), some (.int (i : Int))] (h ++ [.box (.lst acc)]) = .nx [some (enc (.mk l kd)), some (.tup p), some (.loc h.length), some (.int (i : Int))] (h ++ [.box (.lst (acc ++ nds (p ++ [D.int (i : Int)]) d))]) := by
      rw [b_law_nodes_0]
      refine sq_nx (evS_expr (ev_mt (ev_v rfl) m1_get0 ga (mt_extend m1_get0 la))) ?_
      rw [m1_set0, sq_nil]
    obtain ⟨o', er⟩ := ih (pre ++ [d]) (acc ++ nds (p ++ [D.int (i : Int)]) d) (some (.int (i : Int))) (i + 1) (by rw [e]; simp) (by rw [List.length_append, hi]; rfl) (by rw [List.length_append, nds_len]; omega)
    refine ⟨o', ?_⟩
    have ei : (i : Int) + 1 = ((i + 1 : Nat) : Int) := by omega
    rw [List.length_cons, rngL, forL_nx rfl hb, ei, er, ndss, List.append_assoc]
theorem law_nodes_ok (k : Nat) : LnOk k := by
  induction k with
  | zero => intro d p h l; omega
  | succ k ihk =>
    rintro ⟨l, ks⟩ p h hk hpl hz hp
    rw [callF_out d_law_nodes rfl ⟨rfl, by decide⟩]
    rw [dp] at hk hpl
    rw [sz] at hz
    have lk := len_szs ks
    have l1 : 1 ≤ LIM := by decide
    have l2 : 2 ≤ LIM := by decide
    have lc : (((encs ks).length + 1 : Nat) : Int) - 1 = (ks.length : Int) := by rw [encs_len]; omega
    obtain ⟨o', er⟩ := lnodes_loop k ihk l ks p hp (by omega) hpl (by omega) h ks [] [.tup [.tup p, enc (.mk l ks)]] none 0 rfl rfl (by simp; omega)
    have ea : evL (prog.cx k (callF prog k)) (.cons (.bin .sub (.bi .len (.cons (.v 0) .nil)) (.c (.int 1))) .nil) [some (enc (.mk l ks)), some (.tup p), some (.loc h.length), none] (h ++ [.box (.lst [.tup [.tup p, enc (.mk l ks)]])]) = .ok [.int (ks.length : Int)] (h ++ [.box (.lst [.tup [.tup p, enc (.mk l ks)]])]) := by
      rw [show enc (.mk l ks) = .tup (.str l :: encs ks) from by rw [enc]]
      simp only [lc, evSs, evS, evE, evL, evT, evTA, evTO, evF, evSrc, evO, evAnd, evOr, asgT, asgTs, cx_glob, cx_call, shal_int, shal_str, shal_tup, shal_lst, shal_non, shal_bl, bin_addi, bin_subi, bin_addt, bin_addl, bin_adds, bin_mod, bin_div, cmp_lt, cmp_le, cmp_gt, cmp_ge, cmp_eqi, cmp_nei, cmp_eqs, cmp_nes, cmp_ins, cmp_nins, cmp_isn, cmp_isns, item_tup, item_lst, bi_lens, bi_lent, bi_lenl, bi_int, bi_intb, bi_abs, bi_max2, bi_tuplel, bi_tuplet, itD, slice, seqD, pure_non, pure_bl, pure_int, pure_str, pure_tup, pure_lst, pures_nil, pures_cons, startF, List.replicate, List.length_cons, List.length_nil, List.set_cons_zero, List.set_cons_succ, List.getElem?_cons_zero, List.getElem?_cons_succ, List.getElem?_nil, Nat.zero_add, Nat.reduceAdd, Nat.reduceSub, Nat.reduceLT, Nat.reduceLeDiff, if_true, Bool.not_true, Bool.not_false, List.map_cons, List.map_nil, List.cons_append, List.nil_append, reduceIte, and_self, and_true, true_and, decide_true, decide_false, Bool.true_and, Bool.and_true, Bool.false_and, Bool.and_false, fin_non, fin_bl, fin_int, fin_str, finX_same', gt_iff_lt, Nat.lt_add_one, Bool.false_eq_true]
    have t0 : evS (prog.cx k (callF prog k)) (.asg (.nm 2) (.nw (.lst (.cons (.tup (.cons (.v 1) (.cons (.v 0) .nil))) .nil)))) [some (enc (.mk l ks)), some (.tup p), none, none] h = .nx [some (enc (.mk l ks)), some (.tup p), some (.loc h.length), none] (h ++ [.box (.lst [.tup [.tup p, enc (.mk l ks)]])]) := by
      simp only [l1, l2, evSs, evS, evE, evL, evT, evTA, evTO, evF, evSrc, evO, evAnd, evOr, asgT, asgTs, cx_glob, cx_call, shal_int, shal_str, shal_tup, shal_lst, shal_non, shal_bl, bin_addi, bin_subi, bin_addt, bin_addl, bin_adds, bin_mod, bin_div, cmp_lt, cmp_le, cmp_gt, cmp_ge, cmp_eqi, cmp_nei, cmp_eqs, cmp_nes, cmp_ins, cmp_nins, cmp_isn, cmp_isns, item_tup, item_lst, bi_lens, bi_lent, bi_lenl, bi_int, bi_intb, bi_abs, bi_max2, bi_tuplel, bi_tuplet, itD, slice, seqD, pure_non, pure_bl, pure_int, pure_str, pure_tup, pure_lst, pures_nil, pures_cons, startF, List.replicate, List.length_cons, List.length_nil, List.set_cons_zero, List.set_cons_succ, List.getElem?_cons_zero, List.getElem?_cons_succ, List.getElem?_nil, Nat.zero_add, Nat.reduceAdd, Nat.reduceSub, Nat.reduceLT, Nat.reduceLeDiff, if_true, Bool.not_true, Bool.not_false, List.map_cons, List.map_nil, List.cons_append, List.nil_append, reduceIte, and_self, and_true, true_and, decide_true, decide_false, Bool.true_and, Bool.and_true, Bool.false_and, Bool.and_false, fin_non, fin_bl, fin_int, fin_str, finX_same', gt_iff_lt, Nat.lt_add_one, Bool.false_eq_true]
    have pu := nds_pure p hp (.mk l ks)
    rw [d_law_nodes]
    refine st_nx t0 (st_nx ((evS_for (evSrc_rng ea (rng_len (by omega)))).trans er) (st_rt (d := .lst (nds p (.mk l ks))) (h1 := h ++ [.gone]) ?_ ?_))
    · rw [nds]
      simp only [m1_get0, m1_set0, evSs, evS, evE, evL, evT, evTA, evTO, evF, evSrc, evO, evAnd, evOr, asgT, asgTs, cx_glob, cx_call, shal_int, shal_str, shal_tup, shal_lst, shal_non, shal_bl, bin_addi, bin_subi, bin_addt, bin_addl, bin_adds, bin_mod, bin_div, cmp_lt, cmp_le, cmp_gt, cmp_ge, cmp_eqi, cmp_nei, cmp_eqs, cmp_nes, cmp_ins, cmp_nins, cmp_isn, cmp_isns, item_tup, item_lst, bi_lens, bi_lent, bi_lenl, bi_int, bi_intb, bi_abs, bi_max2, bi_tuplel, bi_tuplet, itD, slice, seqD, pure_non, pure_bl, pure_int, pure_str, pure_tup, pure_lst, pures_nil, pures_cons, startF, List.replicate, List.length_cons, List.length_nil, List.set_cons_zero, List.set_cons_succ, List.getElem?_cons_zero, List.getElem?_cons_succ, List.getElem?_nil, Nat.zero_add, Nat.reduceAdd, Nat.reduceSub, Nat.reduceLT, Nat.reduceLeDiff, if_true, Bool.not_true, Bool.not_false, List.map_cons, List.map_nil, List.cons_append, List.nil_append, reduceIte, and_self, and_true, true_and, decide_true, decide_false, Bool.true_and, Bool.and_true, Bool.false_and, Bool.and_false, fin_non, fin_bl, fin_int, fin_str, finX_same', gt_iff_lt, Nat.lt_add_one, Bool.false_eq_true]
    · exact fin_app (D.pure_ok _ _ pu) rfl
end K21
namespace K21
open Ev
/-- a path's data -/
def pD (p : List Nat) : List D := p.map fun i : Nat => D.int (i : Int)
mutual
/-- another document at a path -/
def put : Doc → List Nat → Doc → Doc
  | _, [], x => x
  | .mk l ks, i :: p, x => .mk l (puts ks i p x)
def puts : List Doc → Nat → List Nat → Doc → List Doc
  | [], _, _, _ => []
  | k :: ks, 0, p, x => put k p x :: ks
  | k :: ks, i + 1, p, x => k :: puts ks i p x
end
/-- what stands at a path -/
def sub : Doc → List Nat → Option Doc
  | d, [] => some d
  | .mk _ ks, i :: p => match ks[i]? with
    | some k => sub k p
    | none => none
theorem puts_eq : ∀ (ks : List Doc) (i : Nat) (p : List Nat) (x k : Doc), ks[i]? = some k → puts ks i p x = ks.take i ++ put k p x :: ks.drop (i + 1)
  | [], i, p, x, k, e => by simp at e
  | a :: ks, 0, p, x, k, e => by
    simp at e
    subst e
    simp [puts]
  | a :: ks, i + 1, p, x, k, e => by
    have := puts_eq ks i p x k (by simpa using e)
    rw [puts, this]
    simp
theorem encs_app : ∀ a b : List Doc, encs (a ++ b) = encs a ++ encs b
  | [], b => rfl
  | d :: a, b => by rw [List.cons_append, encs, encs_app a b, encs]; rfl
theorem encs_take : ∀ (ks : List Doc) (i : Nat), (encs ks).take i = encs (ks.take i)
  | [], i => by simp [encs]
  | k :: ks, 0 => by simp [encs]
  | k :: ks, i + 1 => by rw [encs, List.take_succ_cons, encs_take ks i, List.take_succ_cons, encs]
theorem encs_drop : ∀ (ks : List Doc) (i : Nat), (encs ks).drop i = encs (ks.drop i)
  | [], i => by simp [encs]
  | k :: ks, 0 => by simp [encs]
  | k :: ks, i + 1 => by rw [encs, List.drop_succ_cons, encs_drop ks i, List.drop_succ_cons]
theorem law_put_ok (k : Nat) : ∀ (d : Doc) (p : List Nat) (x : Doc) (h : Mem) (s : Doc), p.length < k → sz d ≤ 900 → sub d p = some s → callF prog k i_law_put [enc d, .tup (pD p), enc x] h = .ok (enc (put d p x)) h := by
  induction k with
  | zero => intro d p x h s l; omega
  | succ k ihk =>
    rintro ⟨l, ks⟩ p x h s hk hz hs
    rw [callF_out d_law_put rfl ⟨rfl, by decide⟩, d_law_put]
    cases p with
    | nil =>
      have t0 : evS (prog.cx k (callF prog k)) (.ite (.e (.cmp .eq (.bi .len (.cons (.v 1) .nil)) (.c (.int 0)))) (.cons (.ret (.v 2)) .nil) .nil) [some (enc (.mk l ks)), some (.tup (pD [])), some (enc x), none] h = .rt (enc x) h := by
        simp only [pD, evSs, evS, evE, evL, evT, evTA, evTO, evF, evSrc, evO, evAnd, evOr, asgT, asgTs, cx_glob, cx_call, shal_int, shal_str, shal_tup, shal_lst, shal_non, shal_bl, bin_addi, bin_subi, bin_addt, bin_addl, bin_adds, bin_mod, bin_div, cmp_lt, cmp_le, cmp_gt, cmp_ge, cmp_eqi, cmp_nei, cmp_eqs, cmp_nes, cmp_ins, cmp_nins, cmp_isn, cmp_isns, item_tup, item_lst, bi_lens, bi_lent, bi_lenl, bi_int, bi_intb, bi_abs, bi_max2, bi_tuplel, bi_tuplet, itD, slice, seqD, pure_non, pure_bl, pure_int, pure_str, pure_tup, pure_lst, pures_nil, pures_cons, startF, List.replicate, List.length_cons, List.length_nil, List.set_cons_zero, List.set_cons_succ, List.getElem?_cons_zero, List.getElem?_cons_succ, List.getElem?_nil, Nat.zero_add, Nat.reduceAdd, Nat.reduceSub, Nat.reduceLT, Nat.reduceLeDiff, if_true, Bool.not_true, Bool.not_false, List.map_cons, List.map_nil, List.cons_append, List.nil_append, reduceIte, and_self, and_true, true_and, decide_true, decide_false, Bool.true_and, Bool.and_true, Bool.false_and, Bool.and_false, fin_non, fin_bl, fin_int, fin_str, finX_same', gt_iff_lt, Nat.lt_add_one, Bool.false_eq_true]
        rfl
      refine st_rt t0 ?_
      rw [show put (.mk l ks) [] x = x from by rw [put]]
      exact fin_pure (enc_pure x)
    | cons i p =>
      rw [sub] at hs
      cases q : ks[i]? with
      | none => rw [q] at hs; cases hs
      | some c =>
        rw [q] at hs
        dsimp only at hs
        have il : i < ks.length := (List.getElem?_eq_some_iff.mp q).1
        rw [sz] at hz
        have lk := len_szs ks
        have cm := sz_mem (List.mem_of_getElem? q)
        have call := ihk c p x h s (by simp at hk; omega) (by omega) hs
        have eD : enc (.mk l ks) = .tup (.str l :: encs ks) := by rw [enc]
        have pE : pD (i :: p) = D.int (i : Int) :: pD p := rfl
        have dz : decide ((((pD p).length + 1 : Nat) : Int) = 0) = false := decide_eq_false (by omega)
        have a0 : atI (D.int (i : Int) :: pD p) 0 = some (.int (i : Int)) := atI_nat (i := 0)
        have a1 : atI (D.str l :: encs ks) ((i : Int) + 1) = some (enc c) := by
          have := atI_nat (xs := D.str l :: encs ks) (i := i + 1)
          rw [List.getElem?_cons_succ, encs_get, q] at this
          exact this
        have s1 : cut (D.int (i : Int) :: pD p) (some 1) none = pD p := cut_from (i := 1) (by simp)
        have s2 : cut (D.str l :: encs ks) none (some ((i : Int) + 1)) = .str l :: encs (ks.take i) := by
          have := cut_to (xs := D.str l :: encs ks) (i := i + 1) (by rw [List.length_cons, encs_len]; omega)
          rw [List.take_succ_cons, encs_take] at this
          exact this
        have s3 : cut (D.str l :: encs ks) (some ((i : Int) + 1 + 1)) none = encs (ks.drop (i + 1)) := by
          have := cut_from (xs := D.str l :: encs ks) (i := i + 2) (by rw [List.length_cons, encs_len]; omega)
          rw [List.drop_succ_cons, encs_drop] at this
          exact this
        have l1 : 1 ≤ LIM := by decide
        have n1 : (encs (ks.take i)).length + 1 + 1 ≤ LIM := lim_lt (by rw [encs_len, List.length_take]; omega)
        have n2 : (encs (ks.take i)).length + 1 + 1 + (encs (ks.drop (i + 1))).length ≤ LIM := lim_lt (by rw [encs_len, encs_len, List.length_take, List.length_drop]; omega)
        have n3 : (encs (ks.take i) ++ [enc (put c p x)]).length + 1 + (encs (ks.drop (i + 1))).length ≤ LIM := by rw [List.length_append]; exact n2
        have t0 : evS (prog.cx k (callF prog k)) (.ite (.e (.cmp .eq (.bi .len (.cons (.v 1) .nil)) (.c (.int 0)))) (.cons (.ret (.v 2)) .nil) .nil) [some (enc (.mk l ks)), some (.tup (pD (i :: p))), some (enc x), none] h = .nx [some (enc (.mk l ks)), some (.tup (pD (i :: p))), some (enc x), none] h := by
          simp only [pE, dz, evSs, evS, evE, evL, evT, evTA, evTO, evF, evSrc, evO, evAnd, evOr, asgT, asgTs, cx_glob, cx_call, shal_int, shal_str, shal_tup, shal_lst, shal_non, shal_bl, bin_addi, bin_subi, bin_addt, bin_addl, bin_adds, bin_mod, bin_div, cmp_lt, cmp_le, cmp_gt, cmp_ge, cmp_eqi, cmp_nei, cmp_eqs, cmp_nes, cmp_ins, cmp_nins, cmp_isn, cmp_isns, item_tup, item_lst, bi_lens, bi_lent, bi_lenl, bi_int, bi_intb, bi_abs, bi_max2, bi_tuplel, bi_tuplet, itD, slice, seqD, pure_non, pure_bl, pure_int, pure_str, pure_tup, pure_lst, pures_nil, pures_cons, startF, List.replicate, List.length_cons, List.length_nil, List.set_cons_zero, List.set_cons_succ, List.getElem?_cons_zero, List.getElem?_cons_succ, List.getElem?_nil, Nat.zero_add, Nat.reduceAdd, Nat.reduceSub, Nat.reduceLT, Nat.reduceLeDiff, if_true, Bool.not_true, Bool.not_false, List.map_cons, List.map_nil, List.cons_append, List.nil_append, reduceIte, and_self, and_true, true_and, decide_true, decide_false, Bool.true_and, Bool.and_true, Bool.false_and, Bool.and_false, fin_non, fin_bl, fin_int, fin_str, finX_same', gt_iff_lt, Nat.lt_add_one, Bool.false_eq_true]
        have t1 : evS (prog.cx k (callF prog k)) (.asg (.nm 3) (.bin .add (.ix (.v 1) (.c (.int 0))) (.c (.int 1)))) [some (enc (.mk l ks)), some (.tup (pD (i :: p))), some (enc x), none] h = .nx [some (enc (.mk l ks)), some (.tup (pD (i :: p))), some (enc x), some (.int ((i : Int) + 1))] h := by
          simp only [pE, a0, evSs, evS, evE, evL, evT, evTA, evTO, evF, evSrc, evO, evAnd, evOr, asgT, asgTs, cx_glob, cx_call, shal_int, shal_str, shal_tup, shal_lst, shal_non, shal_bl, bin_addi, bin_subi, bin_addt, bin_addl, bin_adds, bin_mod, bin_div, cmp_lt, cmp_le, cmp_gt, cmp_ge, cmp_eqi, cmp_nei, cmp_eqs, cmp_nes, cmp_ins, cmp_nins, cmp_isn, cmp_isns, item_tup, item_lst, bi_lens, bi_lent, bi_lenl, bi_int, bi_intb, bi_abs, bi_max2, bi_tuplel, bi_tuplet, itD, slice, seqD, pure_non, pure_bl, pure_int, pure_str, pure_tup, pure_lst, pures_nil, pures_cons, startF, List.replicate, List.length_cons, List.length_nil, List.set_cons_zero, List.set_cons_succ, List.getElem?_cons_zero, List.getElem?_cons_succ, List.getElem?_nil, Nat.zero_add, Nat.reduceAdd, Nat.reduceSub, Nat.reduceLT, Nat.reduceLeDiff, if_true, Bool.not_true, Bool.not_false, List.map_cons, List.map_nil, List.cons_append, List.nil_append, reduceIte, and_self, and_true, true_and, decide_true, decide_false, Bool.true_and, Bool.and_true, Bool.false_and, Bool.and_false, fin_non, fin_bl, fin_int, fin_str, finX_same', gt_iff_lt, Nat.lt_add_one, Bool.false_eq_true]
        refine st_nx t0 (st_nx t1 (st_rt (d := enc (put (.mk l ks) (i :: p) x)) (h1 := h) ?_ ?_))
        · rw [put, puts_eq ks i p x c q, show enc (.mk l (ks.take i ++ put c p x :: ks.drop (i + 1))) = .tup (.str l :: (encs (ks.take i) ++ enc (put c p x) :: encs (ks.drop (i + 1)))) from by rw [enc, encs_app, encs]]
          simp only [eD, pE, s1, s2, s3, a1, call, l1, n1, n2, n3, List.append_assoc, evSs, evS, evE, evL, evT, evTA, evTO, evF, evSrc, evO, evAnd, evOr, asgT, asgTs, cx_glob, cx_call, shal_int, shal_str, shal_tup, shal_lst, shal_non, shal_bl, bin_addi, bin_subi, bin_addt, bin_addl, bin_adds, bin_mod, bin_div, cmp_lt, cmp_le, cmp_gt, cmp_ge, cmp_eqi, cmp_nei, cmp_eqs, cmp_nes, cmp_ins, cmp_nins, cmp_isn, cmp_isns, item_tup, item_lst, bi_lens, bi_lent, bi_lenl, bi_int, bi_intb, bi_abs, bi_max2, bi_tuplel, bi_tuplet, itD, slice, seqD, pure_non, pure_bl, pure_int, pure_str, pure_tup, pure_lst, pures_nil, pures_cons, startF, List.replicate, List.length_cons, List.length_nil, List.set_cons_zero, List.set_cons_succ, List.getElem?_cons_zero, List.getElem?_cons_succ, List.getElem?_nil, Nat.zero_add, Nat.reduceAdd, Nat.reduceSub, Nat.reduceLT, Nat.reduceLeDiff, if_true, Bool.not_true, Bool.not_false, List.map_cons, List.map_nil, List.cons_append, List.nil_append, reduceIte, and_self, and_true, true_and, decide_true, decide_false, Bool.true_and, Bool.and_true, Bool.false_and, Bool.and_false, fin_non, fin_bl, fin_int, fin_str, finX_same', gt_iff_lt, Nat.lt_add_one, Bool.false_eq_true]
        · exact fin_pure (enc_pure _)
end K21
end
section
set_option Elab.async false
set_option autoImplicit false
set_option maxRecDepth 100000
set_option linter.all false
/-! N11: the law's signs and documents. -/
namespace K21
open Ev
/-- the state: the stream and the count -/
abbrev stB (is : List Int) (c : Nat) : Ob := .box (.lst [.lst (is.map .int), .int (c : Int)])
structure Is (is : List Int) : Prop where
  ne : is ≠ []
  len : is.length ≤ 100000
theorem hs {h t : Mem} {n : Nat} {a b : Ob} (l : n < h.length) : (h.set n a ++ t).set n b = h.set n b ++ t := by rw [app_set (by simpa using l), List.set_set]
theorem hg {h t : Mem} {n : Nat} {a : Ob} (l : n < h.length) : (h.set n a ++ t)[n]? = some a := by rw [app_get (by simpa using l), set_get l]
theorem nx_ok {k : Nat} (hk : 1 ≤ k) {h : Mem} {n : Nat} {is : List Int} {c : Nat} (hI : Is is) (e : h[n]? = some (stB is c)) (hc : c < 2 ^ 60) {m : Nat} (hm : 0 < m) : ∃ r : Nat, r < m ∧ callF prog k i_law_next [.loc n, .int (m : Int)] h = .ok (.int (r : Int)) (h.set n (stB is (c + 1))) := by
  obtain ⟨j, rfl⟩ : ∃ j, k = j + 1 := ⟨k - 1, by omega⟩
  exact law_next_ok j h n is c m e hI.ne hI.len hc hm
/-- a sign and its rank -/
abbrev Sg := List Nat × Nat
def sgD (x : Sg) : D := .tup [.str x.1, .int (x.2 : Int)]
structure Sgs (sg : List Sg) : Prop where
  len : sg.length ≤ 100
  ok : ∀ x ∈ sg, lab x.1 = true ∧ x.2 ≤ 3
  leaf : ∃ l, (l, 0) ∈ sg
  one : ∃ l, (l, 1) ∈ sg
def LdOk (k : Nat) : Prop := ∀ (w : Nat) (h : Mem) (n : Nat) (is : List Int) (c : Nat) (sg : List Sg), 1 ≤ w → w + 1 ≤ k → w ≤ 200 → Is is → Sgs sg → h[n]? = some (stB is c) → c + 4 * w < 2 ^ 60 →
  ∃ (d : Doc) (c' : Nat), callF prog k i_law_document [.loc n, .tup (sg.map sgD), .int (w : Int)] h = .ok (enc d) (h.set n (stB is c')) ∧ c ≤ c' ∧ c' ≤ c + 4 * w ∧ okd d = true ∧ sz d ≤ w
theorem document_loop (k : Nat) (ihk : LdOk k) (n : Nat) (is : List Int) (sg : List Sg) (w rank : Nat) (l : List Nat) (rk lv rw' : D) (h : Mem) (hn : n < h.length) (hI : Is is) (hS : Sgs sg) (hw : w ≤ k) (hw2 : w ≤ 200) :
    ∀ (m j left c : Nat) (acc : List Doc) (o8 o11 : Option D), j + m = rank → m ≤ left → left < w → acc.length + m ≤ 100 → c + m + 4 * left < 2 ^ 60 →
    ∃ (ks : List Doc) (left' c' : Nat) (o8' o11' : Option D), forL (evSs (prog.cx k (callF prog k)) b_law_document_0) (.nm 8) (rngL (j : Int) 1 m)
        [some (.loc n), some (.tup (sg.map sgD)), some (.int (w : Int)), some rk, some lv, some rw', some (.int (left : Int)), some (.loc h.length), o8, some (.str l), some (.int (rank : Int)), o11, none] (h.set n (stB is c) ++ [.box (.lst (encs acc))]) =
      .nx [some (.loc n), some (.tup (sg.map sgD)), some (.int (w : Int)), some rk, some lv, some rw', some (.int (left' : Int)), some (.loc h.length), o8', some (.str l), some (.int (rank : Int)), o11', none] (h.set n (stB is c') ++ [.box (.lst (encs (acc ++ ks)))]) ∧
      ks.length = m ∧ okds ks = true ∧ szs ks + left' ≤ left ∧ c ≤ c' ∧ c' + 4 * left' ≤ c + m + 4 * left := by
  intro m
  induction m with
  | zero => intro j left c acc o8 o11 _ _ _ _ _; exact ⟨[], left, c, o8, o11, by simp [rngL, forL], rfl, rfl, by simp [szs], by omega, by omega⟩
  | succ m ih =>
    intro j left c acc o8 o11 hj hl hlw ha hc
    -- the size of this one
    have own : ∃ (ow c1 : Nat), 1 ≤ ow ∧ ow + m ≤ left ∧ c ≤ c1 ∧ c1 ≤ c + 1 ∧ ∀ rest, evSs (prog.cx k (callF prog k)) b_law_document_0
        [some (.loc n), some (.tup (sg.map sgD)), some (.int (w : Int)), some rk, some lv, some rw', some (.int (left : Int)), some (.loc h.length), some (.int (j : Int)), some (.str l), some (.int (rank : Int)), o11, none] (h.set n (stB is c) ++ [.box (.lst (encs acc))]) = rest →
        rest = evSs (prog.cx k (callF prog k)) (.cons (.expr (.mt .append (.v 7) (.cons (.call 19 (.cons (.v 0) (.cons (.v 1) (.cons (.v 11) .nil)))) .nil))) (.cons (.asg (.nm 6) (.bin .sub (.v 6) (.v 11))) .nil))
        [some (.loc n), some (.tup (sg.map sgD)), some (.int (w : Int)), some rk, some lv, some rw', some (.int (left : Int)), some (.loc h.length), some (.int (j : Int)), some (.str l), some (.int (rank : Int)), some (.int (ow : Int)), none] (h.set n (stB is c1) ++ [.box (.lst (encs acc))]) := by
      have e0 : (left : Int) - ((rank : Int) - (j : Int) - 1) = ((left - m : Nat) : Int) := by omega
      have t0 : evS (prog.cx k (callF prog k)) (.asg (.nm 11) (.bin .sub (.v 6) (.bin .sub (.bin .sub (.v 10) (.v 8)) (.c (.int 1)))))
          [some (.loc n), some (.tup (sg.map sgD)), some (.int (w : Int)), some rk, some lv, some rw', some (.int (left : Int)), some (.loc h.length), some (.int (j : Int)), some (.str l), some (.int (rank : Int)), o11, none] (h.set n (stB is c) ++ [.box (.lst (encs acc))]) =
          .nx [some (.loc n), some (.tup (sg.map sgD)), some (.int (w : Int)), some rk, some lv, some rw', some (.int (left : Int)), some (.loc h.length), some (.int (j : Int)), some (.str l), some (.int (rank : Int)), some (.int ((left - m : Nat) : Int)), none] (h.set n (stB is c) ++ [.box (.lst (encs acc))]) := by
        simp only [e0, evSs, evS, evE, evL, evT, evTA, evTO, evF, evSrc, evO, evAnd, evOr, asgT, asgTs, cx_glob, cx_call, shal_int, shal_str, shal_tup, shal_lst, shal_non, shal_bl, bin_addi, bin_subi, bin_addt, bin_addl, bin_adds, bin_mod, bin_div, cmp_lt, cmp_le, cmp_gt, cmp_ge, cmp_eqi, cmp_nei, cmp_eqs, cmp_nes, cmp_ins, cmp_nins, cmp_isn, cmp_isns, item_tup, item_lst, bi_lens, bi_lent, bi_lenl, bi_int, bi_intb, bi_abs, bi_max2, bi_tuplel, bi_tuplet, itD, slice, seqD, pure_non, pure_bl, pure_int, pure_str, pure_tup, pure_lst, pures_nil, pures_cons, startF, List.replicate, List.length_cons, List.length_nil, List.set_cons_zero, List.set_cons_succ, List.getElem?_cons_zero, List.getElem?_cons_succ, List.getElem?_nil, Nat.zero_add, Nat.reduceAdd, Nat.reduceSub, Nat.reduceLT, Nat.reduceLeDiff, if_true, Bool.not_true, Bool.not_false, List.map_cons, List.map_nil, List.cons_append, List.nil_append, reduceIte, and_self, and_true, true_and, decide_true, decide_false, Bool.true_and, Bool.and_true, Bool.false_and, Bool.and_false, fin_non, fin_bl, fin_int, fin_str, finX_same', gt_iff_lt, Nat.lt_add_one, Bool.false_eq_true]
      by_cases z : m = 0
      · refine ⟨left - m, c, by omega, by omega, by omega, by omega, ?_⟩
        rintro rest rfl
        have dz : decide ((j : Int) < (rank : Int) - 1) = false := decide_eq_false (by omega)
        have tt : evT (prog.cx k (callF prog k)) (.e (.cmp .lt (.v 8) (.bin .sub (.v 10) (.c (.int 1)))))
          [some (.loc n), some (.tup (sg.map sgD)), some (.int (w : Int)), some rk, some lv, some rw', some (.int (left : Int)), some (.loc h.length), some (.int (j : Int)), some (.str l), some (.int (rank : Int)), some (.int ((left - m : Nat) : Int)), none] (h.set n (stB is c) ++ [.box (.lst (encs acc))]) = .ok false (h.set n (stB is c) ++ [.box (.lst (encs acc))]) := by
          simp only [dz, evSs, evS, evE, evL, evT, evTA, evTO, evF, evSrc, evO, evAnd, evOr, asgT, asgTs, cx_glob, cx_call, shal_int, shal_str, shal_tup, shal_lst, shal_non, shal_bl, bin_addi, bin_subi, bin_addt, bin_addl, bin_adds, bin_mod, bin_div, cmp_lt, cmp_le, cmp_gt, cmp_ge, cmp_eqi, cmp_nei, cmp_eqs, cmp_nes, cmp_ins, cmp_nins, cmp_isn, cmp_isns, item_tup, item_lst, bi_lens, bi_lent, bi_lenl, bi_int, bi_intb, bi_abs, bi_max2, bi_tuplel, bi_tuplet, itD, slice, seqD, pure_non, pure_bl, pure_int, pure_str, pure_tup, pure_lst, pures_nil, pures_cons, startF, List.replicate, List.length_cons, List.length_nil, List.set_cons_zero, List.set_cons_succ, List.getElem?_cons_zero, List.getElem?_cons_succ, List.getElem?_nil, Nat.zero_add, Nat.reduceAdd, Nat.reduceSub, Nat.reduceLT, Nat.reduceLeDiff, if_true, Bool.not_true, Bool.not_false, List.map_cons, List.map_nil, List.cons_append, List.nil_append, reduceIte, and_self, and_true, true_and, decide_true, decide_false, Bool.true_and, Bool.and_true, Bool.false_and, Bool.and_false, fin_non, fin_bl, fin_int, fin_str, finX_same', gt_iff_lt, Nat.lt_add_one, Bool.false_eq_true]
        rw [b_law_document_0]
        refine sq_nx t0 (sq_nx ?_ rfl)
        rw [evS_ite tt, if_neg (by decide), sq_nil]
      · obtain ⟨r, hr, en⟩ := nx_ok (k := k) (by omega) hI (hg (t := [.box (.lst (encs acc))]) (a := stB is c) hn) (by omega) (show 0 < left - m by omega)
        rw [hs hn] at en
        refine ⟨1 + r, c + 1, by omega, by omega, by omega, by omega, ?_⟩
        rintro rest rfl
        have dz : decide ((j : Int) < (rank : Int) - 1) = true := decide_eq_true (by omega)
        have tt : evT (prog.cx k (callF prog k)) (.e (.cmp .lt (.v 8) (.bin .sub (.v 10) (.c (.int 1)))))
          [some (.loc n), some (.tup (sg.map sgD)), some (.int (w : Int)), some rk, some lv, some rw', some (.int (left : Int)), some (.loc h.length), some (.int (j : Int)), some (.str l), some (.int (rank : Int)), some (.int ((left - m : Nat) : Int)), none] (h.set n (stB is c) ++ [.box (.lst (encs acc))]) = .ok true (h.set n (stB is c) ++ [.box (.lst (encs acc))]) := by
          simp only [dz, evSs, evS, evE, evL, evT, evTA, evTO, evF, evSrc, evO, evAnd, evOr, asgT, asgTs, cx_glob, cx_call, shal_int, shal_str, shal_tup, shal_lst, shal_non, shal_bl, bin_addi, bin_subi, bin_addt, bin_addl, bin_adds, bin_mod, bin_div, cmp_lt, cmp_le, cmp_gt, cmp_ge, cmp_eqi, cmp_nei, cmp_eqs, cmp_nes, cmp_ins, cmp_nins, cmp_isn, cmp_isns, item_tup, item_lst, bi_lens, bi_lent, bi_lenl, bi_int, bi_intb, bi_abs, bi_max2, bi_tuplel, bi_tuplet, itD, slice, seqD, pure_non, pure_bl, pure_int, pure_str, pure_tup, pure_lst, pures_nil, pures_cons, startF, List.replicate, List.length_cons, List.length_nil, List.set_cons_zero, List.set_cons_succ, List.getElem?_cons_zero, List.getElem?_cons_succ, List.getElem?_nil, Nat.zero_add, Nat.reduceAdd, Nat.reduceSub, Nat.reduceLT, Nat.reduceLeDiff, if_true, Bool.not_true, Bool.not_false, List.map_cons, List.map_nil, List.cons_append, List.nil_append, reduceIte, and_self, and_true, true_and, decide_true, decide_false, Bool.true_and, Bool.and_true, Bool.false_and, Bool.and_false, fin_non, fin_bl, fin_int, fin_str, finX_same', gt_iff_lt, Nat.lt_add_one, Bool.false_eq_true]
        have er : (1 : Int) + (r : Int) = ((1 + r : Nat) : Int) := by omega
        have t1 : evS (prog.cx k (callF prog k)) (.asg (.nm 11) (.bin .add (.c (.int 1)) (.call 15 (.cons (.v 0) (.cons (.v 11) .nil)))))
          [some (.loc n), some (.tup (sg.map sgD)), some (.int (w : Int)), some rk, some lv, some rw', some (.int (left : Int)), some (.loc h.length), some (.int (j : Int)), some (.str l), some (.int (rank : Int)), some (.int ((left - m : Nat) : Int)), none] (h.set n (stB is c) ++ [.box (.lst (encs acc))]) =
          .nx [some (.loc n), some (.tup (sg.map sgD)), some (.int (w : Int)), some rk, some lv, some rw', some (.int (left : Int)), some (.loc h.length), some (.int (j : Int)), some (.str l), some (.int (rank : Int)), some (.int ((1 + r : Nat) : Int)), none] (h.set n (stB is (c + 1)) ++ [.box (.lst (encs acc))]) := by
          simp only [en, er, evSs, evS, evE, evL, evT, evTA, evTO, evF, evSrc, evO, evAnd, evOr, asgT, asgTs, cx_glob, cx_call, shal_int, shal_str, shal_tup, shal_lst, shal_non, shal_bl, bin_addi, bin_subi, bin_addt, bin_addl, bin_adds, bin_mod, bin_div, cmp_lt, cmp_le, cmp_gt, cmp_ge, cmp_eqi, cmp_nei, cmp_eqs, cmp_nes, cmp_ins, cmp_nins, cmp_isn, cmp_isns, item_tup, item_lst, bi_lens, bi_lent, bi_lenl, bi_int, bi_intb, bi_abs, bi_max2, bi_tuplel, bi_tuplet, itD, slice, seqD, pure_non, pure_bl, pure_int, pure_str, pure_tup, pure_lst, pures_nil, pures_cons, startF, List.replicate, List.length_cons, List.length_nil, List.set_cons_zero, List.set_cons_succ, List.getElem?_cons_zero, List.getElem?_cons_succ, List.getElem?_nil, Nat.zero_add, Nat.reduceAdd, Nat.reduceSub, Nat.reduceLT, Nat.reduceLeDiff, if_true, Bool.not_true, Bool.not_false, List.map_cons, List.map_nil, List.cons_append, List.nil_append, reduceIte, and_self, and_true, true_and, decide_true, decide_false, Bool.true_and, Bool.and_true, Bool.false_and, Bool.and_false, fin_non, fin_bl, fin_int, fin_str, finX_same', gt_iff_lt, Nat.lt_add_one, Bool.false_eq_true]
        rw [b_law_document_0]
        refine sq_nx t0 (sq_nx ?_ rfl)
        rw [evS_ite tt, if_pos rfl]
        exact sq_nx t1 sq_nil
    obtain ⟨ow, c1, w1, w2, w3, w4, run⟩ := own
    obtain ⟨d, c2, ed, q1, q2, q3, q4⟩ := ihk ow (h.set n (stB is c1) ++ [.box (.lst (encs acc))]) n is c1 sg w1 (by omega) (by omega) hI hS (hg hn) (by omega)
    rw [hs hn] at ed
    have hN : (h.set n (stB is c2)).length = h.length := set_len
    have la : (encs acc).length < LIM := lim_lt' (by rw [encs_len]; omega)
    have ga : evL (prog.cx k (callF prog k)) (.cons (.call 19 (.cons (.v 0) (.cons (.v 1) (.cons (.v 11) .nil)))) .nil)
        [some (.loc n), some (.tup (sg.map sgD)), some (.int (w : Int)), some rk, some lv, some rw', some (.int (left : Int)), some (.loc h.length), some (.int (j : Int)), some (.str l), some (.int (rank : Int)), some (.int (ow : Int)), none] (h.set n (stB is c1) ++ [.box (.lst (encs acc))]) = .ok [enc d] (h.set n (stB is c2) ++ [.box (.lst (encs acc))]) := by
      simp only [ed, evSs, evS, evE, evL, evT, evTA, evTO, evF, evSrc, evO, evAnd, evOr, asgT, asgTs, cx_glob, cx_call, shal_int, shal_str, shal_tup, shal_lst, shal_non, shal_bl, bin_addi, bin_subi, bin_addt, bin_addl, bin_adds, bin_mod, bin_div, cmp_lt, cmp_le, cmp_gt, cmp_ge, cmp_eqi, cmp_nei, cmp_eqs, cmp_nes, cmp_ins, cmp_nins, cmp_isn, cmp_isns, item_tup, item_lst, bi_lens, bi_lent, bi_lenl, bi_int, bi_intb, bi_abs, bi_max2, bi_tuplel, bi_tuplet, itD, slice, seqD, pure_non, pure_bl, pure_int, pure_str, pure_tup, pure_lst, pures_nil, pures_cons, startF, List.replicate, List.length_cons, List.length_nil, List.set_cons_zero, List.set_cons_succ, List.getElem?_cons_zero, List.getElem?_cons_succ, List.getElem?_nil, Nat.zero_add, Nat.reduceAdd, Nat.reduceSub, Nat.reduceLT, Nat.reduceLeDiff, if_true, Bool.not_true, Bool.not_false, List.map_cons, List.map_nil, List.cons_append, List.nil_append, reduceIte, and_self, and_true, true_and, decide_true, decide_false, Bool.true_and, Bool.and_true, Bool.false_and, Bool.and_false, fin_non, fin_bl, fin_int, fin_str, finX_same', gt_iff_lt, Nat.lt_add_one, Bool.false_eq_true]
    have el : (left : Int) - (ow : Int) = ((left - ow : Nat) : Int) := by omega
    have t3 : evS (prog.cx k (callF prog k)) (.asg (.nm 6) (.bin .sub (.v 6) (.v 11)))
        [some (.loc n), some (.tup (sg.map sgD)), some (.int (w : Int)), some rk, some lv, some rw', some (.int (left : Int)), some (.loc h.length), some (.int (j : Int)), some (.str l), some (.int (rank : Int)), some (.int (ow : Int)), none] (h.set n (stB is c2) ++ [.box (.lst (encs acc ++ [enc d]))]) =
        .nx [some (.loc n), some (.tup (sg.map sgD)), some (.int (w : Int)), some rk, some lv, some rw', some (.int ((left - ow : Nat) : Int)), some (.loc h.length), some (.int (j : Int)), some (.str l), some (.int (rank : Int)), some (.int (ow : Int)), none] (h.set n (stB is c2) ++ [.box (.lst (encs acc ++ [enc d]))]) := by
      simp only [el, evSs, evS, evE, evL, evT, evTA, evTO, evF, evSrc, evO, evAnd, evOr, asgT, asgTs, cx_glob, cx_call, shal_int, shal_str, shal_tup, shal_lst, shal_non, shal_bl, bin_addi, bin_subi, bin_addt, bin_addl, bin_adds, bin_mod, bin_div, cmp_lt, cmp_le, cmp_gt, cmp_ge, cmp_eqi, cmp_nei, cmp_eqs, cmp_nes, cmp_ins, cmp_nins, cmp_isn, cmp_isns, item_tup, item_lst, bi_lens, bi_lent, bi_lenl, bi_int, bi_intb, bi_abs, bi_max2, bi_tuplel, bi_tuplet, itD, slice, seqD, pure_non, pure_bl, pure_int, pure_str, pure_tup, pure_lst, pures_nil, pures_cons, startF, List.replicate, List.length_cons, List.length_nil, List.set_cons_zero, List.set_cons_succ, List.getElem?_cons_zero, List.getElem?_cons_succ, List.getElem?_nil, Nat.zero_add, Nat.reduceAdd, Nat.reduceSub, Nat.reduceLT, Nat.reduceLeDiff, if_true, Bool.not_true, Bool.not_false, List.map_cons, List.map_nil, List.cons_append, List.nil_append, reduceIte, and_self, and_true, true_and, decide_true, decide_false, Bool.true_and, Bool.and_true, Bool.false_and, Bool.and_false, fin_non, fin_bl, fin_int, fin_str, finX_same', gt_iff_lt, Nat.lt_add_one, Bool.false_eq_true]
    have ea : encs acc ++ [enc d] = encs (acc ++ [d]) := by rw [encs_app, encs, encs]
    have hb := run _ rfl
    have t2 := evS_expr (ev_mt (m := .append) (o := .v 7) (ev_v (C := prog.cx k (callF prog k)) (σ := [some (.loc n), some (.tup (sg.map sgD)), some (.int (w : Int)), some rk, some lv, some rw', some (.int (left : Int)), some (.loc h.length), some (.int (j : Int)), some (.str l), some (.int (rank : Int)), some (.int (ow : Int)), none]) rfl) (g1 (by rw [set_len])) ga (mt_append (g1 hN) la))
    rw [s1 hN] at t2
    rw [sq_nx t2 (sq_nx t3 sq_nil), ea] at hb
    obtain ⟨ks, left', c', o8', o11', er, k1, k2, k3, k4, k5⟩ := ih (j + 1) (left - ow) c2 (acc ++ [d]) (some (.int (j : Int))) (some (.int (ow : Int))) (by omega) (by omega) (by omega) (by rw [List.length_append]; simp; omega) (by omega)
    refine ⟨d :: ks, left', c', o8', o11', ?_, by rw [List.length_cons, k1], by rw [okds, q3, k2]; rfl, by rw [szs]; omega, by omega, by omega⟩
    have ei : (j : Int) + 1 = ((j + 1 : Nat) : Int) := by omega
    rw [rngL, forL_nx rfl hb, ei, er, List.append_assoc]
    rfl
end K21
end
section
set_option Elab.async false
set_option autoImplicit false
set_option maxRecDepth 100000
set_option linter.all false
/-! N12: the law's documents. -/
namespace K21
open Ev
theorem okds_szs_len {sg : List Sg} : (sg.map sgD).length = sg.length := by simp
theorem ret_leaf (k : Nat) (hk : 1 ≤ k) {h : Mem} {n : Nat} {is : List Int} {c : Nat} (hI : Is is) (e : h[n]? = some (stB is c)) (hc : c < 2 ^ 60) {σ : Fr} {sg : List Sg} (hS : Sgs sg)
    (e0 : σ[0]? = some (some (.loc n))) (e4 : σ[4]? = some (some (.lst ((sg.filter fun x => decide (x.2 = 0)).map fun x => .str x.1)))) :
    ∃ l : List Nat, lab l = true ∧ evS (prog.cx k (callF prog k)) (.ret (.tup (.cons (.ix (.v 4) (.call 15 (.cons (.v 0) (.cons (.bi .len (.cons (.v 4) .nil)) .nil)))) .nil))) σ h = .rt (enc (.mk l [])) (h.set n (stB is (c + 1))) := by
  obtain ⟨l0, m0⟩ := hS.leaf
  have pos : 0 < (sg.filter fun x => decide (x.2 = 0)).length := List.length_pos_iff.mpr (List.ne_nil_of_mem (List.mem_filter.mpr ⟨m0, by simp⟩))
  obtain ⟨r, hr, en⟩ := nx_ok hk hI e hc pos
  have mem := List.getElem_mem hr
  obtain ⟨mem, _⟩ := List.mem_filter.mp mem
  refine ⟨((sg.filter fun x => decide (x.2 = 0))[r]).1, (hS.ok _ mem).1, ?_⟩
  generalize hy : (sg.filter fun x => decide (x.2 = 0)) = ys at *
  have v4 : evE (prog.cx k (callF prog k)) (.v 4) σ h = .ok (.lst (ys.map fun x => .str x.1)) h := ev_v e4
  have ll : biF .len [.lst (ys.map fun x => D.str x.1)] h = some (.int (ys.length : Int)) := by rw [bi_lenl, List.length_map]
  have c1 : evE (prog.cx k (callF prog k)) (.call 15 (.cons (.v 0) (.cons (.bi .len (.cons (.v 4) .nil)) .nil))) σ h = .ok (.int (r : Int)) (h.set n (stB is (c + 1))) :=
    evE_callx (ev_cons (ev_v e0) (ev_cons (ev_bi (ev_cons v4 ev_nil) ll) ev_nil)) en
  exact ev_ret (ev_tup (ev_cons (ev_ix v4 c1 (by rw [shal_lst, item_lst, atI_map hr])) ev_nil) (by show 1 ≤ LIM; decide))
theorem law_document_ok (k : Nat) : LdOk k := by
  induction k with
  | zero => intro w h n is c sg h1 h2; omega
  | succ k ihk =>
    intro w h n is c sg w1 wk w2 hI hS e hc
    rw [callF_out d_law_document rfl ⟨rfl, by decide⟩, d_law_document]
    have hn := get_lt e
    have lS : ([] : List D).length + sg.length ≤ LIM := lim_lt (by have := hS.len; simp; omega)
    have fr0 : startF 13 [.loc n, .tup (sg.map sgD), .int (w : Int)] = [some (.loc n), some (.tup (sg.map sgD)), some (.int (w : Int)), none, none, none, none, none, none, none, none, none, none] := rfl
    have src : ∀ (o3 o4 o5 : Option D), evSrc (prog.cx k (callF prog k)) (.it (.v 1)) [some (.loc n), some (.tup (sg.map sgD)), some (.int (w : Int)), o3, o4, o5, none, none, none, none, none, none, none] h = .ok (sg.map sgD) h := by
      intro o3 o4 o5
      simp only [evSs, evS, evE, evL, evT, evTA, evTO, evF, evSrc, evO, evAnd, evOr, asgT, asgTs, cx_glob, cx_call, shal_int, shal_str, shal_tup, shal_lst, shal_non, shal_bl, bin_addi, bin_subi, bin_addt, bin_addl, bin_adds, bin_mod, bin_div, cmp_lt, cmp_le, cmp_gt, cmp_ge, cmp_eqi, cmp_nei, cmp_eqs, cmp_nes, cmp_ins, cmp_nins, cmp_isn, cmp_isns, item_tup, item_lst, bi_lens, bi_lent, bi_lenl, bi_int, bi_intb, bi_abs, bi_max2, bi_tuplel, bi_tuplet, itD, slice, seqD, pure_non, pure_bl, pure_int, pure_str, pure_tup, pure_lst, pures_nil, pures_cons, startF, List.replicate, List.length_cons, List.length_nil, List.set_cons_zero, List.set_cons_succ, List.getElem?_cons_zero, List.getElem?_cons_succ, List.getElem?_nil, Nat.zero_add, Nat.reduceAdd, Nat.reduceSub, Nat.reduceLT, Nat.reduceLeDiff, if_true, Bool.not_true, Bool.not_false, List.map_cons, List.map_nil, List.cons_append, List.nil_append, reduceIte, and_self, and_true, true_and, decide_true, decide_false, Bool.true_and, Bool.and_true, Bool.false_and, Bool.and_false, fin_non, fin_bl, fin_int, fin_str, finX_same', gt_iff_lt, Nat.lt_add_one, Bool.false_eq_true]
    have r0 := lcL_on (elt := evE (prog.cx k (callF prog k)) e_law_document_0) (test := evT (prog.cx k (callF prog k)) .yes) (t := .tp (.cons (.nm 9) (.cons (.nm 10) .nil))) (σ := [some (.loc n), some (.tup (sg.map sgD)), some (.int (w : Int)), none, none, none, none, none, none, none, none, none, none]) (h := h)
      sgD (fun x => .int (x.2 : Int)) (fun _ => true) (fun x => [some (.loc n), some (.tup (sg.map sgD)), some (.int (w : Int)), none, none, none, none, none, none, some (.str x.1), some (.int (x.2 : Int)), none, none]) sg [] (fun x _ => ⟨rfl, by rw [evT], fun _ => ev_v rfl⟩) lS
    rw [List.filter_eq_self.mpr fun _ _ => rfl, List.nil_append] at r0
    have t0 : evS (prog.cx k (callF prog k)) s_law_document_0 [some (.loc n), some (.tup (sg.map sgD)), some (.int (w : Int)), none, none, none, none, none, none, none, none, none, none] h = .nx [some (.loc n), some (.tup (sg.map sgD)), some (.int (w : Int)), some (.lst (sg.map fun x => .int (x.2 : Int))), none, none, none, none, none, none, none, none, none] h :=
      evS_asg (ev_lc (src none none none) r0) rfl
    generalize hrk : D.lst (sg.map fun x => D.int (x.2 : Int)) = rk at t0
    have r1 := lcL_on (elt := evE (prog.cx k (callF prog k)) e_law_document_1) (test := evT (prog.cx k (callF prog k)) c_law_document_0) (t := .tp (.cons (.nm 9) (.cons (.nm 10) .nil))) (σ := [some (.loc n), some (.tup (sg.map sgD)), some (.int (w : Int)), some rk, none, none, none, none, none, none, none, none, none]) (h := h)
      sgD (fun x => .str x.1) (fun x => decide (x.2 = 0)) (fun x => [some (.loc n), some (.tup (sg.map sgD)), some (.int (w : Int)), some rk, none, none, none, none, none, some (.str x.1), some (.int (x.2 : Int)), none, none]) sg [] (fun x _ => ⟨rfl, by
        have d : decide ((x.2 : Int) = 0) = decide (x.2 = 0) := by
          by_cases z : x.2 = 0
          · rw [decide_eq_true z, decide_eq_true (by omega)]
          · rw [decide_eq_false z, decide_eq_false (by omega)]
        simp only [c_law_document_0, d, evSs, evS, evE, evL, evT, evTA, evTO, evF, evSrc, evO, evAnd, evOr, asgT, asgTs, cx_glob, cx_call, shal_int, shal_str, shal_tup, shal_lst, shal_non, shal_bl, bin_addi, bin_subi, bin_addt, bin_addl, bin_adds, bin_mod, bin_div, cmp_lt, cmp_le, cmp_gt, cmp_ge, cmp_eqi, cmp_nei, cmp_eqs, cmp_nes, cmp_ins, cmp_nins, cmp_isn, cmp_isns, item_tup, item_lst, bi_lens, bi_lent, bi_lenl, bi_int, bi_intb, bi_abs, bi_max2, bi_tuplel, bi_tuplet, itD, slice, seqD, pure_non, pure_bl, pure_int, pure_str, pure_tup, pure_lst, pures_nil, pures_cons, startF, List.replicate, List.length_cons, List.length_nil, List.set_cons_zero, List.set_cons_succ, List.getElem?_cons_zero, List.getElem?_cons_succ, List.getElem?_nil, Nat.zero_add, Nat.reduceAdd, Nat.reduceSub, Nat.reduceLT, Nat.reduceLeDiff, if_true, Bool.not_true, Bool.not_false, List.map_cons, List.map_nil, List.cons_append, List.nil_append, reduceIte, and_self, and_true, true_and, decide_true, decide_false, Bool.true_and, Bool.and_true, Bool.false_and, Bool.and_false, fin_non, fin_bl, fin_int, fin_str, finX_same', gt_iff_lt, Nat.lt_add_one, Bool.false_eq_true], fun _ => ev_v rfl⟩) lS
    rw [List.nil_append] at r1
    have t1 : evS (prog.cx k (callF prog k)) s_law_document_1 [some (.loc n), some (.tup (sg.map sgD)), some (.int (w : Int)), some rk, none, none, none, none, none, none, none, none, none] h = .nx [some (.loc n), some (.tup (sg.map sgD)), some (.int (w : Int)), some rk, some (.lst ((sg.filter fun x => decide (x.2 = 0)).map fun x => .str x.1)), none, none, none, none, none, none, none, none] h :=
      evS_asg (ev_lc (src (some rk) none none) r1) rfl
    rw [fr0]
    by_cases hw : w < 2
    · have tt : evT (prog.cx k (callF prog k)) (.or (.cons (.e (.cmp .lt (.v 2) (.c (.int 2)))) (.cons (.e (.cmp .eq (.bi .max1 (.cons (.v 3) .nil)) (.c (.int 0)))) .nil))) [some (.loc n), some (.tup (sg.map sgD)), some (.int (w : Int)), some rk, some (.lst ((sg.filter fun x => decide (x.2 = 0)).map fun x => .str x.1)), none, none, none, none, none, none, none, none] h = .ok true h := by
        have d : decide ((w : Int) < 2) = true := decide_eq_true (by omega)
        simp only [d, evSs, evS, evE, evL, evT, evTA, evTO, evF, evSrc, evO, evAnd, evOr, asgT, asgTs, cx_glob, cx_call, shal_int, shal_str, shal_tup, shal_lst, shal_non, shal_bl, bin_addi, bin_subi, bin_addt, bin_addl, bin_adds, bin_mod, bin_div, cmp_lt, cmp_le, cmp_gt, cmp_ge, cmp_eqi, cmp_nei, cmp_eqs, cmp_nes, cmp_ins, cmp_nins, cmp_isn, cmp_isns, item_tup, item_lst, bi_lens, bi_lent, bi_lenl, bi_int, bi_intb, bi_abs, bi_max2, bi_tuplel, bi_tuplet, itD, slice, seqD, pure_non, pure_bl, pure_int, pure_str, pure_tup, pure_lst, pures_nil, pures_cons, startF, List.replicate, List.length_cons, List.length_nil, List.set_cons_zero, List.set_cons_succ, List.getElem?_cons_zero, List.getElem?_cons_succ, List.getElem?_nil, Nat.zero_add, Nat.reduceAdd, Nat.reduceSub, Nat.reduceLT, Nat.reduceLeDiff, if_true, Bool.not_true, Bool.not_false, List.map_cons, List.map_nil, List.cons_append, List.nil_append, reduceIte, and_self, and_true, true_and, decide_true, decide_false, Bool.true_and, Bool.and_true, Bool.false_and, Bool.and_false, fin_non, fin_bl, fin_int, fin_str, finX_same', gt_iff_lt, Nat.lt_add_one, Bool.false_eq_true]
      have RL := ret_leaf k (by omega) hI e (by omega) (σ := [some (.loc n), some (.tup (sg.map sgD)), some (.int (w : Int)), some rk, some (.lst ((sg.filter fun x => decide (x.2 = 0)).map fun x => .str x.1)), none, none, none, none, none, none, none, none]) hS rfl rfl
      obtain ⟨l, hl, er⟩ := RL
      refine ⟨.mk l [], c + 1, ?_, by omega, by omega, by rw [okd, hl]; rfl, by simp [sz, szs]; omega⟩
      refine st_nx t0 (st_nx t1 (st_rt (d := enc (.mk l [])) (h1 := h.set n (stB is (c + 1))) ?_ ?_))
      · rw [s_law_document_2, evS_ite tt, if_pos rfl]
        exact sq_rt er
      · exact fin_set0 (D.pure_ok _ _ (enc_pure _)) (okB_box (by rw [pures_cons, pure_lst, ints_pure]; rfl))
    · have mx : ∃ M : Int, 1 ≤ M ∧ biF .max1 [rk] h = some (.int M) := by
        obtain ⟨l1, m1⟩ := hS.one
        have im := ints_map (fun x : Sg => (x.2 : Int)) sg
        rw [← hrk]
        cases sg with
        | nil => cases m1
        | cons a sg =>
          refine ⟨maxI ((a :: sg).map fun x => (x.2 : Int)), maxI_le (List.mem_map.mpr ⟨_, m1, rfl⟩), ?_⟩
          rw [List.map_cons (f := fun x : Sg => D.int (x.2 : Int))] at im ⊢
          rw [bi_max1, im]
          rfl
      obtain ⟨M, hM, mx⟩ := mx
      have t2 : evS (prog.cx k (callF prog k)) s_law_document_2 [some (.loc n), some (.tup (sg.map sgD)), some (.int (w : Int)), some rk, some (.lst ((sg.filter fun x => decide (x.2 = 0)).map fun x => .str x.1)), none, none, none, none, none, none, none, none] h = .nx [some (.loc n), some (.tup (sg.map sgD)), some (.int (w : Int)), some rk, some (.lst ((sg.filter fun x => decide (x.2 = 0)).map fun x => .str x.1)), none, none, none, none, none, none, none, none] h := by
        have tt : evT (prog.cx k (callF prog k)) (.or (.cons (.e (.cmp .lt (.v 2) (.c (.int 2)))) (.cons (.e (.cmp .eq (.bi .max1 (.cons (.v 3) .nil)) (.c (.int 0)))) .nil))) [some (.loc n), some (.tup (sg.map sgD)), some (.int (w : Int)), some rk, some (.lst ((sg.filter fun x => decide (x.2 = 0)).map fun x => .str x.1)), none, none, none, none, none, none, none, none] h = .ok false h := by
          have d : decide ((w : Int) < 2) = false := decide_eq_false (by omega)
          have d2 : decide (M = 0) = false := decide_eq_false (by omega)
          simp only [d, d2, mx, evSs, evS, evE, evL, evT, evTA, evTO, evF, evSrc, evO, evAnd, evOr, asgT, asgTs, cx_glob, cx_call, shal_int, shal_str, shal_tup, shal_lst, shal_non, shal_bl, bin_addi, bin_subi, bin_addt, bin_addl, bin_adds, bin_mod, bin_div, cmp_lt, cmp_le, cmp_gt, cmp_ge, cmp_eqi, cmp_nei, cmp_eqs, cmp_nes, cmp_ins, cmp_nins, cmp_isn, cmp_isns, item_tup, item_lst, bi_lens, bi_lent, bi_lenl, bi_int, bi_intb, bi_abs, bi_max2, bi_tuplel, bi_tuplet, itD, slice, seqD, pure_non, pure_bl, pure_int, pure_str, pure_tup, pure_lst, pures_nil, pures_cons, startF, List.replicate, List.length_cons, List.length_nil, List.set_cons_zero, List.set_cons_succ, List.getElem?_cons_zero, List.getElem?_cons_succ, List.getElem?_nil, Nat.zero_add, Nat.reduceAdd, Nat.reduceSub, Nat.reduceLT, Nat.reduceLeDiff, if_true, Bool.not_true, Bool.not_false, List.map_cons, List.map_nil, List.cons_append, List.nil_append, reduceIte, and_self, and_true, true_and, decide_true, decide_false, Bool.true_and, Bool.and_true, Bool.false_and, Bool.and_false, fin_non, fin_bl, fin_int, fin_str, finX_same', gt_iff_lt, Nat.lt_add_one, Bool.false_eq_true]
        rw [s_law_document_2, evS_ite tt, if_neg (by decide), sq_nil]
      have r3 := lcL_on (elt := evE (prog.cx k (callF prog k)) e_law_document_2) (test := evT (prog.cx k (callF prog k)) c_law_document_1) (t := .nm 12) (σ := [some (.loc n), some (.tup (sg.map sgD)), some (.int (w : Int)), some rk, some (.lst ((sg.filter fun x => decide (x.2 = 0)).map fun x => .str x.1)), none, none, none, none, none, none, none, none]) (h := h)
        sgD sgD (fun x => decide (0 < x.2) && decide (x.2 < w)) (fun x => [some (.loc n), some (.tup (sg.map sgD)), some (.int (w : Int)), some rk, some (.lst ((sg.filter fun x => decide (x.2 = 0)).map fun x => .str x.1)), none, none, none, none, none, none, none, some (sgD x)]) sg [] (fun x _ => ⟨rfl, by
          have d1 : decide ((0 : Int) < (x.2 : Int)) = decide (0 < x.2) := by
            by_cases z : 0 < x.2
            · rw [decide_eq_true z, decide_eq_true (by omega)]
            · rw [decide_eq_false z, decide_eq_false (by omega)]
          have d2 : decide ((x.2 : Int) < (w : Int)) = decide (x.2 < w) := by
            by_cases z : x.2 < w
            · rw [decide_eq_true z, decide_eq_true (by omega)]
            · rw [decide_eq_false z, decide_eq_false (by omega)]
          have a1 : atI [D.str x.1, .int (x.2 : Int)] 1 = some (.int (x.2 : Int)) := atI_nat (i := 1)
          have i1 : evT (prog.cx k (callF prog k)) (.e (.cmp .gt (.ix (.v 12) (.c (.int 1))) (.c (.int 0)))) [some (.loc n), some (.tup (sg.map sgD)), some (.int (w : Int)), some rk, some (.lst ((sg.filter fun x => decide (x.2 = 0)).map fun x => .str x.1)), none, none, none, none, none, none, none, some (sgD x)] h = .ok (decide (0 < x.2)) h := by
            simp only [sgD, a1, d1, evSs, evS, evE, evL, evT, evTA, evTO, evF, evSrc, evO, evAnd, evOr, asgT, asgTs, cx_glob, cx_call, shal_int, shal_str, shal_tup, shal_lst, shal_non, shal_bl, bin_addi, bin_subi, bin_addt, bin_addl, bin_adds, bin_mod, bin_div, cmp_lt, cmp_le, cmp_gt, cmp_ge, cmp_eqi, cmp_nei, cmp_eqs, cmp_nes, cmp_ins, cmp_nins, cmp_isn, cmp_isns, item_tup, item_lst, bi_lens, bi_lent, bi_lenl, bi_int, bi_intb, bi_abs, bi_max2, bi_tuplel, bi_tuplet, itD, slice, seqD, pure_non, pure_bl, pure_int, pure_str, pure_tup, pure_lst, pures_nil, pures_cons, startF, List.replicate, List.length_cons, List.length_nil, List.set_cons_zero, List.set_cons_succ, List.getElem?_cons_zero, List.getElem?_cons_succ, List.getElem?_nil, Nat.zero_add, Nat.reduceAdd, Nat.reduceSub, Nat.reduceLT, Nat.reduceLeDiff, if_true, Bool.not_true, Bool.not_false, List.map_cons, List.map_nil, List.cons_append, List.nil_append, reduceIte, and_self, and_true, true_and, decide_true, decide_false, Bool.true_and, Bool.and_true, Bool.false_and, Bool.and_false, fin_non, fin_bl, fin_int, fin_str, finX_same', gt_iff_lt, Nat.lt_add_one, Bool.false_eq_true]
          have i2 : evT (prog.cx k (callF prog k)) (.e (.cmp .lt (.ix (.v 12) (.c (.int 1))) (.v 2))) [some (.loc n), some (.tup (sg.map sgD)), some (.int (w : Int)), some rk, some (.lst ((sg.filter fun x => decide (x.2 = 0)).map fun x => .str x.1)), none, none, none, none, none, none, none, some (sgD x)] h = .ok (decide (x.2 < w)) h := by
            simp only [sgD, a1, d2, evSs, evS, evE, evL, evT, evTA, evTO, evF, evSrc, evO, evAnd, evOr, asgT, asgTs, cx_glob, cx_call, shal_int, shal_str, shal_tup, shal_lst, shal_non, shal_bl, bin_addi, bin_subi, bin_addt, bin_addl, bin_adds, bin_mod, bin_div, cmp_lt, cmp_le, cmp_gt, cmp_ge, cmp_eqi, cmp_nei, cmp_eqs, cmp_nes, cmp_ins, cmp_nins, cmp_isn, cmp_isns, item_tup, item_lst, bi_lens, bi_lent, bi_lenl, bi_int, bi_intb, bi_abs, bi_max2, bi_tuplel, bi_tuplet, itD, slice, seqD, pure_non, pure_bl, pure_int, pure_str, pure_tup, pure_lst, pures_nil, pures_cons, startF, List.replicate, List.length_cons, List.length_nil, List.set_cons_zero, List.set_cons_succ, List.getElem?_cons_zero, List.getElem?_cons_succ, List.getElem?_nil, Nat.zero_add, Nat.reduceAdd, Nat.reduceSub, Nat.reduceLT, Nat.reduceLeDiff, if_true, Bool.not_true, Bool.not_false, List.map_cons, List.map_nil, List.cons_append, List.nil_append, reduceIte, and_self, and_true, true_and, decide_true, decide_false, Bool.true_and, Bool.and_true, Bool.false_and, Bool.and_false, fin_non, fin_bl, fin_int, fin_str, finX_same', gt_iff_lt, Nat.lt_add_one, Bool.false_eq_true]
          rw [c_law_document_1]
          cases q : decide (0 < x.2) with
          | true =>
            rw [q] at i1
            rw [evTA2 i1 i2]
            rfl
          | false =>
            rw [q] at i1
            rw [evTA1 i1]
            rfl, fun _ => ev_v rfl⟩) lS
      rw [List.nil_append] at r3
      have t3 : evS (prog.cx k (callF prog k)) s_law_document_3 [some (.loc n), some (.tup (sg.map sgD)), some (.int (w : Int)), some rk, some (.lst ((sg.filter fun x => decide (x.2 = 0)).map fun x => .str x.1)), none, none, none, none, none, none, none, none] h = .nx [some (.loc n), some (.tup (sg.map sgD)), some (.int (w : Int)), some rk, some (.lst ((sg.filter fun x => decide (x.2 = 0)).map fun x => .str x.1)), some (.lst ((sg.filter fun x => decide (0 < x.2) && decide (x.2 < w)).map sgD)), none, none, none, none, none, none, none] h :=
        evS_asg (ev_lc (src (some rk) _ none) r3) rfl
      generalize hlv : D.lst ((sg.filter fun x => decide (x.2 = 0)).map fun x => D.str x.1) = lv at t1 t2 t3 ⊢
      have pos : 0 < (sg.filter fun x => decide (0 < x.2) && decide (x.2 < w)).length := by
        obtain ⟨l1, m1⟩ := hS.one
        refine List.length_pos_iff.mpr (List.ne_nil_of_mem (List.mem_filter.mpr ⟨m1, ?_⟩))
        simp
        omega
      obtain ⟨r, hr, en⟩ := nx_ok (k := k) (by omega) hI e (by omega) pos
      obtain ⟨y, my, hy, ar⟩ : ∃ y : Sg, y ∈ sg ∧ (decide (0 < y.2) && decide (y.2 < w)) = true ∧ atI ((sg.filter fun x => decide (0 < x.2) && decide (x.2 < w)).map sgD) (r : Int) = some (sgD y) :=
        ⟨_, (List.mem_filter.mp (List.getElem_mem hr)).1, (List.mem_filter.mp (List.getElem_mem hr)).2, atI_map hr⟩
      have rl : ((sg.filter fun x => decide (0 < x.2) && decide (x.2 < w)).map sgD).length = (sg.filter fun x => decide (0 < x.2) && decide (x.2 < w)).length := List.length_map ..
      generalize (sg.filter fun x => decide (0 < x.2) && decide (x.2 < w)).length = R at pos en hr rl
      generalize ((sg.filter fun x => decide (0 < x.2) && decide (x.2 < w)).map sgD) = rows at t3 ar rl
      obtain ⟨yl, yr⟩ := y
      obtain ⟨oy, ry⟩ := hS.ok _ my
      simp at hy
      dsimp only at oy ry
      have t4 : evS (prog.cx k (callF prog k)) s_law_document_4 [some (.loc n), some (.tup (sg.map sgD)), some (.int (w : Int)), some rk, some lv, some (.lst rows), none, none, none, none, none, none, none] h = .nx [some (.loc n), some (.tup (sg.map sgD)), some (.int (w : Int)), some rk, some lv, some (.lst rows), none, none, none, none, none, none, none] h := by
        have tt : evT (prog.cx k (callF prog k)) (.e (.cmp .eq (.bi .len (.cons (.v 5) .nil)) (.c (.int 0)))) [some (.loc n), some (.tup (sg.map sgD)), some (.int (w : Int)), some rk, some lv, some (.lst rows), none, none, none, none, none, none, none] h = .ok false h := by
          have d : decide ((rows.length : Int) = 0) = false := decide_eq_false (by omega)
          simp only [d, evSs, evS, evE, evL, evT, evTA, evTO, evF, evSrc, evO, evAnd, evOr, asgT, asgTs, cx_glob, cx_call, shal_int, shal_str, shal_tup, shal_lst, shal_non, shal_bl, bin_addi, bin_subi, bin_addt, bin_addl, bin_adds, bin_mod, bin_div, cmp_lt, cmp_le, cmp_gt, cmp_ge, cmp_eqi, cmp_nei, cmp_eqs, cmp_nes, cmp_ins, cmp_nins, cmp_isn, cmp_isns, item_tup, item_lst, bi_lens, bi_lent, bi_lenl, bi_int, bi_intb, bi_abs, bi_max2, bi_tuplel, bi_tuplet, itD, slice, seqD, pure_non, pure_bl, pure_int, pure_str, pure_tup, pure_lst, pures_nil, pures_cons, startF, List.replicate, List.length_cons, List.length_nil, List.set_cons_zero, List.set_cons_succ, List.getElem?_cons_zero, List.getElem?_cons_succ, List.getElem?_nil, Nat.zero_add, Nat.reduceAdd, Nat.reduceSub, Nat.reduceLT, Nat.reduceLeDiff, if_true, Bool.not_true, Bool.not_false, List.map_cons, List.map_nil, List.cons_append, List.nil_append, reduceIte, and_self, and_true, true_and, decide_true, decide_false, Bool.true_and, Bool.and_true, Bool.false_and, Bool.and_false, fin_non, fin_bl, fin_int, fin_str, finX_same', gt_iff_lt, Nat.lt_add_one, Bool.false_eq_true]
        rw [s_law_document_4, evS_ite tt, if_neg (by decide), sq_nil]
      have t5 : evS (prog.cx k (callF prog k)) s_law_document_5 [some (.loc n), some (.tup (sg.map sgD)), some (.int (w : Int)), some rk, some lv, some (.lst rows), none, none, none, none, none, none, none] h = .nx [some (.loc n), some (.tup (sg.map sgD)), some (.int (w : Int)), some rk, some lv, some (.lst rows), none, none, none, some (.str yl), some (.int (yr : Int)), none, none] (h.set n (stB is (c + 1))) := by
        simp only [s_law_document_5, rl, en, ar, sgD, evSs, evS, evE, evL, evT, evTA, evTO, evF, evSrc, evO, evAnd, evOr, asgT, asgTs, cx_glob, cx_call, shal_int, shal_str, shal_tup, shal_lst, shal_non, shal_bl, bin_addi, bin_subi, bin_addt, bin_addl, bin_adds, bin_mod, bin_div, cmp_lt, cmp_le, cmp_gt, cmp_ge, cmp_eqi, cmp_nei, cmp_eqs, cmp_nes, cmp_ins, cmp_nins, cmp_isn, cmp_isns, item_tup, item_lst, bi_lens, bi_lent, bi_lenl, bi_int, bi_intb, bi_abs, bi_max2, bi_tuplel, bi_tuplet, itD, slice, seqD, pure_non, pure_bl, pure_int, pure_str, pure_tup, pure_lst, pures_nil, pures_cons, startF, List.replicate, List.length_cons, List.length_nil, List.set_cons_zero, List.set_cons_succ, List.getElem?_cons_zero, List.getElem?_cons_succ, List.getElem?_nil, Nat.zero_add, Nat.reduceAdd, Nat.reduceSub, Nat.reduceLT, Nat.reduceLeDiff, if_true, Bool.not_true, Bool.not_false, List.map_cons, List.map_nil, List.cons_append, List.nil_append, reduceIte, and_self, and_true, true_and, decide_true, decide_false, Bool.true_and, Bool.and_true, Bool.false_and, Bool.and_false, fin_non, fin_bl, fin_int, fin_str, finX_same', gt_iff_lt, Nat.lt_add_one, Bool.false_eq_true]
      have wl : (w : Int) - 1 = ((w - 1 : Nat) : Int) := by omega
      have t6 : evS (prog.cx k (callF prog k)) s_law_document_6 [some (.loc n), some (.tup (sg.map sgD)), some (.int (w : Int)), some rk, some lv, some (.lst rows), none, none, none, some (.str yl), some (.int (yr : Int)), none, none] (h.set n (stB is (c + 1))) = .nx [some (.loc n), some (.tup (sg.map sgD)), some (.int (w : Int)), some rk, some lv, some (.lst rows), some (.int ((w - 1 : Nat) : Int)), none, none, some (.str yl), some (.int (yr : Int)), none, none] (h.set n (stB is (c + 1))) := by
        simp only [s_law_document_6, wl, evSs, evS, evE, evL, evT, evTA, evTO, evF, evSrc, evO, evAnd, evOr, asgT, asgTs, cx_glob, cx_call, shal_int, shal_str, shal_tup, shal_lst, shal_non, shal_bl, bin_addi, bin_subi, bin_addt, bin_addl, bin_adds, bin_mod, bin_div, cmp_lt, cmp_le, cmp_gt, cmp_ge, cmp_eqi, cmp_nei, cmp_eqs, cmp_nes, cmp_ins, cmp_nins, cmp_isn, cmp_isns, item_tup, item_lst, bi_lens, bi_lent, bi_lenl, bi_int, bi_intb, bi_abs, bi_max2, bi_tuplel, bi_tuplet, itD, slice, seqD, pure_non, pure_bl, pure_int, pure_str, pure_tup, pure_lst, pures_nil, pures_cons, startF, List.replicate, List.length_cons, List.length_nil, List.set_cons_zero, List.set_cons_succ, List.getElem?_cons_zero, List.getElem?_cons_succ, List.getElem?_nil, Nat.zero_add, Nat.reduceAdd, Nat.reduceSub, Nat.reduceLT, Nat.reduceLeDiff, if_true, Bool.not_true, Bool.not_false, List.map_cons, List.map_nil, List.cons_append, List.nil_append, reduceIte, and_self, and_true, true_and, decide_true, decide_false, Bool.true_and, Bool.and_true, Bool.false_and, Bool.and_false, fin_non, fin_bl, fin_int, fin_str, finX_same', gt_iff_lt, Nat.lt_add_one, Bool.false_eq_true]
      have t7 : evS (prog.cx k (callF prog k)) s_law_document_7 [some (.loc n), some (.tup (sg.map sgD)), some (.int (w : Int)), some rk, some lv, some (.lst rows), some (.int ((w - 1 : Nat) : Int)), none, none, some (.str yl), some (.int (yr : Int)), none, none] (h.set n (stB is (c + 1))) = .nx [some (.loc n), some (.tup (sg.map sgD)), some (.int (w : Int)), some rk, some lv, some (.lst rows), some (.int ((w - 1 : Nat) : Int)), some (.loc h.length), none, some (.str yl), some (.int (yr : Int)), none, none] (h.set n (stB is (c + 1)) ++ [.box (.lst [])]) := by
        have l0 : 0 ≤ LIM := by decide
        have sl : (h.set n (stB is (c + 1))).length = h.length := set_len
        simp only [s_law_document_7, l0, sl, evSs, evS, evE, evL, evT, evTA, evTO, evF, evSrc, evO, evAnd, evOr, asgT, asgTs, cx_glob, cx_call, shal_int, shal_str, shal_tup, shal_lst, shal_non, shal_bl, bin_addi, bin_subi, bin_addt, bin_addl, bin_adds, bin_mod, bin_div, cmp_lt, cmp_le, cmp_gt, cmp_ge, cmp_eqi, cmp_nei, cmp_eqs, cmp_nes, cmp_ins, cmp_nins, cmp_isn, cmp_isns, item_tup, item_lst, bi_lens, bi_lent, bi_lenl, bi_int, bi_intb, bi_abs, bi_max2, bi_tuplel, bi_tuplet, itD, slice, seqD, pure_non, pure_bl, pure_int, pure_str, pure_tup, pure_lst, pures_nil, pures_cons, startF, List.replicate, List.length_cons, List.length_nil, List.set_cons_zero, List.set_cons_succ, List.getElem?_cons_zero, List.getElem?_cons_succ, List.getElem?_nil, Nat.zero_add, Nat.reduceAdd, Nat.reduceSub, Nat.reduceLT, Nat.reduceLeDiff, if_true, Bool.not_true, Bool.not_false, List.map_cons, List.map_nil, List.cons_append, List.nil_append, reduceIte, and_self, and_true, true_and, decide_true, decide_false, Bool.true_and, Bool.and_true, Bool.false_and, Bool.and_false, fin_non, fin_bl, fin_int, fin_str, finX_same', gt_iff_lt, Nat.lt_add_one, Bool.false_eq_true]
      obtain ⟨ks, left', c', o8', o11', er, k1, k2, k3, k4, k5⟩ := document_loop k ihk n is sg w yr yl rk lv (.lst rows) h hn hI hS (by omega) w2 yr 0 (w - 1) (c + 1) [] none none (by omega) (by omega) (by omega) (by simp; omega) (by omega)
      have ea : evL (prog.cx k (callF prog k)) (.cons (.v 10) .nil) [some (.loc n), some (.tup (sg.map sgD)), some (.int (w : Int)), some rk, some lv, some (.lst rows), some (.int ((w - 1 : Nat) : Int)), some (.loc h.length), none, some (.str yl), some (.int (yr : Int)), none, none] (h.set n (stB is (c + 1)) ++ [.box (.lst [])]) = .ok [.int (yr : Int)] (h.set n (stB is (c + 1)) ++ [.box (.lst [])]) := ev_cons (ev_v rfl) ev_nil
      have t8 := (evS_for (evSrc_rng ea (rng_len (n := yr) (by omega)))).trans er
      rw [List.nil_append] at t8
      refine ⟨.mk yl ks, c', ?_, by omega, by omega, by rw [okd, oy, k2]; simp; omega, by rw [sz]; omega⟩
      have hsh : shal (h.set n (stB is c') ++ [.box (.lst (encs ks))]) (.loc h.length) = .lst (encs ks) := shal_box (g1 (by rw [set_len]))
      have tup : biF .tuple_ [.loc h.length] (h.set n (stB is c') ++ [.box (.lst (encs ks))]) = some (.tup (encs ks)) := bi_tupleb (g1 (by rw [set_len]))
      have l1 : 1 ≤ LIM := by decide
      have ln : 1 + (encs ks).length ≤ LIM := lim_lt (by rw [encs_len]; omega)
      refine st_nx t0 (st_nx t1 (st_nx t2 (st_nx t3 (st_nx t4 (st_nx t5 (st_nx t6 (st_nx t7 (st_nx t8 (st_rt (d := enc (.mk yl ks)) (h1 := h.set n (stB is c') ++ [.box (.lst (encs ks))]) ?_ ?_)))))))))
      · rw [show enc (.mk yl ks) = .tup (.str yl :: encs ks) from by rw [enc]]
        simp only [s_law_document_9, tup, l1, ln, evSs, evS, evE, evL, evT, evTA, evTO, evF, evSrc, evO, evAnd, evOr, asgT, asgTs, cx_glob, cx_call, shal_int, shal_str, shal_tup, shal_lst, shal_non, shal_bl, bin_addi, bin_subi, bin_addt, bin_addl, bin_adds, bin_mod, bin_div, cmp_lt, cmp_le, cmp_gt, cmp_ge, cmp_eqi, cmp_nei, cmp_eqs, cmp_nes, cmp_ins, cmp_nins, cmp_isn, cmp_isns, item_tup, item_lst, bi_lens, bi_lent, bi_lenl, bi_int, bi_intb, bi_abs, bi_max2, bi_tuplel, bi_tuplet, itD, slice, seqD, pure_non, pure_bl, pure_int, pure_str, pure_tup, pure_lst, pures_nil, pures_cons, startF, List.replicate, List.length_cons, List.length_nil, List.set_cons_zero, List.set_cons_succ, List.getElem?_cons_zero, List.getElem?_cons_succ, List.getElem?_nil, Nat.zero_add, Nat.reduceAdd, Nat.reduceSub, Nat.reduceLT, Nat.reduceLeDiff, if_true, Bool.not_true, Bool.not_false, List.map_cons, List.map_nil, List.cons_append, List.nil_append, reduceIte, and_self, and_true, true_and, decide_true, decide_false, Bool.true_and, Bool.and_true, Bool.false_and, Bool.and_false, fin_non, fin_bl, fin_int, fin_str, finX_same', gt_iff_lt, Nat.lt_add_one, Bool.false_eq_true]
      · exact fin_set (D.pure_ok _ _ (enc_pure _)) (okB_box (by rw [pures_cons, pure_lst, ints_pure]; rfl))
end K21
end
section
set_option Elab.async false
set_option autoImplicit false
set_option maxRecDepth 100000
set_option linter.all false
/-! N13: documents of an exact size; the law's signs. -/
namespace K21
open Ev
def ex : Nat → Nat → Doc
  | 0, _ => .mk [97] []
  | f + 1, n => if n = 1 then .mk [97] [] else if n < 4 then .mk [103] [ex f (n - 1)] else .mk [102] [ex f ((n - 1) / 3), ex f ((n - 1) / 3), ex f (n - 1 - 2 * ((n - 1) / 3))]
theorem ex_same : ∀ (f f' n : Nat), 1 ≤ n → n ≤ f → n ≤ f' → ex f n = ex f' n
  | 0, _, n, h1, h2, _ => by omega
  | f + 1, 0, n, h1, _, h3 => by omega
  | f + 1, f' + 1, n, h1, h2, h3 => by
    rw [ex, ex]
    split
    · rfl
    · split
      · rw [ex_same f f' (n - 1) (by omega) (by omega) (by omega)]
      · rw [ex_same f f' ((n - 1) / 3) (by omega) (by omega) (by omega), ex_same f f' (n - 1 - 2 * ((n - 1) / 3)) (by omega) (by omega) (by omega)]
theorem ex_sz : ∀ (f n : Nat), 1 ≤ n → n ≤ f → sz (ex f n) = n
  | 0, n, h1, h2 => by omega
  | f + 1, n, h1, h2 => by
    rw [ex]
    split
    · simp [sz, szs]; omega
    · split
      · have := ex_sz f (n - 1) (by omega) (by omega)
        simp only [sz, szs, this]
        omega
      · have a := ex_sz f ((n - 1) / 3) (by omega) (by omega)
        have b := ex_sz f (n - 1 - 2 * ((n - 1) / 3)) (by omega) (by omega)
        simp only [sz, szs, a, b]
        omega
theorem ex_ok : ∀ (f n : Nat), okd (ex f n) = true
  | 0, n => by rw [ex]; decide
  | f + 1, n => by
    have l1 : lab [103] = true := by decide
    have l2 : lab [102] = true := by decide
    rw [ex]
    split
    · decide
    · split
      · rw [okd, okds, ex_ok f, okds, l1]; rfl
      · rw [okd, okds, okds, okds, ex_ok f, ex_ok f, okds, l2]; rfl
theorem ex_dp (j : Nat) : ∀ (f n : Nat), 1 ≤ n → n ≤ f → n ≤ 3 * 2 ^ j → dp (ex f n) ≤ j + 2 := by
  induction j with
  | zero =>
    intro f n h1 h2 h
    have a := ex_sz f n h1 h2
    have b := dp_sz (ex f n)
    rw [Nat.pow_zero] at h
    omega
  | succ j ih =>
    intro f n h1 h2 h
    rw [Nat.pow_succ] at h
    have p : 1 ≤ 2 ^ j := Nat.one_le_two_pow
    match f with
    | 0 => omega
    | f + 1 =>
      rw [ex]
      split
      · exact Nat.le_trans (by decide : dp (.mk [97] []) ≤ 0) (Nat.zero_le _)
      · split
        · have := ih f (n - 1) (by omega) (by omega) (by omega)
          simp only [dp, dps]
          omega
        · have a := ih f ((n - 1) / 3) (by omega) (by omega) (by omega)
          have b := ih f (n - 1 - 2 * ((n - 1) / 3)) (by omega) (by omega) (by omega)
          simp only [dp, dps]
          omega
theorem law_exact_ok (k : Nat) : ∀ (n : Nat) (h : Mem), 1 ≤ n → n ≤ k → n ≤ 1000 → callF prog k i_law_exact [.int (n : Int)] h = .ok (enc (ex k n)) h := by
  induction k with
  | zero => intro n h h1 h2; omega
  | succ k ihk =>
    intro n h h1 h2 h3
    rw [callF_out d_law_exact rfl ⟨rfl, by decide⟩, d_law_exact, ex]
    have l1 : 1 ≤ LIM := by decide
    have l2 : 2 ≤ LIM := by decide
    have l4 : 4 ≤ LIM := by decide
    have fr0 : startF 2 [.int (n : Int)] = [some (.int (n : Int)), none] := rfl
    by_cases z1 : n = 1
    · rw [if_pos z1]
      subst z1
      refine st_rt (d := enc (.mk [97] [])) (h1 := h) ?_ (fin_pure (enc_pure _))
      have d : decide (((1 : Nat) : Int) = 1) = true := by decide
      simp only [enc, encs, l1, d, evSs, evS, evE, evL, evT, evTA, evTO, evF, evSrc, evO, evAnd, evOr, asgT, asgTs, cx_glob, cx_call, shal_int, shal_str, shal_tup, shal_lst, shal_non, shal_bl, bin_addi, bin_subi, bin_addt, bin_addl, bin_adds, bin_mod, bin_div, cmp_lt, cmp_le, cmp_gt, cmp_ge, cmp_eqi, cmp_nei, cmp_eqs, cmp_nes, cmp_ins, cmp_nins, cmp_isn, cmp_isns, item_tup, item_lst, bi_lens, bi_lent, bi_lenl, bi_int, bi_intb, bi_abs, bi_max2, bi_tuplel, bi_tuplet, itD, slice, seqD, pure_non, pure_bl, pure_int, pure_str, pure_tup, pure_lst, pures_nil, pures_cons, startF, List.replicate, List.length_cons, List.length_nil, List.set_cons_zero, List.set_cons_succ, List.getElem?_cons_zero, List.getElem?_cons_succ, List.getElem?_nil, Nat.zero_add, Nat.reduceAdd, Nat.reduceSub, Nat.reduceLT, Nat.reduceLeDiff, if_true, Bool.not_true, Bool.not_false, List.map_cons, List.map_nil, List.cons_append, List.nil_append, reduceIte, and_self, and_true, true_and, decide_true, decide_false, Bool.true_and, Bool.and_true, Bool.false_and, Bool.and_false, fin_non, fin_bl, fin_int, fin_str, finX_same', gt_iff_lt, Nat.lt_add_one, Bool.false_eq_true]
    · rw [if_neg z1]
      have t0 : evS (prog.cx k (callF prog k)) (.ite (.e (.cmp .eq (.v 0) (.c (.int 1)))) (.cons (.ret (.tup (.cons (.c (.str [97])) .nil))) .nil) .nil) [some (.int (n : Int)), none] h = .nx [some (.int (n : Int)), none] h := by
        have d : decide ((n : Int) = 1) = false := decide_eq_false (by omega)
        simp only [d, evSs, evS, evE, evL, evT, evTA, evTO, evF, evSrc, evO, evAnd, evOr, asgT, asgTs, cx_glob, cx_call, shal_int, shal_str, shal_tup, shal_lst, shal_non, shal_bl, bin_addi, bin_subi, bin_addt, bin_addl, bin_adds, bin_mod, bin_div, cmp_lt, cmp_le, cmp_gt, cmp_ge, cmp_eqi, cmp_nei, cmp_eqs, cmp_nes, cmp_ins, cmp_nins, cmp_isn, cmp_isns, item_tup, item_lst, bi_lens, bi_lent, bi_lenl, bi_int, bi_intb, bi_abs, bi_max2, bi_tuplel, bi_tuplet, itD, slice, seqD, pure_non, pure_bl, pure_int, pure_str, pure_tup, pure_lst, pures_nil, pures_cons, startF, List.replicate, List.length_cons, List.length_nil, List.set_cons_zero, List.set_cons_succ, List.getElem?_cons_zero, List.getElem?_cons_succ, List.getElem?_nil, Nat.zero_add, Nat.reduceAdd, Nat.reduceSub, Nat.reduceLT, Nat.reduceLeDiff, if_true, Bool.not_true, Bool.not_false, List.map_cons, List.map_nil, List.cons_append, List.nil_append, reduceIte, and_self, and_true, true_and, decide_true, decide_false, Bool.true_and, Bool.and_true, Bool.false_and, Bool.and_false, fin_non, fin_bl, fin_int, fin_str, finX_same', gt_iff_lt, Nat.lt_add_one, Bool.false_eq_true]
      by_cases z2 : n < 4
      · rw [if_pos z2]
        have call := ihk (n - 1) h (by omega) (by omega) (by omega)
        have en : ((n - 1 : Nat) : Int) = (n : Int) - 1 := by omega
        rw [en] at call
        refine st_nx t0 (st_rt (d := enc (.mk [103] [ex k (n - 1)])) (h1 := h) ?_ (fin_pure (enc_pure _)))
        have d : decide ((n : Int) < 4) = true := decide_eq_true (by omega)
        rw [show enc (.mk [103] [ex k (n - 1)]) = .tup [.str [103], enc (ex k (n - 1))] from by rw [enc, encs, encs]]
        simp only [l2, d, call, evSs, evS, evE, evL, evT, evTA, evTO, evF, evSrc, evO, evAnd, evOr, asgT, asgTs, cx_glob, cx_call, shal_int, shal_str, shal_tup, shal_lst, shal_non, shal_bl, bin_addi, bin_subi, bin_addt, bin_addl, bin_adds, bin_mod, bin_div, cmp_lt, cmp_le, cmp_gt, cmp_ge, cmp_eqi, cmp_nei, cmp_eqs, cmp_nes, cmp_ins, cmp_nins, cmp_isn, cmp_isns, item_tup, item_lst, bi_lens, bi_lent, bi_lenl, bi_int, bi_intb, bi_abs, bi_max2, bi_tuplel, bi_tuplet, itD, slice, seqD, pure_non, pure_bl, pure_int, pure_str, pure_tup, pure_lst, pures_nil, pures_cons, startF, List.replicate, List.length_cons, List.length_nil, List.set_cons_zero, List.set_cons_succ, List.getElem?_cons_zero, List.getElem?_cons_succ, List.getElem?_nil, Nat.zero_add, Nat.reduceAdd, Nat.reduceSub, Nat.reduceLT, Nat.reduceLeDiff, if_true, Bool.not_true, Bool.not_false, List.map_cons, List.map_nil, List.cons_append, List.nil_append, reduceIte, and_self, and_true, true_and, decide_true, decide_false, Bool.true_and, Bool.and_true, Bool.false_and, Bool.and_false, fin_non, fin_bl, fin_int, fin_str, finX_same', gt_iff_lt, Nat.lt_add_one, Bool.false_eq_true]
      · rw [if_neg z2]
        have c1 := ihk ((n - 1) / 3) h (by omega) (by omega) (by omega)
        have c2 := ihk (n - 1 - 2 * ((n - 1) / 3)) h (by omega) (by omega) (by omega)
        have m2 : binop .mul (.int 2) (.int (((n - 1) / 3 : Nat) : Int)) = some (.int (2 * (((n - 1) / 3 : Nat) : Int))) := mul_l (by decide)
        have e2 : (n : Int) - 1 - 2 * (((n - 1) / 3 : Nat) : Int) = ((n - 1 - 2 * ((n - 1) / 3) : Nat) : Int) := by omega
        have e1 : ((n : Int) - 1) / 3 = (((n - 1) / 3 : Nat) : Int) := by omega
        have p3 : (0 : Int) < 3 ∧ (3 : Int) < 1073741824 := by decide
        have t1 : evS (prog.cx k (callF prog k)) (.ite (.e (.cmp .lt (.v 0) (.c (.int 4)))) (.cons (.ret (.tup (.cons (.c (.str [103])) (.cons (.call 20 (.cons (.bin .sub (.v 0) (.c (.int 1))) .nil)) .nil)))) .nil) .nil) [some (.int (n : Int)), none] h = .nx [some (.int (n : Int)), none] h := by
          have d : decide ((n : Int) < 4) = false := decide_eq_false (by omega)
          simp only [d, evSs, evS, evE, evL, evT, evTA, evTO, evF, evSrc, evO, evAnd, evOr, asgT, asgTs, cx_glob, cx_call, shal_int, shal_str, shal_tup, shal_lst, shal_non, shal_bl, bin_addi, bin_subi, bin_addt, bin_addl, bin_adds, bin_mod, bin_div, cmp_lt, cmp_le, cmp_gt, cmp_ge, cmp_eqi, cmp_nei, cmp_eqs, cmp_nes, cmp_ins, cmp_nins, cmp_isn, cmp_isns, item_tup, item_lst, bi_lens, bi_lent, bi_lenl, bi_int, bi_intb, bi_abs, bi_max2, bi_tuplel, bi_tuplet, itD, slice, seqD, pure_non, pure_bl, pure_int, pure_str, pure_tup, pure_lst, pures_nil, pures_cons, startF, List.replicate, List.length_cons, List.length_nil, List.set_cons_zero, List.set_cons_succ, List.getElem?_cons_zero, List.getElem?_cons_succ, List.getElem?_nil, Nat.zero_add, Nat.reduceAdd, Nat.reduceSub, Nat.reduceLT, Nat.reduceLeDiff, if_true, Bool.not_true, Bool.not_false, List.map_cons, List.map_nil, List.cons_append, List.nil_append, reduceIte, and_self, and_true, true_and, decide_true, decide_false, Bool.true_and, Bool.and_true, Bool.false_and, Bool.and_false, fin_non, fin_bl, fin_int, fin_str, finX_same', gt_iff_lt, Nat.lt_add_one, Bool.false_eq_true]
        have t2 : evS (prog.cx k (callF prog k)) (.asg (.nm 1) (.bin .fdiv (.bin .sub (.v 0) (.c (.int 1))) (.c (.int 3)))) [some (.int (n : Int)), none] h = .nx [some (.int (n : Int)), some (.int (((n - 1) / 3 : Nat) : Int))] h := by
          simp only [e1, p3, evSs, evS, evE, evL, evT, evTA, evTO, evF, evSrc, evO, evAnd, evOr, asgT, asgTs, cx_glob, cx_call, shal_int, shal_str, shal_tup, shal_lst, shal_non, shal_bl, bin_addi, bin_subi, bin_addt, bin_addl, bin_adds, bin_mod, bin_div, cmp_lt, cmp_le, cmp_gt, cmp_ge, cmp_eqi, cmp_nei, cmp_eqs, cmp_nes, cmp_ins, cmp_nins, cmp_isn, cmp_isns, item_tup, item_lst, bi_lens, bi_lent, bi_lenl, bi_int, bi_intb, bi_abs, bi_max2, bi_tuplel, bi_tuplet, itD, slice, seqD, pure_non, pure_bl, pure_int, pure_str, pure_tup, pure_lst, pures_nil, pures_cons, startF, List.replicate, List.length_cons, List.length_nil, List.set_cons_zero, List.set_cons_succ, List.getElem?_cons_zero, List.getElem?_cons_succ, List.getElem?_nil, Nat.zero_add, Nat.reduceAdd, Nat.reduceSub, Nat.reduceLT, Nat.reduceLeDiff, if_true, Bool.not_true, Bool.not_false, List.map_cons, List.map_nil, List.cons_append, List.nil_append, reduceIte, and_self, and_true, true_and, decide_true, decide_false, Bool.true_and, Bool.and_true, Bool.false_and, Bool.and_false, fin_non, fin_bl, fin_int, fin_str, finX_same', gt_iff_lt, Nat.lt_add_one, Bool.false_eq_true]
        refine st_nx t0 (st_nx t1 (st_nx t2 (st_rt (d := enc (.mk [102] [ex k ((n - 1) / 3), ex k ((n - 1) / 3), ex k (n - 1 - 2 * ((n - 1) / 3))])) (h1 := h) ?_ (fin_pure (enc_pure _)))))
        generalize (n - 1) / 3 = t at c1 c2 m2 e2 ⊢
        generalize ex k t = x1 at c1 ⊢
        generalize n - 1 - 2 * t = u at c2 e2 ⊢
        generalize ex k u = x2 at c2 ⊢
        rw [show enc (.mk [102] [x1, x1, x2]) = .tup [.str [102], enc x1, enc x1, enc x2] from by rw [enc, encs, encs, encs, encs]]
        simp only [l4, m2, e2, c1, c2, evSs, evS, evE, evL, evT, evTA, evTO, evF, evSrc, evO, evAnd, evOr, asgT, asgTs, cx_glob, cx_call, shal_int, shal_str, shal_tup, shal_lst, shal_non, shal_bl, bin_addi, bin_subi, bin_addt, bin_addl, bin_adds, bin_mod, bin_div, cmp_lt, cmp_le, cmp_gt, cmp_ge, cmp_eqi, cmp_nei, cmp_eqs, cmp_nes, cmp_ins, cmp_nins, cmp_isn, cmp_isns, item_tup, item_lst, bi_lens, bi_lent, bi_lenl, bi_int, bi_intb, bi_abs, bi_max2, bi_tuplel, bi_tuplet, itD, slice, seqD, pure_non, pure_bl, pure_int, pure_str, pure_tup, pure_lst, pures_nil, pures_cons, startF, List.replicate, List.length_cons, List.length_nil, List.set_cons_zero, List.set_cons_succ, List.getElem?_cons_zero, List.getElem?_cons_succ, List.getElem?_nil, Nat.zero_add, Nat.reduceAdd, Nat.reduceSub, Nat.reduceLT, Nat.reduceLeDiff, if_true, Bool.not_true, Bool.not_false, List.map_cons, List.map_nil, List.cons_append, List.nil_append, reduceIte, and_self, and_true, true_and, decide_true, decide_false, Bool.true_and, Bool.and_true, Bool.false_and, Bool.and_false, fin_non, fin_bl, fin_int, fin_str, finX_same', gt_iff_lt, Nat.lt_add_one, Bool.false_eq_true]
end K21
namespace K21
open Ev
theorem sgD_inj {x y : Sg} (h : sgD x = sgD y) : x = y := by
  obtain ⟨a, b⟩ := x
  obtain ⟨c, d⟩ := y
  unfold sgD at h
  injection h with h
  injection h with h1 h2
  injection h1 with h1
  injection h2 with h2
  injection h2 with h2
  simp only at h1 h2
  subst h1
  have : b = d := by omega
  rw [this]
theorem sg_list : ∀ {ys : List D} {sg : List Sg}, (∀ y ∈ ys, y ∈ sg.map sgD) → ∃ sg' : List Sg, ys = sg'.map sgD ∧ ∀ x ∈ sg', x ∈ sg
  | [], sg, _ => ⟨[], rfl, fun _ h => by cases h⟩
  | y :: ys, sg, h => by
    obtain ⟨x, hx, e⟩ := List.mem_map.mp (h y List.mem_cons_self)
    obtain ⟨sg', e', m⟩ := sg_list (ys := ys) (sg := sg) fun z hz => h z (List.mem_cons_of_mem _ hz)
    refine ⟨x :: sg', by rw [List.map_cons, e, ← e'], ?_⟩
    intro z hz
    rcases List.mem_cons.mp hz with q | q
    · subst q; exact hx
    · exact m z q
theorem sg_sort {sg : List Sg} (hS : Sgs sg) : ∃ sg' : List Sg, sortD (sg.map sgD) = sg'.map sgD ∧ Sgs sg' := by
  have pm : (sortD (sg.map sgD)).Perm (sg.map sgD) := List.mergeSort_perm ..
  obtain ⟨sg', e, m⟩ := sg_list (ys := sortD (sg.map sgD)) (sg := sg) fun y hy => pm.mem_iff.mp hy
  have back : ∀ x ∈ sg, x ∈ sg' := by
    intro x hx
    have := pm.mem_iff.mpr (List.mem_map.mpr ⟨x, hx, rfl⟩)
    rw [e] at this
    obtain ⟨y, hy, q⟩ := List.mem_map.mp this
    rw [← sgD_inj q]
    exact hy
  obtain ⟨l0, m0⟩ := hS.leaf
  obtain ⟨l1, m1⟩ := hS.one
  refine ⟨sg', e, ?_, fun x hx => hS.ok x (m x hx), ⟨l0, back _ m0⟩, ⟨l1, back _ m1⟩⟩
  have := pm.length_eq
  rw [e, List.length_map, List.length_map] at this
  rw [this]
  exact hS.len
theorem sg_pures : ∀ sg : List Sg, D.pures (sg.map sgD) = true
  | [] => rfl
  | x :: sg => by rw [List.map_cons, pures_cons, sg_pures sg]; rfl
theorem sg_deps : ∀ sg : List Sg, D.deps (sg.map sgD) ≤ 1
  | [] => Nat.zero_le _
  | x :: sg => by
    have := sg_deps sg
    rw [List.map_cons, D.deps]
    have e : (sgD x).dep = 1 := rfl
    omega
theorem sg_can (sg : List Sg) : canSort (sg.map sgD) = true := by
  unfold canSort
  have h1 : (sg.map sgD).all (fun a => (sg.map sgD).all fun b => a.alike b) = true := by
    rw [List.all_eq_true]
    intro a ha
    rw [List.all_eq_true]
    intro b hb
    obtain ⟨x, _, e1⟩ := List.mem_map.mp ha
    obtain ⟨y, _, e2⟩ := List.mem_map.mp hb
    subst e1; subst e2
    rfl
  have h2 : (sg.map sgD).all (fun a => match a with | .tup (_ :: _) => true | _ => false) = true := by
    rw [List.all_eq_true]
    intro a ha
    obtain ⟨x, _, e1⟩ := List.mem_map.mp ha
    subst e1
    rfl
  have h3 : decide (D.deps (sg.map sgD) ≤ 60) = true := decide_eq_true (Nat.le_trans (sg_deps sg) (by decide))
  rw [sg_pures, h1, h3, Bool.true_and, Bool.true_and, Bool.true_and, Bool.or_eq_true]
  exact .inl h2
/-- one more sign, or not -/
theorem sign_turn (k : Nat) (hk : 1 ≤ k) {h : Mem} {n : Nat} {is : List Int} {c : Nat} (hn : n < h.length) (hI : Is is) (hc : c < 2 ^ 60) (m : Nat) (hm : 0 < m) (sg : List Sg) (hl : sg.length ≤ 100) (l : List Nat) (r : Nat) (ri : Int) (er : ri = (r : Int)) :
    ∃ sg' : List Sg, (sg' = sg ∨ sg' = sg ++ [(l, r)]) ∧ evS (prog.cx k (callF prog k)) (.ite (.e (.cmp .eq (.call 15 (.cons (.v 0) (.cons (.c (.int (m : Int))) .nil))) (.c (.int 0)))) (.cons (.expr (.mt .append (.v 1) (.cons (.tup (.cons (.c (.str l)) (.cons (.c (.int ri)) .nil))) .nil))) .nil) .nil) [some (.loc n), some (.loc h.length)] (h.set n (stB is c) ++ [.box (.lst (sg.map sgD))]) =
      .nx [some (.loc n), some (.loc h.length)] (h.set n (stB is (c + 1)) ++ [.box (.lst (sg'.map sgD))]) := by
  subst er
  obtain ⟨v, _, en⟩ := nx_ok hk hI (hg (t := [.box (.lst (sg.map sgD))]) (a := stB is c) hn) hc hm
  rw [hs hn] at en
  have hN : (h.set n (stB is (c + 1))).length = h.length := set_len
  have tt : evT (prog.cx k (callF prog k)) (.e (.cmp .eq (.call 15 (.cons (.v 0) (.cons (.c (.int (m : Int))) .nil))) (.c (.int 0)))) [some (.loc n), some (.loc h.length)] (h.set n (stB is c) ++ [.box (.lst (sg.map sgD))]) = .ok (decide ((v : Int) = 0)) (h.set n (stB is (c + 1)) ++ [.box (.lst (sg.map sgD))]) :=
    evT_e (ev_cmp (evE_callx (ev_cons (ev_v rfl) (ev_cons (ev_c rfl) ev_nil)) en) (ev_c rfl) cmp_eqi)
  by_cases z : (v : Int) = 0
  · rw [decide_eq_true z] at tt
    refine ⟨sg ++ [(l, r)], .inr rfl, ?_⟩
    rw [evS_ite tt, if_pos rfl]
    have la : (sg.map sgD).length < LIM := lim_lt' (by rw [List.length_map]; omega)
    refine sq_nx (evS_expr (ev_mt (ev_v rfl) (g1 hN) (ev_cons (ev_tup (ev_cons (ev_c rfl) (ev_cons (ev_c rfl) ev_nil)) (by show 2 ≤ LIM; decide)) ev_nil) (mt_append (g1 hN) la))) ?_
    rw [s1 hN, sq_nil, List.map_append]
    rfl
  · rw [decide_eq_false z] at tt
    refine ⟨sg, .inl rfl, ?_⟩
    rw [evS_ite tt, if_neg (by decide), sq_nil]
theorem law_signs_ok (k : Nat) (hk : 1 ≤ k) {h : Mem} {n : Nat} {is : List Int} {c : Nat} (hI : Is is) (e : h[n]? = some (stB is c)) (hc : c + 3 < 2 ^ 60) : ∃ sg : List Sg, Sgs sg ∧ callF prog (k + 1) i_law_small_signs [.loc n] h = .ok (.tup (sg.map sgD)) (h.set n (stB is (c + 3))) := by
  rw [callF_out d_law_small_signs rfl ⟨rfl, by decide⟩, d_law_small_signs]
  have hn := get_lt e
  have hh : h.set n (stB is c) = h := set_same e
  have l2 : 2 ≤ LIM := by decide
  obtain ⟨s1', q1, t1⟩ := sign_turn k hk hn hI (c := c) (by omega) 2 (by decide) [([97], 0), ([103], 1)] (by decide) [102] 2 2 rfl
  have b1 : s1'.length ≤ 3 := by rcases q1 with z | z <;> subst z <;> decide
  obtain ⟨s2', q2, t2⟩ := sign_turn k hk hn hI (c := c + 1) (by omega) 2 (by decide) s1' (by omega) [98] 0 0 rfl
  have b2 : s2'.length ≤ 4 := by rcases q2 with z | z <;> rw [z] <;> (try rw [List.length_append]) <;> (try rw [List.length_singleton]) <;> omega
  obtain ⟨s3', q3, t3⟩ := sign_turn k hk hn hI (c := c + 2) (by omega) 4 (by decide) s2' (by omega) [104] 3 3 rfl
  have b3 : s3'.length ≤ 5 := by rcases q3 with z | z <;> rw [z] <;> (try rw [List.length_append]) <;> (try rw [List.length_singleton]) <;> omega
  rw [hh] at t1
  have hS : Sgs s3' := by
    have o1 : lab [97] = true := by decide
    have o2 : lab [103] = true := by decide
    have o3 : lab [102] = true := by decide
    have o4 : lab [98] = true := by decide
    have o5 : lab [104] = true := by decide
    have g1' : (∀ x ∈ s1', lab x.1 = true ∧ x.2 ≤ 3) ∧ ([97], 0) ∈ s1' ∧ ([103], 1) ∈ s1' := by
      rcases q1 with z | z <;> subst z <;> simp [o1, o2, o3]
    have g2' : (∀ x ∈ s2', lab x.1 = true ∧ x.2 ≤ 3) ∧ ([97], 0) ∈ s2' ∧ ([103], 1) ∈ s2' := by
      rcases q2 with z | z
      · subst z; exact g1'
      · subst z
        refine ⟨fun x hx => ?_, List.mem_append_left _ g1'.2.1, List.mem_append_left _ g1'.2.2⟩
        rcases List.mem_append.mp hx with y | y
        · exact g1'.1 x y
        · simp at y; subst y; exact ⟨o4, by decide⟩
    have g3' : (∀ x ∈ s3', lab x.1 = true ∧ x.2 ≤ 3) ∧ ([97], 0) ∈ s3' ∧ ([103], 1) ∈ s3' := by
      rcases q3 with z | z
      · subst z; exact g2'
      · subst z
        refine ⟨fun x hx => ?_, List.mem_append_left _ g2'.2.1, List.mem_append_left _ g2'.2.2⟩
        rcases List.mem_append.mp hx with y | y
        · exact g2'.1 x y
        · simp at y; subst y; exact ⟨o5, by decide⟩
    exact ⟨by omega, g3'.1, ⟨_, g3'.2.1⟩, ⟨_, g3'.2.2⟩⟩
  obtain ⟨sg, es, hSg⟩ := sg_sort hS
  refine ⟨sg, hSg, ?_⟩
  have t0 : evS (prog.cx k (callF prog k)) (.asg (.nm 1) (.nw (.lst (.cons (.tup (.cons (.c (.str [97])) (.cons (.c (.int 0)) .nil))) (.cons (.tup (.cons (.c (.str [103])) (.cons (.c (.int 1)) .nil))) .nil))))) [some (.loc n), none] h = .nx [some (.loc n), some (.loc h.length)] (h ++ [.box (.lst ([([97], 0), ([103], 1)].map sgD))]) := by
    simp only [l2, evSs, evS, evE, evL, evT, evTA, evTO, evF, evSrc, evO, evAnd, evOr, asgT, asgTs, cx_glob, cx_call, shal_int, shal_str, shal_tup, shal_lst, shal_non, shal_bl, bin_addi, bin_subi, bin_addt, bin_addl, bin_adds, bin_mod, bin_div, cmp_lt, cmp_le, cmp_gt, cmp_ge, cmp_eqi, cmp_nei, cmp_eqs, cmp_nes, cmp_ins, cmp_nins, cmp_isn, cmp_isns, item_tup, item_lst, bi_lens, bi_lent, bi_lenl, bi_int, bi_intb, bi_abs, bi_max2, bi_tuplel, bi_tuplet, itD, slice, seqD, pure_non, pure_bl, pure_int, pure_str, pure_tup, pure_lst, pures_nil, pures_cons, startF, List.replicate, List.length_cons, List.length_nil, List.set_cons_zero, List.set_cons_succ, List.getElem?_cons_zero, List.getElem?_cons_succ, List.getElem?_nil, Nat.zero_add, Nat.reduceAdd, Nat.reduceSub, Nat.reduceLT, Nat.reduceLeDiff, if_true, Bool.not_true, Bool.not_false, List.map_cons, List.map_nil, List.cons_append, List.nil_append, reduceIte, and_self, and_true, true_and, decide_true, decide_false, Bool.true_and, Bool.and_true, Bool.false_and, Bool.and_false, fin_non, fin_bl, fin_int, fin_str, finX_same', gt_iff_lt, Nat.lt_add_one, Bool.false_eq_true]
    rfl
  refine st_nx t0 (st_nx t1 (st_nx t2 (st_nx t3 (st_rt (d := .tup (sg.map sgD)) (h1 := h.set n (stB is (c + 3)) ++ [.box (.lst (s3'.map sgD))]) ?_ ?_))))
  · have sh : shal (h.set n (stB is (c + 3)) ++ [.box (.lst (s3'.map sgD))]) (.loc h.length) = .lst (s3'.map sgD) := shal_box (g1 (by rw [set_len]))
    have sc : evE (prog.cx k (callF prog k)) (.fr (.sorted (.v 1))) [some (.loc n), some (.loc h.length)] (h.set n (stB is (c + 3)) ++ [.box (.lst (s3'.map sgD))]) = .ok (.lst (sg.map sgD)) (h.set n (stB is (c + 3)) ++ [.box (.lst (s3'.map sgD))]) := by
      have ll : decide ((s3'.map sgD).length ≤ LIM) = true := decide_eq_true (lim_lt (by rw [List.length_map]; omega))
      rw [evE, evF, ev_v rfl]
      dsimp only
      rw [sh]
      dsimp only
      rw [sg_can, ll, ← es]
      rfl
    exact ev_ret (ev_bi (ev_cons sc ev_nil) bi_tuplel)
  · exact fin_set (D.pure_ok _ _ (by rw [pure_tup, sg_pures])) (okB_box (by rw [pures_cons, pure_lst, ints_pure]; rfl))
end K21
end
section
set_option Elab.async false
set_option autoImplicit false
set_option maxRecDepth 100000
set_option linter.all false
/-! N14: changed documents. -/
namespace K21
open Ev
theorem pD_snoc (p : List Nat) (i : Nat) : pD p ++ [D.int (i : Int)] = pD (p ++ [i]) := by simp [pD]
theorem pD_len (p : List Nat) : (pD p).length = p.length := by simp [pD]
theorem pD_pure : ∀ p : List Nat, D.pures (pD p) = true
  | [] => rfl
  | i :: p => by
    have := pD_pure p
    show D.pures (D.int (i : Int) :: pD p) = true
    rw [pures_cons, this]; rfl
mutual
theorem nds_mem : ∀ (d : Doc) (p : List Nat) (x : D), x ∈ nds (pD p) d → ∃ (q : List Nat) (s : Doc), x = .tup [.tup (pD (p ++ q)), enc s] ∧ sub d q = some s
  | .mk l ks, p, x, h => by
    rw [nds] at h
    rcases List.mem_cons.mp h with z | z
    · exact ⟨[], .mk l ks, by rw [List.append_nil]; exact z, by rw [sub]⟩
    · obtain ⟨j, q, s, c, e, hj, hs⟩ := ndss_mem ks p 0 x z
      refine ⟨j :: q, s, by simpa using e, ?_⟩
      rw [sub, hj]
      exact hs
theorem ndss_mem : ∀ (ds : List Doc) (p : List Nat) (i : Nat) (x : D), x ∈ ndss (pD p) i ds → ∃ (j : Nat) (q : List Nat) (s c : Doc), x = .tup [.tup (pD (p ++ (i + j) :: q)), enc s] ∧ ds[j]? = some c ∧ sub c q = some s
  | [], p, i, x, h => by cases h
  | d :: ds, p, i, x, h => by
    rw [ndss] at h
    rcases List.mem_append.mp h with z | z
    · rw [pD_snoc] at z
      obtain ⟨q, s, e, hs⟩ := nds_mem d (p ++ [i]) x z
      exact ⟨0, q, s, d, by simpa using e, rfl, hs⟩
    · obtain ⟨j, q, s, c, e, hj, hs⟩ := ndss_mem ds p (i + 1) x z
      refine ⟨j + 1, q, s, c, ?_, by simpa using hj, hs⟩
      have : i + 1 + j = i + (j + 1) := by omega
      rw [← this]
      exact e
end
mutual
theorem put_sz : ∀ (d : Doc) (p : List Nat) (x s : Doc), sub d p = some s → sz (put d p x) + sz s = sz d + sz x
  | .mk l ks, [], x, s, h => by
    rw [sub] at h
    cases h
    rw [put]
    omega
  | .mk l ks, i :: p, x, s, h => by
    rw [sub] at h
    cases q : ks[i]? with
    | none => rw [q] at h; cases h
    | some c =>
      rw [q] at h
      have := puts_sz ks i p x s c q h
      rw [put, sz, sz]
      omega
theorem puts_sz : ∀ (ks : List Doc) (i : Nat) (p : List Nat) (x s c : Doc), ks[i]? = some c → sub c p = some s → szs (puts ks i p x) + sz s = szs ks + sz x
  | [], i, p, x, s, c, e, _ => by simp at e
  | a :: ks, 0, p, x, s, c, e, h => by
    simp at e
    subst e
    have := put_sz a p x s h
    rw [puts, szs, szs]
    omega
  | a :: ks, i + 1, p, x, s, c, e, h => by
    have := puts_sz ks i p x s c (by simpa using e) h
    rw [puts, szs, szs]
    omega
end
theorem puts_len : ∀ (ks : List Doc) (i : Nat) (p : List Nat) (x : Doc), (puts ks i p x).length = ks.length
  | [], i, p, x => by simp [puts]
  | a :: ks, 0, p, x => by rw [puts, List.length_cons, List.length_cons]
  | a :: ks, i + 1, p, x => by rw [puts, List.length_cons, puts_len ks, List.length_cons]
mutual
theorem put_ok : ∀ (d : Doc) (p : List Nat) (x : Doc), okd d = true → okd x = true → okd (put d p x) = true
  | .mk l ks, [], x, _, hx => by rw [put]; exact hx
  | .mk l ks, i :: p, x, h, hx => by
    rw [okd, Bool.and_eq_true, Bool.and_eq_true] at h
    have := puts_ok ks i p x h.2 hx
    rw [put, okd, puts_len, h.1.1, h.1.2, this]
    rfl
theorem puts_ok : ∀ (ks : List Doc) (i : Nat) (p : List Nat) (x : Doc), okds ks = true → okd x = true → okds (puts ks i p x) = true
  | [], i, p, x, _, _ => by rw [puts]; rfl
  | a :: ks, 0, p, x, h, hx => by
    rw [okds, Bool.and_eq_true] at h
    rw [puts, okds, put_ok a p x h.1 hx, h.2]
    rfl
  | a :: ks, i + 1, p, x, h, hx => by
    rw [okds, Bool.and_eq_true] at h
    rw [puts, okds, puts_ok ks i p x h.2 hx, h.1]
    rfl
end
mutual
theorem sub_ok : ∀ (d : Doc) (p : List Nat) (s : Doc), okd d = true → sub d p = some s → okd s = true
  | .mk l ks, [], s, h, e => by rw [sub] at e; cases e; exact h
  | .mk l ks, i :: p, s, h, e => by
    rw [okd, Bool.and_eq_true] at h
    rw [sub] at e
    cases q : ks[i]? with
    | none => rw [q] at e; cases e
    | some c =>
      rw [q] at e
      exact subs_ok ks i p s c h.2 q e
theorem subs_ok : ∀ (ks : List Doc) (i : Nat) (p : List Nat) (s c : Doc), okds ks = true → ks[i]? = some c → sub c p = some s → okd s = true
  | [], i, p, s, c, _, e, _ => by simp at e
  | a :: ks, 0, p, s, c, h, e, q => by
    simp at e
    subst e
    rw [okds, Bool.and_eq_true] at h
    exact sub_ok a p s h.1 q
  | a :: ks, i + 1, p, s, c, h, e, q => by
    rw [okds, Bool.and_eq_true] at h
    exact subs_ok ks i p s c h.2 (by simpa using e) q
end
mutual
theorem sub_dp : ∀ (d : Doc) (p : List Nat) (s : Doc), sub d p = some s → p.length ≤ dp d
  | .mk l ks, [], s, e => Nat.zero_le _
  | .mk l ks, i :: p, s, e => by
    rw [sub] at e
    cases q : ks[i]? with
    | none => rw [q] at e; cases e
    | some c =>
      rw [q] at e
      have := subs_dp ks i p s c q e
      rw [dp, List.length_cons]
      omega
theorem subs_dp : ∀ (ks : List Doc) (i : Nat) (p : List Nat) (s c : Doc), ks[i]? = some c → sub c p = some s → p.length + 1 ≤ dps ks
  | [], i, p, s, c, e, _ => by simp at e
  | a :: ks, 0, p, s, c, e, q => by
    simp at e
    subst e
    have := sub_dp a p s q
    rw [dps]
    omega
  | a :: ks, i + 1, p, s, c, e, q => by
    have := subs_dp ks i p s c (by simpa using e) q
    rw [dps]
    omega
end
theorem made_turn (k : Nat) (hk : 205 ≤ k) {h : Mem} {n : Nat} {is : List Int} {c : Nat} (hI : Is is) (e : h[n]? = some (stB is c)) (hc : c + 20 < 2 ^ 60) {sg : List Sg} (hS : Sgs sg) {b : Doc} (ob : okd b = true) (zb : sz b ≤ 100) (o3 o4 o5 o6 o7 : Option D) :
    ∃ (b' : Doc) (c' : Nat) (p5 p6 p7 : Option D), evSs (prog.cx k (callF prog k)) b_law_made_0 [some (.loc n), some (enc b), some (.tup (sg.map sgD)), o3, o4, o5, o6, o7] h =
      .nx [some (.loc n), some (enc b'), some (.tup (sg.map sgD)), o3, o4, p5, p6, p7] (h.set n (stB is c')) ∧ okd b' = true ∧ sz b' ≤ sz b + 4 ∧ c ≤ c' ∧ c' ≤ c + 20 := by
  have hn := get_lt e
  have hsn : ∀ a b : Ob, (h.set n a).set n b = h.set n b := fun a b => by rw [List.set_set]
  have hgn : ∀ a : Ob, (h.set n a)[n]? = some a := fun a => set_get hn
  have dz := dp_sz b
  have pos : 0 < sz b := by omega
  have n0 := law_nodes_ok k b [] h (by omega) (by simp; omega) (by omega) rfl
  obtain ⟨r, hr, e1⟩ := nx_ok (k := k) (by omega) hI e (by omega) pos
  have hr' : r < (nds [] b).length := by rw [nds_len]; exact hr
  obtain ⟨q, s, ex, hs⟩ := nds_mem b [] _ (List.getElem_mem hr')
  rw [List.nil_append] at ex
  have ar : atI (nds [] b) (r : Int) = some (.tup [.tup (pD q), enc s]) := by rw [atI_nat, List.getElem?_eq_getElem hr', ← ex]
  obtain ⟨r2, hr2, e2⟩ := nx_ok (k := k) (by omega) hI (hgn (stB is (c + 1))) (by omega) (show 0 < 2 by decide)
  obtain ⟨r4, hr4, e4⟩ := nx_ok (k := k) (by omega) hI (hgn (stB is (c + 1 + 1))) (by omega) (show 0 < 4 by decide)
  obtain ⟨x, c5, e5, c5a, c5b, ox, zx⟩ := law_document_ok k (1 + r4) (h.set n (stB is (c + 1 + 1 + 1))) n is (c + 1 + 1 + 1) sg (by omega) (by omega) (by omega) hI hS (hgn _) (by omega)
  obtain ⟨r6, hr6, e6⟩ := nx_ok (k := k) (by omega) hI (hgn (stB is c5)) (by omega) (show 0 < 2 by decide)
  rw [hsn] at e2 e4 e5 e6
  have os := sub_ok b q s ob hs
  obtain ⟨sl, sks⟩ := s
  -- the new label
  obtain ⟨nl, onl, anl⟩ : ∃ nl : List Nat, lab nl = true ∧ atI [D.str [107], .str [109]] (r2 : Int) = some (.str nl) := by
    have : r2 = 0 ∨ r2 = 1 := by omega
    rcases this with z | z
    · subst z; exact ⟨[107], by decide, atI_nat (i := 0)⟩
    · subst z; exact ⟨[109], by decide, atI_nat (i := 1)⟩
  have okn : okd (.mk nl sks) = true := by
    rw [okd, Bool.and_eq_true, Bool.and_eq_true] at os
    rw [okd, onl, os.1.2, os.2]
    rfl
  obtain ⟨y, oy, zy, ay⟩ : ∃ y : Doc, okd y = true ∧ sz y ≤ sz (.mk sl sks) + 4 ∧ atI [enc (.mk nl sks), enc x] (r6 : Int) = some (enc y) := by
    have : r6 = 0 ∨ r6 = 1 := by omega
    rcases this with z | z
    · subst z; exact ⟨.mk nl sks, okn, by rw [sz, sz]; omega, atI_nat (i := 0)⟩
    · subst z; exact ⟨x, ox, by omega, atI_nat (i := 1)⟩
  have zp := put_sz b q y _ hs
  have pl := sub_dp b q _ hs
  have e7 := law_put_ok k b q y (h.set n (stB is (c5 + 1))) _ (by omega) (by omega) hs
  refine ⟨put b q y, c5 + 1, some (.lst (nds [] b)), some (.tup (pD q)), some (enc (.mk sl sks)), ?_, put_ok b q y ob oy, by omega, by omega, by omega⟩
  have zc := sz_mem (d := b) (ds := [b]) (by simp)
  have zs : sz (.mk sl sks) ≤ sz b + 4 := by
    have := put_sz b q (.mk [] []) _ hs
    have : sz (.mk [] []) = 1 := by decide
    have := dp_sz (put b q (.mk [] []))
    omega
  rw [sz] at zs
  have lk := len_szs sks
  have l0 : 0 ≤ LIM := by decide
  have l1 : 1 ≤ LIM := by decide
  have l2 : 2 ≤ LIM := by decide
  have ln : 1 + (encs sks).length ≤ LIM := lim_lt (by rw [encs_len]; omega)
  have nl' : (nds [] b).length = sz b := nds_len b []
  have t0 : evS (prog.cx k (callF prog k)) (.asg (.nm 5) (.call 17 (.cons (.v 1) (.cons (.tup .nil) .nil)))) [some (.loc n), some (enc b), some (.tup (sg.map sgD)), o3, o4, o5, o6, o7] h = .nx [some (.loc n), some (enc b), some (.tup (sg.map sgD)), o3, o4, some (.lst (nds [] b)), o6, o7] h := by
    simp only [n0, l0, evSs, evS, evE, evL, evT, evTA, evTO, evF, evSrc, evO, evAnd, evOr, asgT, asgTs, cx_glob, cx_call, shal_int, shal_str, shal_tup, shal_lst, shal_non, shal_bl, bin_addi, bin_subi, bin_addt, bin_addl, bin_adds, bin_mod, bin_div, cmp_lt, cmp_le, cmp_gt, cmp_ge, cmp_eqi, cmp_nei, cmp_eqs, cmp_nes, cmp_ins, cmp_nins, cmp_isn, cmp_isns, item_tup, item_lst, bi_lens, bi_lent, bi_lenl, bi_int, bi_intb, bi_abs, bi_max2, bi_tuplel, bi_tuplet, itD, slice, seqD, pure_non, pure_bl, pure_int, pure_str, pure_tup, pure_lst, pures_nil, pures_cons, startF, List.replicate, List.length_cons, List.length_nil, List.set_cons_zero, List.set_cons_succ, List.getElem?_cons_zero, List.getElem?_cons_succ, List.getElem?_nil, Nat.zero_add, Nat.reduceAdd, Nat.reduceSub, Nat.reduceLT, Nat.reduceLeDiff, if_true, Bool.not_true, Bool.not_false, List.map_cons, List.map_nil, List.cons_append, List.nil_append, reduceIte, and_self, and_true, true_and, decide_true, decide_false, Bool.true_and, Bool.and_true, Bool.false_and, Bool.and_false, fin_non, fin_bl, fin_int, fin_str, finX_same', gt_iff_lt, Nat.lt_add_one, Bool.false_eq_true]
  have t1 : evS (prog.cx k (callF prog k)) (.asg (.tp (.cons (.nm 6) (.cons (.nm 7) .nil))) (.ix (.v 5) (.call 15 (.cons (.v 0) (.cons (.bi .len (.cons (.v 5) .nil)) .nil))))) [some (.loc n), some (enc b), some (.tup (sg.map sgD)), o3, o4, some (.lst (nds [] b)), o6, o7] h = .nx [some (.loc n), some (enc b), some (.tup (sg.map sgD)), o3, o4, some (.lst (nds [] b)), some (.tup (pD q)), some (enc (.mk sl sks))] (h.set n (stB is (c + 1))) := by
    simp only [nl', e1, ar, evSs, evS, evE, evL, evT, evTA, evTO, evF, evSrc, evO, evAnd, evOr, asgT, asgTs, cx_glob, cx_call, shal_int, shal_str, shal_tup, shal_lst, shal_non, shal_bl, bin_addi, bin_subi, bin_addt, bin_addl, bin_adds, bin_mod, bin_div, cmp_lt, cmp_le, cmp_gt, cmp_ge, cmp_eqi, cmp_nei, cmp_eqs, cmp_nes, cmp_ins, cmp_nins, cmp_isn, cmp_isns, item_tup, item_lst, bi_lens, bi_lent, bi_lenl, bi_int, bi_intb, bi_abs, bi_max2, bi_tuplel, bi_tuplet, itD, slice, seqD, pure_non, pure_bl, pure_int, pure_str, pure_tup, pure_lst, pures_nil, pures_cons, startF, List.replicate, List.length_cons, List.length_nil, List.set_cons_zero, List.set_cons_succ, List.getElem?_cons_zero, List.getElem?_cons_succ, List.getElem?_nil, Nat.zero_add, Nat.reduceAdd, Nat.reduceSub, Nat.reduceLT, Nat.reduceLeDiff, if_true, Bool.not_true, Bool.not_false, List.map_cons, List.map_nil, List.cons_append, List.nil_append, reduceIte, and_self, and_true, true_and, decide_true, decide_false, Bool.true_and, Bool.and_true, Bool.false_and, Bool.and_false, fin_non, fin_bl, fin_int, fin_str, finX_same', gt_iff_lt, Nat.lt_add_one, Bool.false_eq_true]
  rw [b_law_made_0]
  refine sq_nx t0 (sq_nx t1 (sq_nx ?_ sq_nil))
  have cf : cut (D.str sl :: encs sks) (some 1) none = encs sks := cut_from (i := 1) (by simp)
  have ea : evE (prog.cx k (callF prog k)) (.bin .add (.tup (.cons (.ix (.fr (.lst (.cons (.c (.str [107])) (.cons (.c (.str [109])) .nil)))) (.call 15 (.cons (.v 0) (.cons (.c (.int 2)) .nil)))) .nil)) (.sl (.v 7) (.so (.c (.int 1))) .no)) [some (.loc n), some (enc b), some (.tup (sg.map sgD)), o3, o4, some (.lst (nds [] b)), some (.tup (pD q)), some (enc (.mk sl sks))] (h.set n (stB is (c + 1))) = .ok (enc (.mk nl sks)) (h.set n (stB is (c + 1 + 1))) := by
    have e2' : callF prog k i_law_next [.loc n, .int 2] (h.set n (stB is (c + 1))) = .ok (.int (r2 : Int)) (h.set n (stB is (c + 1 + 1))) := e2
    rw [show enc (.mk nl sks) = .tup (.str nl :: encs sks) from by rw [enc], show enc (.mk sl sks) = .tup (.str sl :: encs sks) from by rw [enc]]
    simp only [e2', anl, l1, l2, cf, ln, evSs, evS, evE, evL, evT, evTA, evTO, evF, evSrc, evO, evAnd, evOr, asgT, asgTs, cx_glob, cx_call, shal_int, shal_str, shal_tup, shal_lst, shal_non, shal_bl, bin_addi, bin_subi, bin_addt, bin_addl, bin_adds, bin_mod, bin_div, cmp_lt, cmp_le, cmp_gt, cmp_ge, cmp_eqi, cmp_nei, cmp_eqs, cmp_nes, cmp_ins, cmp_nins, cmp_isn, cmp_isns, item_tup, item_lst, bi_lens, bi_lent, bi_lenl, bi_int, bi_intb, bi_abs, bi_max2, bi_tuplel, bi_tuplet, itD, slice, seqD, pure_non, pure_bl, pure_int, pure_str, pure_tup, pure_lst, pures_nil, pures_cons, startF, List.replicate, List.length_cons, List.length_nil, List.set_cons_zero, List.set_cons_succ, List.getElem?_cons_zero, List.getElem?_cons_succ, List.getElem?_nil, Nat.zero_add, Nat.reduceAdd, Nat.reduceSub, Nat.reduceLT, Nat.reduceLeDiff, if_true, Bool.not_true, Bool.not_false, List.map_cons, List.map_nil, List.cons_append, List.nil_append, reduceIte, and_self, and_true, true_and, decide_true, decide_false, Bool.true_and, Bool.and_true, Bool.false_and, Bool.and_false, fin_non, fin_bl, fin_int, fin_str, finX_same', gt_iff_lt, Nat.lt_add_one, Bool.false_eq_true]
  have eb : evE (prog.cx k (callF prog k)) (.call 19 (.cons (.v 0) (.cons (.v 2) (.cons (.bin .add (.c (.int 1)) (.call 15 (.cons (.v 0) (.cons (.c (.int 4)) .nil)))) .nil)))) [some (.loc n), some (enc b), some (.tup (sg.map sgD)), o3, o4, some (.lst (nds [] b)), some (.tup (pD q)), some (enc (.mk sl sks))] (h.set n (stB is (c + 1 + 1))) = .ok (enc x) (h.set n (stB is c5)) := by
    have e4' : callF prog k i_law_next [.loc n, .int 4] (h.set n (stB is (c + 1 + 1))) = .ok (.int (r4 : Int)) (h.set n (stB is (c + 1 + 1 + 1))) := e4
    have er : (1 : Int) + (r4 : Int) = ((1 + r4 : Nat) : Int) := by omega
    simp only [e4', er, e5, evSs, evS, evE, evL, evT, evTA, evTO, evF, evSrc, evO, evAnd, evOr, asgT, asgTs, cx_glob, cx_call, shal_int, shal_str, shal_tup, shal_lst, shal_non, shal_bl, bin_addi, bin_subi, bin_addt, bin_addl, bin_adds, bin_mod, bin_div, cmp_lt, cmp_le, cmp_gt, cmp_ge, cmp_eqi, cmp_nei, cmp_eqs, cmp_nes, cmp_ins, cmp_nins, cmp_isn, cmp_isns, item_tup, item_lst, bi_lens, bi_lent, bi_lenl, bi_int, bi_intb, bi_abs, bi_max2, bi_tuplel, bi_tuplet, itD, slice, seqD, pure_non, pure_bl, pure_int, pure_str, pure_tup, pure_lst, pures_nil, pures_cons, startF, List.replicate, List.length_cons, List.length_nil, List.set_cons_zero, List.set_cons_succ, List.getElem?_cons_zero, List.getElem?_cons_succ, List.getElem?_nil, Nat.zero_add, Nat.reduceAdd, Nat.reduceSub, Nat.reduceLT, Nat.reduceLeDiff, if_true, Bool.not_true, Bool.not_false, List.map_cons, List.map_nil, List.cons_append, List.nil_append, reduceIte, and_self, and_true, true_and, decide_true, decide_false, Bool.true_and, Bool.and_true, Bool.false_and, Bool.and_false, fin_non, fin_bl, fin_int, fin_str, finX_same', gt_iff_lt, Nat.lt_add_one, Bool.false_eq_true]
  have ec : evE (prog.cx k (callF prog k)) (.call 15 (.cons (.v 0) (.cons (.c (.int 2)) .nil))) [some (.loc n), some (enc b), some (.tup (sg.map sgD)), o3, o4, some (.lst (nds [] b)), some (.tup (pD q)), some (enc (.mk sl sks))] (h.set n (stB is c5)) = .ok (.int (r6 : Int)) (h.set n (stB is (c5 + 1))) :=
    evE_callx (ev_cons (ev_v rfl) (ev_cons (ev_c rfl) ev_nil)) e6
  have ed := ev_ix (ev_lst (ev_cons ea (ev_cons eb ev_nil)) (by show 2 ≤ LIM; decide)) ec (z := enc y) (by rw [shal_lst, item_lst]; exact ay)
  exact evS_asg (evE_callx (ev_cons (ev_v rfl) (ev_cons (ev_v rfl) (ev_cons ed ev_nil))) e7) rfl
theorem made_loop (k : Nat) (hk : 205 ≤ k) {h : Mem} {n : Nat} (hn : n < h.length) {is : List Int} (hI : Is is) {sg : List Sg} (hS : Sgs sg) (o3 : Option D) : ∀ (m : Nat) (i : Int) (c : Nat) (b : Doc) (o4 o5 o6 o7 : Option D), okd b = true → sz b + 4 * m ≤ 100 → c + 20 * m < 2 ^ 60 →
    ∃ (b' : Doc) (c' : Nat) (p4 p5 p6 p7 : Option D), forL (evSs (prog.cx k (callF prog k)) b_law_made_0) (.nm 4) (rngL i 1 m) [some (.loc n), some (enc b), some (.tup (sg.map sgD)), o3, o4, o5, o6, o7] (h.set n (stB is c)) =
      .nx [some (.loc n), some (enc b'), some (.tup (sg.map sgD)), o3, p4, p5, p6, p7] (h.set n (stB is c')) ∧ okd b' = true ∧ sz b' ≤ sz b + 4 * m ∧ c ≤ c' ∧ c' ≤ c + 20 * m := by
  intro m
  induction m with
  | zero => intro i c b o4 o5 o6 o7 ob _ _; exact ⟨b, c, o4, o5, o6, o7, rfl, ob, by omega, by omega, by omega⟩
  | succ m ih =>
    intro i c b o4 o5 o6 o7 ob zb hc
    obtain ⟨b1, c1, p5, p6, p7, e1, ob1, zb1, ca, cb⟩ := made_turn k hk hI (show (h.set n (stB is c))[n]? = some (stB is c) from set_get hn) (by omega) hS ob (by omega) o3 (some (.int i)) o5 o6 o7
    rw [List.set_set] at e1
    obtain ⟨b2, c2, q4, q5, q6, q7, e2, ob2, zb2, cc, cd⟩ := ih (i + 1) c1 b1 (some (.int i)) p5 p6 p7 ob1 (by omega) (by omega)
    exact ⟨b2, c2, q4, q5, q6, q7, by rw [rngL, forL_nx rfl e1, e2], ob2, by omega, by omega, by omega⟩
theorem law_made_ok (k : Nat) (hk : 205 ≤ k) {h : Mem} {n : Nat} {is : List Int} {c : Nat} (hI : Is is) (e : h[n]? = some (stB is c)) (hc : c + 61 < 2 ^ 60) {sg : List Sg} (hS : Sgs sg) {b : Doc} (ob : okd b = true) (zb : sz b ≤ 12) :
    ∃ (b' : Doc) (c' : Nat), callF prog (k + 1) i_law_made [.loc n, enc b, .tup (sg.map sgD), .int 3] h = .ok (enc b') (h.set n (stB is c')) ∧ okd b' = true ∧ sz b' ≤ 24 ∧ c ≤ c' ∧ c' ≤ c + 61 := by
  rw [callF_out d_law_made rfl ⟨rfl, by decide⟩, d_law_made]
  have hn := get_lt e
  obtain ⟨r, hr, en⟩ := nx_ok (k := k) (by omega) hI e (by omega) (show 0 < 4 by decide)
  obtain ⟨b', c', p4, p5, p6, p7, el, ob', zb', ca, cb⟩ := made_loop k hk hn hI hS (some (.int 3)) r 0 (c + 1) b none none none none ob (by omega) (by omega)
  refine ⟨b', c', ?_, ob', by omega, by omega, by omega⟩
  have en' : callF prog k i_law_next [.loc n, .int 4] h = .ok (.int (r : Int)) (h.set n (stB is (c + 1))) := en
  have e34 : (3 : Int) + 1 = 4 := rfl
  have ea : evL (prog.cx k (callF prog k)) (.cons (.call 15 (.cons (.v 0) (.cons (.bin .add (.v 3) (.c (.int 1))) .nil))) .nil) [some (.loc n), some (enc b), some (.tup (sg.map sgD)), some (.int 3), none, none, none, none] h = .ok [.int (r : Int)] (h.set n (stB is (c + 1))) := by
    simp only [e34, en', evSs, evS, evE, evL, evT, evTA, evTO, evF, evSrc, evO, evAnd, evOr, asgT, asgTs, cx_glob, cx_call, shal_int, shal_str, shal_tup, shal_lst, shal_non, shal_bl, bin_addi, bin_subi, bin_addt, bin_addl, bin_adds, bin_mod, bin_div, cmp_lt, cmp_le, cmp_gt, cmp_ge, cmp_eqi, cmp_nei, cmp_eqs, cmp_nes, cmp_ins, cmp_nins, cmp_isn, cmp_isns, item_tup, item_lst, bi_lens, bi_lent, bi_lenl, bi_int, bi_intb, bi_abs, bi_max2, bi_tuplel, bi_tuplet, itD, slice, seqD, pure_non, pure_bl, pure_int, pure_str, pure_tup, pure_lst, pures_nil, pures_cons, startF, List.replicate, List.length_cons, List.length_nil, List.set_cons_zero, List.set_cons_succ, List.getElem?_cons_zero, List.getElem?_cons_succ, List.getElem?_nil, Nat.zero_add, Nat.reduceAdd, Nat.reduceSub, Nat.reduceLT, Nat.reduceLeDiff, if_true, Bool.not_true, Bool.not_false, List.map_cons, List.map_nil, List.cons_append, List.nil_append, reduceIte, and_self, and_true, true_and, decide_true, decide_false, Bool.true_and, Bool.and_true, Bool.false_and, Bool.and_false, fin_non, fin_bl, fin_int, fin_str, finX_same', gt_iff_lt, Nat.lt_add_one, Bool.false_eq_true]
  refine st_nx ((evS_for (evSrc_rng ea (rng_len (by omega)))).trans el) (st_rt (d := enc b') (h1 := h.set n (stB is c')) (ev_ret (ev_v rfl)) ?_)
  exact fin_set0 (D.pure_ok _ _ (enc_pure _)) (okB_box (by rw [pures_cons, pure_lst, ints_pure]; rfl))
end K21
end
section
set_option Elab.async false
set_option autoImplicit false
set_option maxRecDepth 100000
set_option linter.all false
/-! N15: the law's own merge. -/
namespace K21
open Ev
theorem dups3 (a b c : Int) : (decide ((1 : Int) < (([a, b, c].eraseDups).length : Int))) = !(decide (a = b) && decide (a = c)) := by
  by_cases h1 : a = b
  · subst h1
    by_cases h2 : a = c
    · subst h2
      simp [List.eraseDups_cons]
    · have : ¬ c = a := fun z => h2 z.symm
      simp [List.eraseDups_cons, h2, this]
  · have t1 : ¬ b = a := fun z => h1 z.symm
    by_cases h2 : a = c
    · subst h2
      simp [List.eraseDups_cons, h1, t1]
    · have t2 : ¬ c = a := fun z => h2 z.symm
      by_cases h3 : c = b
      · subst h3; simp [List.eraseDups_cons, h1, t1]
      · simp [List.eraseDups_cons, h1, h2, h3, t1, t2]
theorem lenset3 {h : Mem} {a b c : Int} : biF .lenset [.lst [.int a, .int b, .int c]] h = some (.int (([a, b, c].eraseDups).length : Int)) := rfl
theorem nin2 {h : Mem} {b f s : List Nat} : cmpop h .notin (.str b) (.lst [.str f, .str s]) = some (!(decide (f = b) || (decide (s = b) || false))) := rfl
abbrev lmF (b f s : Doc) (p : List D) (n : Nat) (cs : List (List Nat)) (o6 o7 o8 : Option D) : Fr := [some (enc b), some (enc f), some (enc s), some (.tup p), some (.loc n), some (.lst (strD cs)), o6, o7, o8]
def LmOk (k : Nat) : Prop := ∀ (b f s : Doc) (p : List D) (h : Mem) (n : Nat) (xs : List D) (cs : List (List Nat)), dp b + 2 ≤ k → dp b ≤ 60 → dp f ≤ 60 → dp s ≤ 60 → sz b ≤ 900 → p.length + dp b ≤ 900 → D.pures p = true → D.pures xs = true → h[n]? = some (.box (.lst xs)) → xs.length + sz b ≤ 5000 →
  (∀ c ∈ cs, c = FW ∨ c = SW) → xs.length + (mg (chL cs) b f s p xs.length).2.length ≤ cs.length →
  callF prog k i_law_merge [enc b, enc f, enc s, .tup p, .loc n, .lst (strD cs)] h = .ok (enc (mg (chL cs) b f s p xs.length).1) (h.set n (.box (.lst (xs ++ (mg (chL cs) b f s p xs.length).2))))
theorem lmerge_loop (k : Nat) (ihk : LmOk k) (lb lf ls : List Nat) (kb kf ks : List Doc) (p : List D) (n N : Nat) (o6 : Option D) (cs : List (List Nat)) (hcw : ∀ c ∈ cs, c = FW ∨ c = SW) (hp : D.pures p = true) (hb : dps kb ≤ 60) (hf : dps kf ≤ 60) (hs : dps ks ≤ 60) (hk : dps kb + 1 ≤ k) (hpl : p.length + dps kb ≤ 900) :
    ∀ (b' f' s' pb pf ps : List Doc) (acc : List D) (xs : List D) (h : Mem) (i : Nat) (o8 : Option D), kb = pb ++ b' → kf = pf ++ f' → ks = ps ++ s' → pb.length = i → pf.length = i → ps.length = i → b'.length = f'.length → b'.length = s'.length → h.length = N → h[n]? = some (.box (.lst xs)) → D.pures xs = true → szs b' ≤ 900 → acc.length + b'.length ≤ 1000 → xs.length + szs b' ≤ 5000 → xs.length + (mgs (chL cs) b' f' s' p i xs.length).2.length ≤ cs.length →
    ∃ o8', forL (evSs (prog.cx k (callF prog k)) b_law_merge_0) (.nm 8) (rngL ((i : Int) + 1) 1 b'.length) (lmF (.mk lb kb) (.mk lf kf) (.mk ls ks) p n cs o6 (some (.loc N)) o8) (h ++ [.box (.lst acc)]) =
      .nx (lmF (.mk lb kb) (.mk lf kf) (.mk ls ks) p n cs o6 (some (.loc N)) o8') (h.set n (.box (.lst (xs ++ (mgs (chL cs) b' f' s' p i xs.length).2))) ++ [.box (.lst (acc ++ encs (mgs (chL cs) b' f' s' p i xs.length).1))]) := by
  intro b'
  induction b' with
  | nil =>
    intro f' s' pb pf ps acc xs h i o8 _ _ _ _ _ _ _ _ hN e _ _ _ _ _
    exact ⟨o8, by simp [rngL, forL, mgs, encs, set_same e]⟩
  | cons b bs ih =>
    intro f' s' pb pf ps acc xs h i o8 eb ef es lb' lf' ls' q1 q2 hN e hx hsz ha hxs hcs
    cases f' with
    | nil => simp at q1
    | cons f fs =>
      cases s' with
      | nil => simp at q2
      | cons s ss =>
        have mb : dp b + 1 ≤ dps kb := dp_mem (by rw [eb]; simp)
        have mf : dp f + 1 ≤ dps kf := dp_mem (by rw [ef]; simp)
        have ms : dp s + 1 ≤ dps ks := dp_mem (by rw [es]; simp)
        rw [szs] at hsz hxs
        rw [List.length_cons] at ha
        have hn := get_lt e
        rw [mgs] at hcs
        dsimp only at hcs
        rw [List.length_append] at hcs
        have hpi : D.pures (p ++ [D.int (i : Int)]) = true := by rw [pures_app, hp]; rfl
        have call := ihk b f s (p ++ [D.int (i : Int)]) (h ++ [.box (.lst acc)]) n xs cs (by omega) (by omega) (by omega) (by omega) (by omega) (by rw [List.length_append]; simp; omega) hpi hx (by rw [app_get hn]; exact e) (by omega) hcw (by omega)
        rw [app_set hn] at call
        have rl := mg_len (chL cs) b f s (p ++ [D.int (i : Int)]) xs.length
        have rp := mg_pure (chL cs) b f s (p ++ [D.int (i : Int)]) xs.length hpi
        generalize hr : mg (chL cs) b f s (p ++ [D.int (i : Int)]) xs.length = r at call hcs rl rp
        have hxl : (xs ++ r.2).length = xs.length + r.2.length := List.length_append
        obtain ⟨o8', er⟩ := ih fs ss (pb ++ [b]) (pf ++ [f]) (ps ++ [s]) (acc ++ [enc r.1]) (xs ++ r.2) (h.set n (.box (.lst (xs ++ r.2)))) (i + 1) (some (.int ((i : Int) + 1))) (by rw [eb]; simp) (by rw [ef]; simp) (by rw [es]; simp) (by simp; exact lb') (by simp; exact lf') (by simp; exact ls') (by simpa using q1) (by simpa using q2) (by rw [set_len, hN]) (set_get hn) (by rw [pures_app, hx, rp]; rfl) (by omega) (by rw [List.length_append]; simp; omega) (by rw [hxl]; omega) (by rw [hxl]; omega)
        refine ⟨o8', ?_⟩
        have la : acc.length < LIM := lim_lt' (by omega)
        have c1 := at_child (l := lb) (suf := bs) (d := b) lb'
        have c2 := at_child (l := lf) (suf := fs) (d := f) lf'
        have c3 := at_child (l := ls) (suf := ss) (d := s) ls'
        have l1 : 1 ≤ LIM := by decide
        have lp : p.length + 1 ≤ LIM := lim_lt (by omega)
        have e11 : (i : Int) + 1 - 1 = (i : Int) := by omega
        have ga : evL (prog.cx k (callF prog k)) (.cons (.call 23 (.cons (.ix (.v 0) (.v 8)) (.cons (.ix (.v 1) (.v 8)) (.cons (.ix (.v 2) (.v 8)) (.cons (.bin .add (.v 3) (.tup (.cons (.bin .sub (.v 8) (.c (.int 1))) .nil))) (.cons (.v 4) (.cons (.v 5) .nil))))))) .nil)
            (lmF (.mk lb kb) (.mk lf kf) (.mk ls ks) p n cs o6 (some (.loc N)) (some (.int ((i : Int) + 1)))) (h ++ [.box (.lst acc)]) = .ok [enc r.1] (h.set n (.box (.lst (xs ++ r.2))) ++ [.box (.lst acc)]) := by
          rw [lmF, show enc (.mk lb kb) = .tup (.str lb :: encs kb) from by rw [enc], show enc (.mk lf kf) = .tup (.str lf :: encs kf) from by rw [enc], show enc (.mk ls ks) = .tup (.str ls :: encs ks) from by rw [enc], eb, ef, es]
          simp only [c1, c2, c3, lp, l1, e11, call, evSs, evS, evE, evL, evT, evTA, evTO, evF, evSrc, evO, evAnd, evOr, asgT, asgTs, cx_glob, cx_call, shal_int, shal_str, shal_tup, shal_lst, shal_non, shal_bl, bin_addi, bin_subi, bin_addt, bin_addl, bin_adds, bin_mod, bin_div, cmp_lt, cmp_le, cmp_gt, cmp_ge, cmp_eqi, cmp_nei, cmp_eqs, cmp_nes, cmp_ins, cmp_nins, cmp_isn, cmp_isns, item_tup, item_lst, bi_lens, bi_lent, bi_lenl, bi_int, bi_intb, bi_abs, bi_max2, bi_tuplel, bi_tuplet, itD, slice, seqD, pure_non, pure_bl, pure_int, pure_str, pure_tup, pure_lst, pures_nil, pures_cons, startF, List.replicate, List.length_cons, List.length_nil, List.set_cons_zero, List.set_cons_succ, List.getElem?_cons_zero, List.getElem?_cons_succ, List.getElem?_nil, Nat.zero_add, Nat.reduceAdd, Nat.reduceSub, Nat.reduceLT, Nat.reduceLeDiff, if_true, Bool.not_true, Bool.not_false, List.map_cons, List.map_nil, List.cons_append, List.nil_append, reduceIte, and_self, and_true, true_and, decide_true, decide_false, Bool.true_and, Bool.and_true, Bool.false_and, Bool.and_false, fin_non, fin_bl, fin_int, fin_str, finX_same', gt_iff_lt, Nat.lt_add_one, Bool.false_eq_true]
        have hN' : (h.set n (.box (.lst (xs ++ r.2)))).length = N := by rw [set_len, hN]
        have hb : evSs (prog.cx k (callF prog k)) b_law_merge_0 (lmF (.mk lb kb) (.mk lf kf) (.mk ls ks) p n cs o6 (some (.loc N)) (some (.int ((i : Int) + 1)))) (h ++ [.box (.lst acc)]) =
            .nx (lmF (.mk lb kb) (.mk lf kf) (.mk ls ks) p n cs o6 (some (.loc N)) (some (.int ((i : Int) + 1)))) (h.set n (.box (.lst (xs ++ r.2))) ++ [.box (.lst (acc ++ [enc r.1]))]) := by
          rw [b_law_merge_0]
          refine sq_nx (evS_expr (ev_mt (ev_v rfl) (g1 hN) ga (mt_append (g1 hN') la))) ?_
          rw [s1 hN', sq_nil]
        rw [List.length_cons, rngL, forL_nx rfl hb]
        have ei : (i : Int) + 1 + 1 = ((i + 1 : Nat) : Int) + 1 := by omega
        rw [ei, er, mgs, hr]
        dsimp only
        rw [hxl, List.set_set, encs, List.append_assoc, List.append_assoc]
        rfl
end K21
namespace K21
open Ev
theorem pk_eq {cs : List (List Nat)} {j : Nat} {c : List Nat} (hc : cs[j]? = some c) (w : c = FW ∨ c = SW) {α : Type} (b f s : α) : pk (chL cs j) b f s = if c = SW then s else f := by
  unfold chL pk
  rw [hc]
  rcases w with z | z
  · subst z
    rw [if_pos rfl, if_neg (by decide), if_pos rfl, if_neg (by decide)]
  · subst z
    have : ¬ (some SW = some FW) := by decide
    rw [if_neg this, if_neg (by decide), if_neg (by decide), if_pos rfl]
theorem law_merge_ok (k : Nat) : LmOk k := by
  induction k with
  | zero => intro b f s p h n xs cs h1; omega
  | succ k ihk =>
    rintro ⟨lb, kb⟩ ⟨lf, kf⟩ ⟨ls, ks⟩ p h n xs cs hk hb hf hs hz hpl hp hx e hl hcw hcs
    rw [callF_out d_law_merge rfl ⟨rfl, by decide⟩, d_law_merge]
    have fr0 : startF 9 [enc (.mk lb kb), enc (.mk lf kf), enc (.mk ls ks), .tup p, .loc n, .lst (strD cs)] = lmF (.mk lb kb) (.mk lf kf) (.mk ls ks) p n cs none none none := rfl
    have q1 := doc_eq (h := h) hf hs
    have q2 := doc_eq (h := h) hs hb
    have q3 := doc_eq (h := h) hf hb
    have hn := get_lt e
    rw [fr0]
    rw [mg] at hcs ⊢
    by_cases e1 : (Doc.mk lf kf : Doc) = .mk ls ks
    · rw [if_pos (.inl e1)]
      have d1 : decide ((Doc.mk lf kf : Doc) = .mk ls ks) = true := decide_eq_true e1
      rw [d1] at q1
      have t0 : evS (prog.cx k (callF prog k)) s_law_merge_0 (lmF (.mk lb kb) (.mk lf kf) (.mk ls ks) p n cs none none none) h = .rt (enc (.mk lf kf)) h := by
        simp only [s_law_merge_0, q1, evSs, evS, evE, evL, evT, evTA, evTO, evF, evSrc, evO, evAnd, evOr, asgT, asgTs, cx_glob, cx_call, shal_int, shal_str, shal_tup, shal_lst, shal_non, shal_bl, bin_addi, bin_subi, bin_addt, bin_addl, bin_adds, bin_mod, bin_div, cmp_lt, cmp_le, cmp_gt, cmp_ge, cmp_eqi, cmp_nei, cmp_eqs, cmp_nes, cmp_ins, cmp_nins, cmp_isn, cmp_isns, item_tup, item_lst, bi_lens, bi_lent, bi_lenl, bi_int, bi_intb, bi_abs, bi_max2, bi_tuplel, bi_tuplet, itD, slice, seqD, pure_non, pure_bl, pure_int, pure_str, pure_tup, pure_lst, pures_nil, pures_cons, startF, List.replicate, List.length_cons, List.length_nil, List.set_cons_zero, List.set_cons_succ, List.getElem?_cons_zero, List.getElem?_cons_succ, List.getElem?_nil, Nat.zero_add, Nat.reduceAdd, Nat.reduceSub, Nat.reduceLT, Nat.reduceLeDiff, if_true, Bool.not_true, Bool.not_false, List.map_cons, List.map_nil, List.cons_append, List.nil_append, reduceIte, and_self, and_true, true_and, decide_true, decide_false, Bool.true_and, Bool.and_true, Bool.false_and, Bool.and_false, fin_non, fin_bl, fin_int, fin_str, finX_same', gt_iff_lt, Nat.lt_add_one, Bool.false_eq_true]
      refine st_rt t0 ?_
      simp only [List.append_nil, set_same e]
      exact fin_pure (enc_pure _)
    · have d1 : decide ((Doc.mk lf kf : Doc) = .mk ls ks) = false := decide_eq_false e1
      rw [d1] at q1
      by_cases e2 : (Doc.mk ls ks : Doc) = .mk lb kb
      · rw [if_pos (.inr e2)]
        have d2 : decide ((Doc.mk ls ks : Doc) = .mk lb kb) = true := decide_eq_true e2
        rw [d2] at q2
        have t0 : evS (prog.cx k (callF prog k)) s_law_merge_0 (lmF (.mk lb kb) (.mk lf kf) (.mk ls ks) p n cs none none none) h = .rt (enc (.mk lf kf)) h := by
          simp only [s_law_merge_0, q1, q2, evSs, evS, evE, evL, evT, evTA, evTO, evF, evSrc, evO, evAnd, evOr, asgT, asgTs, cx_glob, cx_call, shal_int, shal_str, shal_tup, shal_lst, shal_non, shal_bl, bin_addi, bin_subi, bin_addt, bin_addl, bin_adds, bin_mod, bin_div, cmp_lt, cmp_le, cmp_gt, cmp_ge, cmp_eqi, cmp_nei, cmp_eqs, cmp_nes, cmp_ins, cmp_nins, cmp_isn, cmp_isns, item_tup, item_lst, bi_lens, bi_lent, bi_lenl, bi_int, bi_intb, bi_abs, bi_max2, bi_tuplel, bi_tuplet, itD, slice, seqD, pure_non, pure_bl, pure_int, pure_str, pure_tup, pure_lst, pures_nil, pures_cons, startF, List.replicate, List.length_cons, List.length_nil, List.set_cons_zero, List.set_cons_succ, List.getElem?_cons_zero, List.getElem?_cons_succ, List.getElem?_nil, Nat.zero_add, Nat.reduceAdd, Nat.reduceSub, Nat.reduceLT, Nat.reduceLeDiff, if_true, Bool.not_true, Bool.not_false, List.map_cons, List.map_nil, List.cons_append, List.nil_append, reduceIte, and_self, and_true, true_and, decide_true, decide_false, Bool.true_and, Bool.and_true, Bool.false_and, Bool.and_false, fin_non, fin_bl, fin_int, fin_str, finX_same', gt_iff_lt, Nat.lt_add_one, Bool.false_eq_true]
        refine st_rt t0 ?_
        simp only [List.append_nil, set_same e]
        exact fin_pure (enc_pure _)
      · have ne12 : ¬ ((Doc.mk lf kf : Doc) = .mk ls ks ∨ (Doc.mk ls ks : Doc) = .mk lb kb) := by rintro (z | z); exact e1 z; exact e2 z
        rw [if_neg ne12] at hcs ⊢
        have d2 : decide ((Doc.mk ls ks : Doc) = .mk lb kb) = false := decide_eq_false e2
        rw [d2] at q2
        have t0 : evS (prog.cx k (callF prog k)) s_law_merge_0 (lmF (.mk lb kb) (.mk lf kf) (.mk ls ks) p n cs none none none) h = .nx (lmF (.mk lb kb) (.mk lf kf) (.mk ls ks) p n cs none none none) h := by
          simp only [s_law_merge_0, q1, q2, evSs, evS, evE, evL, evT, evTA, evTO, evF, evSrc, evO, evAnd, evOr, asgT, asgTs, cx_glob, cx_call, shal_int, shal_str, shal_tup, shal_lst, shal_non, shal_bl, bin_addi, bin_subi, bin_addt, bin_addl, bin_adds, bin_mod, bin_div, cmp_lt, cmp_le, cmp_gt, cmp_ge, cmp_eqi, cmp_nei, cmp_eqs, cmp_nes, cmp_ins, cmp_nins, cmp_isn, cmp_isns, item_tup, item_lst, bi_lens, bi_lent, bi_lenl, bi_int, bi_intb, bi_abs, bi_max2, bi_tuplel, bi_tuplet, itD, slice, seqD, pure_non, pure_bl, pure_int, pure_str, pure_tup, pure_lst, pures_nil, pures_cons, startF, List.replicate, List.length_cons, List.length_nil, List.set_cons_zero, List.set_cons_succ, List.getElem?_cons_zero, List.getElem?_cons_succ, List.getElem?_nil, Nat.zero_add, Nat.reduceAdd, Nat.reduceSub, Nat.reduceLT, Nat.reduceLeDiff, if_true, Bool.not_true, Bool.not_false, List.map_cons, List.map_nil, List.cons_append, List.nil_append, reduceIte, and_self, and_true, true_and, decide_true, decide_false, Bool.true_and, Bool.and_true, Bool.false_and, Bool.and_false, fin_non, fin_bl, fin_int, fin_str, finX_same', gt_iff_lt, Nat.lt_add_one, Bool.false_eq_true]
        by_cases e3 : (Doc.mk lf kf : Doc) = .mk lb kb
        · rw [if_pos e3]
          have d3 : decide ((Doc.mk lf kf : Doc) = .mk lb kb) = true := decide_eq_true e3
          rw [d3] at q3
          have t1 : evS (prog.cx k (callF prog k)) s_law_merge_1 (lmF (.mk lb kb) (.mk lf kf) (.mk ls ks) p n cs none none none) h = .rt (enc (.mk ls ks)) h := by
            simp only [s_law_merge_1, q3, evSs, evS, evE, evL, evT, evTA, evTO, evF, evSrc, evO, evAnd, evOr, asgT, asgTs, cx_glob, cx_call, shal_int, shal_str, shal_tup, shal_lst, shal_non, shal_bl, bin_addi, bin_subi, bin_addt, bin_addl, bin_adds, bin_mod, bin_div, cmp_lt, cmp_le, cmp_gt, cmp_ge, cmp_eqi, cmp_nei, cmp_eqs, cmp_nes, cmp_ins, cmp_nins, cmp_isn, cmp_isns, item_tup, item_lst, bi_lens, bi_lent, bi_lenl, bi_int, bi_intb, bi_abs, bi_max2, bi_tuplel, bi_tuplet, itD, slice, seqD, pure_non, pure_bl, pure_int, pure_str, pure_tup, pure_lst, pures_nil, pures_cons, startF, List.replicate, List.length_cons, List.length_nil, List.set_cons_zero, List.set_cons_succ, List.getElem?_cons_zero, List.getElem?_cons_succ, List.getElem?_nil, Nat.zero_add, Nat.reduceAdd, Nat.reduceSub, Nat.reduceLT, Nat.reduceLeDiff, if_true, Bool.not_true, Bool.not_false, List.map_cons, List.map_nil, List.cons_append, List.nil_append, reduceIte, and_self, and_true, true_and, decide_true, decide_false, Bool.true_and, Bool.and_true, Bool.false_and, Bool.and_false, fin_non, fin_bl, fin_int, fin_str, finX_same', gt_iff_lt, Nat.lt_add_one, Bool.false_eq_true]
          refine st_nx t0 (st_rt t1 ?_)
          simp only [List.append_nil, set_same e]
          exact fin_pure (enc_pure _)
        · rw [if_neg e3] at hcs ⊢
          have d3 : decide ((Doc.mk lf kf : Doc) = .mk lb kb) = false := decide_eq_false e3
          rw [d3] at q3
          have t1 : evS (prog.cx k (callF prog k)) s_law_merge_1 (lmF (.mk lb kb) (.mk lf kf) (.mk ls ks) p n cs none none none) h = .nx (lmF (.mk lb kb) (.mk lf kf) (.mk ls ks) p n cs none none none) h := by
            simp only [s_law_merge_1, q3, evSs, evS, evE, evL, evT, evTA, evTO, evF, evSrc, evO, evAnd, evOr, asgT, asgTs, cx_glob, cx_call, shal_int, shal_str, shal_tup, shal_lst, shal_non, shal_bl, bin_addi, bin_subi, bin_addt, bin_addl, bin_adds, bin_mod, bin_div, cmp_lt, cmp_le, cmp_gt, cmp_ge, cmp_eqi, cmp_nei, cmp_eqs, cmp_nes, cmp_ins, cmp_nins, cmp_isn, cmp_isns, item_tup, item_lst, bi_lens, bi_lent, bi_lenl, bi_int, bi_intb, bi_abs, bi_max2, bi_tuplel, bi_tuplet, itD, slice, seqD, pure_non, pure_bl, pure_int, pure_str, pure_tup, pure_lst, pures_nil, pures_cons, startF, List.replicate, List.length_cons, List.length_nil, List.set_cons_zero, List.set_cons_succ, List.getElem?_cons_zero, List.getElem?_cons_succ, List.getElem?_nil, Nat.zero_add, Nat.reduceAdd, Nat.reduceSub, Nat.reduceLT, Nat.reduceLeDiff, if_true, Bool.not_true, Bool.not_false, List.map_cons, List.map_nil, List.cons_append, List.nil_append, reduceIte, and_self, and_true, true_and, decide_true, decide_false, Bool.true_and, Bool.and_true, Bool.false_and, Bool.and_false, fin_non, fin_bl, fin_int, fin_str, finX_same', gt_iff_lt, Nat.lt_add_one, Bool.false_eq_true]
          have eb : enc (.mk lb kb) = .tup (.str lb :: encs kb) := by rw [enc]
          have ef : enc (.mk lf kf) = .tup (.str lf :: encs kf) := by rw [enc]
          have es : enc (.mk ls ks) = .tup (.str ls :: encs ks) := by rw [enc]
          have le1 := lenE kb kf
          have le2 := lenE kb ks
          have lx : xs.length < LIM := lim_lt' (by omega)
          have l3 : 3 ≤ LIM := by decide
          have l2 : 2 ≤ LIM := by decide
          have l1 : 1 ≤ LIM := by decide
          have l0 : 0 ≤ LIM := by decide
          have hps : D.pures (xs ++ [.tup p]) = true := by rw [pures_app, hx]; simp [hp]
          have e' : (h.set n (.box (.lst (xs ++ [.tup p]))))[n]? = some (.box (.lst (xs ++ [.tup p]))) := set_get hn
          have bl : biF .len [.loc n] (h.set n (.box (.lst (xs ++ [.tup p])))) = some (.int ((xs.length : Int) + 1)) := by
            rw [bi_lenb e', List.length_append]
            rfl
          have x11 : (xs.length : Int) + 1 - 1 = (xs.length : Int) := by omega
          have cst : ∀ c, cs[xs.length]? = some c → atI (strD cs) (xs.length : Int) = some (.str c) := fun c hc => by
            rw [atI_nat, strD, List.getElem?_map, hc]
            rfl
          have ap1 : ∀ o6 o7 o8, evS (prog.cx k (callF prog k)) (.expr (.mt .append (.v 4) (.cons (.v 3) .nil))) (lmF (.mk lb kb) (.mk lf kf) (.mk ls ks) p n cs o6 o7 o8) h = .nx (lmF (.mk lb kb) (.mk lf kf) (.mk ls ks) p n cs o6 o7 o8) (h.set n (.box (.lst (xs ++ [.tup p])))) := fun o6 o7 o8 => by
            simp only [shal_box e, mt_append e lx, evSs, evS, evE, evL, evT, evTA, evTO, evF, evSrc, evO, evAnd, evOr, asgT, asgTs, cx_glob, cx_call, shal_int, shal_str, shal_tup, shal_lst, shal_non, shal_bl, bin_addi, bin_subi, bin_addt, bin_addl, bin_adds, bin_mod, bin_div, cmp_lt, cmp_le, cmp_gt, cmp_ge, cmp_eqi, cmp_nei, cmp_eqs, cmp_nes, cmp_ins, cmp_nins, cmp_isn, cmp_isns, item_tup, item_lst, bi_lens, bi_lent, bi_lenl, bi_int, bi_intb, bi_abs, bi_max2, bi_tuplel, bi_tuplet, itD, slice, seqD, pure_non, pure_bl, pure_int, pure_str, pure_tup, pure_lst, pures_nil, pures_cons, startF, List.replicate, List.length_cons, List.length_nil, List.set_cons_zero, List.set_cons_succ, List.getElem?_cons_zero, List.getElem?_cons_succ, List.getElem?_nil, Nat.zero_add, Nat.reduceAdd, Nat.reduceSub, Nat.reduceLT, Nat.reduceLeDiff, if_true, Bool.not_true, Bool.not_false, List.map_cons, List.map_nil, List.cons_append, List.nil_append, reduceIte, and_self, and_true, true_and, decide_true, decide_false, Bool.true_and, Bool.and_true, Bool.false_and, Bool.and_false, fin_non, fin_bl, fin_int, fin_str, finX_same', gt_iff_lt, Nat.lt_add_one, Bool.false_eq_true]
          have pick : ∀ c (o6 o7 o8 : Option D), cs[xs.length]? = some c → evE (prog.cx k (callF prog k)) (.bi .int_ (.cons (.cmp .eq (.ix (.v 5) (.bin .sub (.bi .len (.cons (.v 4) .nil)) (.c (.int 1)))) (.c (.str [115, 101, 99, 111, 110, 100]))) .nil)) (lmF (.mk lb kb) (.mk lf kf) (.mk ls ks) p n cs o6 o7 o8) (h.set n (.box (.lst (xs ++ [.tup p])))) = .ok (.int (if decide (c = SW) = true then 1 else 0)) (h.set n (.box (.lst (xs ++ [.tup p])))) := fun c o6 o7 o8 hc => by
            have a := cst c hc
            simp only [bl, x11, a, evSs, evS, evE, evL, evT, evTA, evTO, evF, evSrc, evO, evAnd, evOr, asgT, asgTs, cx_glob, cx_call, shal_int, shal_str, shal_tup, shal_lst, shal_non, shal_bl, bin_addi, bin_subi, bin_addt, bin_addl, bin_adds, bin_mod, bin_div, cmp_lt, cmp_le, cmp_gt, cmp_ge, cmp_eqi, cmp_nei, cmp_eqs, cmp_nes, cmp_ins, cmp_nins, cmp_isn, cmp_isns, item_tup, item_lst, bi_lens, bi_lent, bi_lenl, bi_int, bi_intb, bi_abs, bi_max2, bi_tuplel, bi_tuplet, itD, slice, seqD, pure_non, pure_bl, pure_int, pure_str, pure_tup, pure_lst, pures_nil, pures_cons, startF, List.replicate, List.length_cons, List.length_nil, List.set_cons_zero, List.set_cons_succ, List.getElem?_cons_zero, List.getElem?_cons_succ, List.getElem?_nil, Nat.zero_add, Nat.reduceAdd, Nat.reduceSub, Nat.reduceLT, Nat.reduceLeDiff, if_true, Bool.not_true, Bool.not_false, List.map_cons, List.map_nil, List.cons_append, List.nil_append, reduceIte, and_self, and_true, true_and, decide_true, decide_false, Bool.true_and, Bool.and_true, Bool.false_and, Bool.and_false, fin_non, fin_bl, fin_int, fin_str, finX_same', gt_iff_lt, Nat.lt_add_one, Bool.false_eq_true]
          have two : ∀ (x y : D) (c : List Nat), atI [x, y] (if decide (c = SW) = true then 1 else 0) = some (if c = SW then y else x) := fun x y c => by
            by_cases z : c = SW
            · rw [decide_eq_true z, if_pos rfl, if_pos z]
              exact atI_nat (i := 1)
            · rw [decide_eq_false z, if_neg (by decide), if_neg z]
              exact atI_nat (i := 0)
          have cnd : evT (prog.cx k (callF prog k)) (.e (.cmp .gt (.bi .lenset (.cons (.fr (.lst (.cons (.bi .len (.cons (.v 0) .nil)) (.cons (.bi .len (.cons (.v 1) .nil)) (.cons (.bi .len (.cons (.v 2) .nil)) .nil))))) .nil)) (.c (.int 1)))) (lmF (.mk lb kb) (.mk lf kf) (.mk ls ks) p n cs none none none) h = .ok (!(decide (kb.length = kf.length) && decide (kb.length = ks.length))) h := by
            simp only [lmF, eb, ef, es, l3, lenset3, dups3, le1, le2, evSs, evS, evE, evL, evT, evTA, evTO, evF, evSrc, evO, evAnd, evOr, asgT, asgTs, cx_glob, cx_call, shal_int, shal_str, shal_tup, shal_lst, shal_non, shal_bl, bin_addi, bin_subi, bin_addt, bin_addl, bin_adds, bin_mod, bin_div, cmp_lt, cmp_le, cmp_gt, cmp_ge, cmp_eqi, cmp_nei, cmp_eqs, cmp_nes, cmp_ins, cmp_nins, cmp_isn, cmp_isns, item_tup, item_lst, bi_lens, bi_lent, bi_lenl, bi_int, bi_intb, bi_abs, bi_max2, bi_tuplel, bi_tuplet, itD, slice, seqD, pure_non, pure_bl, pure_int, pure_str, pure_tup, pure_lst, pures_nil, pures_cons, startF, List.replicate, List.length_cons, List.length_nil, List.set_cons_zero, List.set_cons_succ, List.getElem?_cons_zero, List.getElem?_cons_succ, List.getElem?_nil, Nat.zero_add, Nat.reduceAdd, Nat.reduceSub, Nat.reduceLT, Nat.reduceLeDiff, if_true, Bool.not_true, Bool.not_false, List.map_cons, List.map_nil, List.cons_append, List.nil_append, reduceIte, and_self, and_true, true_and, decide_true, decide_false, Bool.true_and, Bool.and_true, Bool.false_and, Bool.and_false, fin_non, fin_bl, fin_int, fin_str, finX_same', gt_iff_lt, Nat.lt_add_one, Bool.false_eq_true]
          by_cases e4 : kb.length ≠ kf.length ∨ kb.length ≠ ks.length
          · rw [if_pos (show kb.length ≠ (Doc.mk lf kf).ks.length ∨ kb.length ≠ (Doc.mk ls ks).ks.length from e4)] at hcs ⊢
            dsimp only [List.length_cons, List.length_nil] at hcs ⊢
            obtain ⟨c, hc⟩ : ∃ c, cs[xs.length]? = some c := ⟨cs[xs.length], List.getElem?_eq_getElem (by omega)⟩
            have cw := hcw c (List.mem_of_getElem? hc)
            have cnd' : (!(decide (kb.length = kf.length) && decide (kb.length = ks.length))) = true := by
              by_cases z : kb.length = kf.length
              · have : ¬ kb.length = ks.length := fun y => e4.elim (fun q => q z) (fun q => q y)
                rw [decide_eq_true z, decide_eq_false this]; rfl
              · rw [decide_eq_false z]; rfl
            rw [cnd'] at cnd
            rw [pk_eq hc cw]
            refine st_nx t0 (st_nx t1 (st_rt (d := enc (if c = SW then .mk ls ks else .mk lf kf)) (h1 := h.set n (.box (.lst (xs ++ [.tup p])))) ?_ ?_))
            · rw [s_law_merge_2, evS_ite cnd, if_pos rfl]
              refine sq_nx (ap1 none none none) (sq_rt (ev_ret (ev_ix (ev_lst (ev_cons (ev_v rfl) (ev_cons (ev_v rfl) ev_nil)) l2) (pick c none none none hc) ?_)))
              rw [shal_lst, item_lst, two]
              by_cases z : c = SW
              · rw [if_pos z, if_pos z]
              · rw [if_neg z, if_neg z]
            · exact fin_set0 (D.pure_ok _ _ (enc_pure _)) (okB_box hps)
          · rw [if_neg (show ¬ (kb.length ≠ (Doc.mk lf kf).ks.length ∨ kb.length ≠ (Doc.mk ls ks).ks.length) from e4)] at hcs ⊢
            have e5 : kb.length = kf.length := Classical.byContradiction fun z => e4 (.inl z)
            have e6 : kb.length = ks.length := Classical.byContradiction fun z => e4 (.inr z)
            rw [dp] at hb hf hs hk hpl
            rw [sz] at hz hl
            have lk := len_szs kb
            rw [decide_eq_true e5, decide_eq_true e6] at cnd
            have t2 : evS (prog.cx k (callF prog k)) s_law_merge_2 (lmF (.mk lb kb) (.mk lf kf) (.mk ls ks) p n cs none none none) h = .nx (lmF (.mk lb kb) (.mk lf kf) (.mk ls ks) p n cs none none none) h := by
              rw [s_law_merge_2, evS_ite cnd, if_neg (by decide), sq_nil]
            have two' : ∀ (x y : D) (q : Bool), atI [x, y] (if q = true then 1 else 0) = some (if q = true then y else x) := fun x y q => by
              cases q
              · exact atI_nat (i := 0)
              · exact atI_nat (i := 1)
            have t3 : evS (prog.cx k (callF prog k)) s_law_merge_3 (lmF (.mk lb kb) (.mk lf kf) (.mk ls ks) p n cs none none none) h = .nx (lmF (.mk lb kb) (.mk lf kf) (.mk ls ks) p n cs (some (if decide (ls = lb) = true then .str lf else .str ls)) none none) h := by
              simp only [lmF, s_law_merge_3, eb, ef, es, at_0, l2, two', evSs, evS, evE, evL, evT, evTA, evTO, evF, evSrc, evO, evAnd, evOr, asgT, asgTs, cx_glob, cx_call, shal_int, shal_str, shal_tup, shal_lst, shal_non, shal_bl, bin_addi, bin_subi, bin_addt, bin_addl, bin_adds, bin_mod, bin_div, cmp_lt, cmp_le, cmp_gt, cmp_ge, cmp_eqi, cmp_nei, cmp_eqs, cmp_nes, cmp_ins, cmp_nins, cmp_isn, cmp_isns, item_tup, item_lst, bi_lens, bi_lent, bi_lenl, bi_int, bi_intb, bi_abs, bi_max2, bi_tuplel, bi_tuplet, itD, slice, seqD, pure_non, pure_bl, pure_int, pure_str, pure_tup, pure_lst, pures_nil, pures_cons, startF, List.replicate, List.length_cons, List.length_nil, List.set_cons_zero, List.set_cons_succ, List.getElem?_cons_zero, List.getElem?_cons_succ, List.getElem?_nil, Nat.zero_add, Nat.reduceAdd, Nat.reduceSub, Nat.reduceLT, Nat.reduceLeDiff, if_true, Bool.not_true, Bool.not_false, List.map_cons, List.map_nil, List.cons_append, List.nil_append, reduceIte, and_self, and_true, true_and, decide_true, decide_false, Bool.true_and, Bool.and_true, Bool.false_and, Bool.and_false, fin_non, fin_bl, fin_int, fin_str, finX_same', gt_iff_lt, Nat.lt_add_one, Bool.false_eq_true]
            have c4 : evT (prog.cx k (callF prog k)) (.and (.cons (.e (.cmp .ne (.ix (.v 1) (.c (.int 0))) (.ix (.v 2) (.c (.int 0))))) (.cons (.e (.cmp .notin (.ix (.v 0) (.c (.int 0))) (.fr (.lst (.cons (.ix (.v 1) (.c (.int 0))) (.cons (.ix (.v 2) (.c (.int 0))) .nil)))))) .nil))) (lmF (.mk lb kb) (.mk lf kf) (.mk ls ks) p n cs (some (if decide (ls = lb) = true then .str lf else .str ls)) none none) h = .ok (!(decide (lf = ls)) && !(decide (lf = lb) || (decide (ls = lb) || false))) h := by
              by_cases z : lf = ls
              · have dz : decide (lf = ls) = true := decide_eq_true z
                simp only [lmF, eb, ef, es, at_0, dz, evSs, evS, evE, evL, evT, evTA, evTO, evF, evSrc, evO, evAnd, evOr, asgT, asgTs, cx_glob, cx_call, shal_int, shal_str, shal_tup, shal_lst, shal_non, shal_bl, bin_addi, bin_subi, bin_addt, bin_addl, bin_adds, bin_mod, bin_div, cmp_lt, cmp_le, cmp_gt, cmp_ge, cmp_eqi, cmp_nei, cmp_eqs, cmp_nes, cmp_ins, cmp_nins, cmp_isn, cmp_isns, item_tup, item_lst, bi_lens, bi_lent, bi_lenl, bi_int, bi_intb, bi_abs, bi_max2, bi_tuplel, bi_tuplet, itD, slice, seqD, pure_non, pure_bl, pure_int, pure_str, pure_tup, pure_lst, pures_nil, pures_cons, startF, List.replicate, List.length_cons, List.length_nil, List.set_cons_zero, List.set_cons_succ, List.getElem?_cons_zero, List.getElem?_cons_succ, List.getElem?_nil, Nat.zero_add, Nat.reduceAdd, Nat.reduceSub, Nat.reduceLT, Nat.reduceLeDiff, if_true, Bool.not_true, Bool.not_false, List.map_cons, List.map_nil, List.cons_append, List.nil_append, reduceIte, and_self, and_true, true_and, decide_true, decide_false, Bool.true_and, Bool.and_true, Bool.false_and, Bool.and_false, fin_non, fin_bl, fin_int, fin_str, finX_same', gt_iff_lt, Nat.lt_add_one, Bool.false_eq_true]
              · have dz : decide (lf = ls) = false := decide_eq_false z
                simp only [lmF, eb, ef, es, at_0, l2, dz, nin2, evSs, evS, evE, evL, evT, evTA, evTO, evF, evSrc, evO, evAnd, evOr, asgT, asgTs, cx_glob, cx_call, shal_int, shal_str, shal_tup, shal_lst, shal_non, shal_bl, bin_addi, bin_subi, bin_addt, bin_addl, bin_adds, bin_mod, bin_div, cmp_lt, cmp_le, cmp_gt, cmp_ge, cmp_eqi, cmp_nei, cmp_eqs, cmp_nes, cmp_ins, cmp_nins, cmp_isn, cmp_isns, item_tup, item_lst, bi_lens, bi_lent, bi_lenl, bi_int, bi_intb, bi_abs, bi_max2, bi_tuplel, bi_tuplet, itD, slice, seqD, pure_non, pure_bl, pure_int, pure_str, pure_tup, pure_lst, pures_nil, pures_cons, startF, List.replicate, List.length_cons, List.length_nil, List.set_cons_zero, List.set_cons_succ, List.getElem?_cons_zero, List.getElem?_cons_succ, List.getElem?_nil, Nat.zero_add, Nat.reduceAdd, Nat.reduceSub, Nat.reduceLT, Nat.reduceLeDiff, if_true, Bool.not_true, Bool.not_false, List.map_cons, List.map_nil, List.cons_append, List.nil_append, reduceIte, and_self, and_true, true_and, decide_true, decide_false, Bool.true_and, Bool.and_true, Bool.false_and, Bool.and_false, fin_non, fin_bl, fin_int, fin_str, finX_same', gt_iff_lt, Nat.lt_add_one, Bool.false_eq_true]
            have t7 : ∀ (hh : Mem) (l : List Nat) (r : List Doc) (o8 : Option D), r.length ≤ 1000 → hh.length = h.length → evS (prog.cx k (callF prog k)) s_law_merge_7 (lmF (.mk lb kb) (.mk lf kf) (.mk ls ks) p n cs (some (.str l)) (some (.loc h.length)) o8) (hh ++ [.box (.lst (encs r))]) = .rt (enc (.mk l r)) (hh ++ [.box (.lst (encs r))]) := fun hh l r o8 hr hh' => by
              have tup : biF .tuple_ [.loc h.length] (hh ++ [.box (.lst (encs r))]) = some (.tup (encs r)) := bi_tupleb (g1 hh')
              have ln : 1 + (encs r).length ≤ LIM := lim_lt (by rw [encs_len]; omega)
              rw [show enc (.mk l r) = .tup (.str l :: encs r) from by rw [enc]]
              simp only [lmF, s_law_merge_7, tup, l1, ln, evSs, evS, evE, evL, evT, evTA, evTO, evF, evSrc, evO, evAnd, evOr, asgT, asgTs, cx_glob, cx_call, shal_int, shal_str, shal_tup, shal_lst, shal_non, shal_bl, bin_addi, bin_subi, bin_addt, bin_addl, bin_adds, bin_mod, bin_div, cmp_lt, cmp_le, cmp_gt, cmp_ge, cmp_eqi, cmp_nei, cmp_eqs, cmp_nes, cmp_ins, cmp_nins, cmp_isn, cmp_isns, item_tup, item_lst, bi_lens, bi_lent, bi_lenl, bi_int, bi_intb, bi_abs, bi_max2, bi_tuplel, bi_tuplet, itD, slice, seqD, pure_non, pure_bl, pure_int, pure_str, pure_tup, pure_lst, pures_nil, pures_cons, startF, List.replicate, List.length_cons, List.length_nil, List.set_cons_zero, List.set_cons_succ, List.getElem?_cons_zero, List.getElem?_cons_succ, List.getElem?_nil, Nat.zero_add, Nat.reduceAdd, Nat.reduceSub, Nat.reduceLT, Nat.reduceLeDiff, if_true, Bool.not_true, Bool.not_false, List.map_cons, List.map_nil, List.cons_append, List.nil_append, reduceIte, and_self, and_true, true_and, decide_true, decide_false, Bool.true_and, Bool.and_true, Bool.false_and, Bool.and_false, fin_non, fin_bl, fin_int, fin_str, finX_same', gt_iff_lt, Nat.lt_add_one, Bool.false_eq_true]
            have t5 : ∀ (hh : Mem) (l : List Nat), hh.length = h.length → evS (prog.cx k (callF prog k)) s_law_merge_5 (lmF (.mk lb kb) (.mk lf kf) (.mk ls ks) p n cs (some (.str l)) none none) hh = .nx (lmF (.mk lb kb) (.mk lf kf) (.mk ls ks) p n cs (some (.str l)) (some (.loc h.length)) none) (hh ++ [.box (.lst [])]) := fun hh l hh' => by
              simp only [lmF, s_law_merge_5, l0, hh', evSs, evS, evE, evL, evT, evTA, evTO, evF, evSrc, evO, evAnd, evOr, asgT, asgTs, cx_glob, cx_call, shal_int, shal_str, shal_tup, shal_lst, shal_non, shal_bl, bin_addi, bin_subi, bin_addt, bin_addl, bin_adds, bin_mod, bin_div, cmp_lt, cmp_le, cmp_gt, cmp_ge, cmp_eqi, cmp_nei, cmp_eqs, cmp_nes, cmp_ins, cmp_nins, cmp_isn, cmp_isns, item_tup, item_lst, bi_lens, bi_lent, bi_lenl, bi_int, bi_intb, bi_abs, bi_max2, bi_tuplel, bi_tuplet, itD, slice, seqD, pure_non, pure_bl, pure_int, pure_str, pure_tup, pure_lst, pures_nil, pures_cons, startF, List.replicate, List.length_cons, List.length_nil, List.set_cons_zero, List.set_cons_succ, List.getElem?_cons_zero, List.getElem?_cons_succ, List.getElem?_nil, Nat.zero_add, Nat.reduceAdd, Nat.reduceSub, Nat.reduceLT, Nat.reduceLeDiff, if_true, Bool.not_true, Bool.not_false, List.map_cons, List.map_nil, List.cons_append, List.nil_append, reduceIte, and_self, and_true, true_and, decide_true, decide_false, Bool.true_and, Bool.and_true, Bool.false_and, Bool.and_false, fin_non, fin_bl, fin_int, fin_str, finX_same', gt_iff_lt, Nat.lt_add_one, Bool.false_eq_true]
            have ea : ∀ (hh : Mem) (l : List Nat), evL (prog.cx k (callF prog k)) (.cons (.c (.int 1)) (.cons (.bi .len (.cons (.v 0) .nil)) .nil)) (lmF (.mk lb kb) (.mk lf kf) (.mk ls ks) p n cs (some (.str l)) (some (.loc h.length)) none) hh = .ok [.int 1, .int ((kb.length + 1 : Nat) : Int)] hh := fun hh l => by
              simp only [lmF, eb, encs_len, evSs, evS, evE, evL, evT, evTA, evTO, evF, evSrc, evO, evAnd, evOr, asgT, asgTs, cx_glob, cx_call, shal_int, shal_str, shal_tup, shal_lst, shal_non, shal_bl, bin_addi, bin_subi, bin_addt, bin_addl, bin_adds, bin_mod, bin_div, cmp_lt, cmp_le, cmp_gt, cmp_ge, cmp_eqi, cmp_nei, cmp_eqs, cmp_nes, cmp_ins, cmp_nins, cmp_isn, cmp_isns, item_tup, item_lst, bi_lens, bi_lent, bi_lenl, bi_int, bi_intb, bi_abs, bi_max2, bi_tuplel, bi_tuplet, itD, slice, seqD, pure_non, pure_bl, pure_int, pure_str, pure_tup, pure_lst, pures_nil, pures_cons, startF, List.replicate, List.length_cons, List.length_nil, List.set_cons_zero, List.set_cons_succ, List.getElem?_cons_zero, List.getElem?_cons_succ, List.getElem?_nil, Nat.zero_add, Nat.reduceAdd, Nat.reduceSub, Nat.reduceLT, Nat.reduceLeDiff, if_true, Bool.not_true, Bool.not_false, List.map_cons, List.map_nil, List.cons_append, List.nil_append, reduceIte, and_self, and_true, true_and, decide_true, decide_false, Bool.true_and, Bool.and_true, Bool.false_and, Bool.and_false, fin_non, fin_bl, fin_int, fin_str, finX_same', gt_iff_lt, Nat.lt_add_one, Bool.false_eq_true]
            have lp := fun (l : List Nat) => lmerge_loop k ihk lb lf ls kb kf ks p n h.length (some (.str l)) cs hcw hp hb hf hs (by omega) hpl kb kf ks [] [] [] []
            have lnn := fun m => mgs_llen (chL cs) kb kf ks p 0 m e5 e6
            cases hml : ml lb lf ls with
            | some l =>
              simp only [Doc.lb, Doc.ks, hml] at hcs ⊢
              have lE : (if decide (ls = lb) = true then D.str lf else .str ls) = .str l := by
                unfold ml at hml
                by_cases z1 : ls = lb
                · rw [decide_eq_true z1, if_pos rfl]
                  rw [if_pos (.inr z1)] at hml
                  cases hml
                  rfl
                · rw [decide_eq_false z1, if_neg (by decide)]
                  by_cases z2 : lf = ls
                  · rw [if_pos (.inl z2)] at hml
                    cases hml
                    rw [z2]
                  · rw [if_neg (by rintro (y | y); exact z2 y; exact z1 y)] at hml
                    by_cases z3 : lf = lb
                    · rw [if_pos z3] at hml
                      cases hml
                      rfl
                    · rw [if_neg z3] at hml
                      cases hml
              have cE : (!(decide (lf = ls)) && !(decide (lf = lb) || (decide (ls = lb) || false))) = false := by
                unfold ml at hml
                by_cases z2 : lf = ls
                · rw [decide_eq_true z2]; rfl
                · by_cases z1 : ls = lb
                  · rw [decide_eq_true z1]; simp
                  · by_cases z3 : lf = lb
                    · rw [decide_eq_true z3]; simp
                    · rw [if_neg (by rintro (y | y); exact z2 y; exact z1 y), if_neg z3] at hml
                      cases hml
              rw [cE, lE] at c4
              rw [lE] at t3
              have t4 : evS (prog.cx k (callF prog k)) s_law_merge_4 (lmF (.mk lb kb) (.mk lf kf) (.mk ls ks) p n cs (some (.str l)) none none) h = .nx (lmF (.mk lb kb) (.mk lf kf) (.mk ls ks) p n cs (some (.str l)) none none) h := by
                rw [s_law_merge_4, evS_ite c4, if_neg (by decide), sq_nil]
              obtain ⟨o8', er⟩ := lp l xs h 0 none rfl rfl rfl rfl rfl rfl e5 e6 rfl e hx (by omega) (by simp; omega) (by omega) hcs
              have ln := lnn xs.length
              have pu := mgs_pure (chL cs) kb kf ks p 0 xs.length hp
              generalize mgs (chL cs) kb kf ks p 0 xs.length = r at er ln pu hcs ⊢
              rw [List.nil_append] at er
              have t6 := (evS_for (evSrc_rng (ea (h ++ [.box (.lst [])]) l) (rng2 (n := kb.length) (by omega)))).trans er
              refine st_nx t0 (st_nx t1 (st_nx t2 (st_nx t3 (st_nx t4 (st_nx (t5 h l rfl) (st_nx t6 (st_rt (t7 _ l r.1 o8' (by omega) set_len) ?_)))))))
              exact fin_set (D.pure_ok _ _ (enc_pure _)) (okB_box (by rw [pures_app, hx, pu]; rfl))
            | none =>
              simp only [Doc.lb, Doc.ks, hml, List.length_cons] at hcs ⊢
              obtain ⟨c, hc⟩ : ∃ c, cs[xs.length]? = some c := ⟨cs[xs.length], List.getElem?_eq_getElem (by omega)⟩
              have cw := hcw c (List.mem_of_getElem? hc)
              have cE : (!(decide (lf = ls)) && !(decide (lf = lb) || (decide (ls = lb) || false))) = true := by
                unfold ml at hml
                by_cases z : lf = ls ∨ ls = lb
                · rw [if_pos z] at hml; cases hml
                · rw [if_neg z] at hml
                  by_cases z3 : lf = lb
                  · rw [if_pos z3] at hml; cases hml
                  · rw [decide_eq_false (fun y => z (.inl y)), decide_eq_false z3, decide_eq_false (fun y => z (.inr y))]; rfl
              rw [cE] at c4
              rw [pk_eq hc cw]
              have t4 : evS (prog.cx k (callF prog k)) s_law_merge_4 (lmF (.mk lb kb) (.mk lf kf) (.mk ls ks) p n cs (some (if decide (ls = lb) = true then .str lf else .str ls)) none none) h = .nx (lmF (.mk lb kb) (.mk lf kf) (.mk ls ks) p n cs (some (.str (if c = SW then ls else lf))) none none) (h.set n (.box (.lst (xs ++ [.tup p])))) := by
                rw [s_law_merge_4, evS_ite c4, if_pos rfl]
                generalize (if decide (ls = lb) = true then D.str lf else .str ls) = lv0
                have i1 : evE (prog.cx k (callF prog k)) (.ix (.v 1) (.c (.int 0))) (lmF (.mk lb kb) (.mk lf kf) (.mk ls ks) p n cs (some lv0) none none) (h.set n (.box (.lst (xs ++ [.tup p])))) = .ok (.str lf) (h.set n (.box (.lst (xs ++ [.tup p])))) := by
                  simp only [lmF, ef, at_0, evSs, evS, evE, evL, evT, evTA, evTO, evF, evSrc, evO, evAnd, evOr, asgT, asgTs, cx_glob, cx_call, shal_int, shal_str, shal_tup, shal_lst, shal_non, shal_bl, bin_addi, bin_subi, bin_addt, bin_addl, bin_adds, bin_mod, bin_div, cmp_lt, cmp_le, cmp_gt, cmp_ge, cmp_eqi, cmp_nei, cmp_eqs, cmp_nes, cmp_ins, cmp_nins, cmp_isn, cmp_isns, item_tup, item_lst, bi_lens, bi_lent, bi_lenl, bi_int, bi_intb, bi_abs, bi_max2, bi_tuplel, bi_tuplet, itD, slice, seqD, pure_non, pure_bl, pure_int, pure_str, pure_tup, pure_lst, pures_nil, pures_cons, startF, List.replicate, List.length_cons, List.length_nil, List.set_cons_zero, List.set_cons_succ, List.getElem?_cons_zero, List.getElem?_cons_succ, List.getElem?_nil, Nat.zero_add, Nat.reduceAdd, Nat.reduceSub, Nat.reduceLT, Nat.reduceLeDiff, if_true, Bool.not_true, Bool.not_false, List.map_cons, List.map_nil, List.cons_append, List.nil_append, reduceIte, and_self, and_true, true_and, decide_true, decide_false, Bool.true_and, Bool.and_true, Bool.false_and, Bool.and_false, fin_non, fin_bl, fin_int, fin_str, finX_same', gt_iff_lt, Nat.lt_add_one, Bool.false_eq_true]
                have i2 : evE (prog.cx k (callF prog k)) (.ix (.v 2) (.c (.int 0))) (lmF (.mk lb kb) (.mk lf kf) (.mk ls ks) p n cs (some lv0) none none) (h.set n (.box (.lst (xs ++ [.tup p])))) = .ok (.str ls) (h.set n (.box (.lst (xs ++ [.tup p])))) := by
                  simp only [lmF, es, at_0, evSs, evS, evE, evL, evT, evTA, evTO, evF, evSrc, evO, evAnd, evOr, asgT, asgTs, cx_glob, cx_call, shal_int, shal_str, shal_tup, shal_lst, shal_non, shal_bl, bin_addi, bin_subi, bin_addt, bin_addl, bin_adds, bin_mod, bin_div, cmp_lt, cmp_le, cmp_gt, cmp_ge, cmp_eqi, cmp_nei, cmp_eqs, cmp_nes, cmp_ins, cmp_nins, cmp_isn, cmp_isns, item_tup, item_lst, bi_lens, bi_lent, bi_lenl, bi_int, bi_intb, bi_abs, bi_max2, bi_tuplel, bi_tuplet, itD, slice, seqD, pure_non, pure_bl, pure_int, pure_str, pure_tup, pure_lst, pures_nil, pures_cons, startF, List.replicate, List.length_cons, List.length_nil, List.set_cons_zero, List.set_cons_succ, List.getElem?_cons_zero, List.getElem?_cons_succ, List.getElem?_nil, Nat.zero_add, Nat.reduceAdd, Nat.reduceSub, Nat.reduceLT, Nat.reduceLeDiff, if_true, Bool.not_true, Bool.not_false, List.map_cons, List.map_nil, List.cons_append, List.nil_append, reduceIte, and_self, and_true, true_and, decide_true, decide_false, Bool.true_and, Bool.and_true, Bool.false_and, Bool.and_false, fin_non, fin_bl, fin_int, fin_str, finX_same', gt_iff_lt, Nat.lt_add_one, Bool.false_eq_true]
                refine sq_nx (ap1 _ none none) (sq_nx (evS_asg (d := .str (if c = SW then ls else lf)) (ev_ix (x := .lst [.str lf, .str ls]) (ev_lst (ev_cons i1 (ev_cons i2 ev_nil)) l2) (pick c _ none none hc) ?_) rfl) sq_nil)
                rw [shal_lst, item_lst, two]
                by_cases z : c = SW
                · rw [if_pos z, if_pos z]
                · rw [if_neg z, if_neg z]
              have hxl : (xs ++ [D.tup p]).length = xs.length + 1 := by rw [List.length_append]; rfl
              obtain ⟨o8', er⟩ := lp (if c = SW then ls else lf) (xs ++ [.tup p]) (h.set n (.box (.lst (xs ++ [.tup p])))) 0 none rfl rfl rfl rfl rfl rfl e5 e6 set_len e' hps (by omega) (by simp; omega) (by rw [hxl]; omega) (by rw [hxl]; omega)
              rw [hxl] at er
              have ln := lnn (xs.length + 1)
              have pu := mgs_pure (chL cs) kb kf ks p 0 (xs.length + 1) hp
              generalize mgs (chL cs) kb kf ks p 0 (xs.length + 1) = r at er ln pu hcs ⊢
              rw [List.nil_append, List.set_set, List.append_assoc] at er
              have t6 := (evS_for (evSrc_rng (ea (h.set n (.box (.lst (xs ++ [.tup p]))) ++ [.box (.lst [])]) (if c = SW then ls else lf)) (rng2 (n := kb.length) (by omega)))).trans er
              refine st_nx t0 (st_nx t1 (st_nx t2 (st_nx t3 (st_nx t4 (st_nx (t5 _ _ set_len) (st_nx t6 (st_rt (t7 _ (if c = SW then ls else lf) r.1 o8' (by omega) set_len) ?_)))))))
              exact fin_set (D.pure_ok _ _ (enc_pure _)) (okB_box (by rw [pures_app, hx]; simp [hp, pu]))
end K21
end
section
set_option Elab.async false
set_option autoImplicit false
set_option maxRecDepth 100000
set_option linter.all false
/-! N16: where two documents differ, by the law. -/
namespace K21
open Ev
theorem ap_self (d : Doc) (p : List D) : ap d d p = [] := by
  obtain ⟨l, ks⟩ := d
  rw [ap, if_pos rfl]
theorem aps_self : ∀ (ds : List Doc) (p : List D) (i : Nat), aps ds ds p i = []
  | [], _, _ => by simp [aps]
  | d :: ds, p, i => by rw [aps, ap_self, aps_self ds]; rfl
def LaOk (k : Nat) : Prop := ∀ (f s : Doc) (p : List D) (h : Mem), dp f + 1 ≤ k → sz f ≤ 900 → p.length + dp f ≤ 900 → D.pures p = true →
  callF prog k i_law_apart [enc f, enc s, .tup p] h = .ok (.lst (ap f s p)) h
theorem lapart_loop (k : Nat) (ihk : LaOk k) (lf ls : List Nat) (kf ks : List Doc) (p : List D) (hp : D.pures p = true) (hk : dps kf ≤ k) (hpl : p.length + dps kf ≤ 900) (h : Mem) :
    ∀ (f' s' pf ps : List Doc) (acc : List D) (i : Nat) (o : Option D), kf = pf ++ f' → ks = ps ++ s' → pf.length = i → ps.length = i → f'.length = s'.length → szs f' ≤ 900 → acc.length + szs f' ≤ 5000 →
    ∃ o', forL (evSs (prog.cx k (callF prog k)) b_law_apart_0) (.nm 4) (rngL ((i : Int) + 1) 1 f'.length) [some (enc (.mk lf kf)), some (enc (.mk ls ks)), some (.tup p), some (.loc h.length), o] (h ++ [.box (.lst acc)]) =
      .nx [some (enc (.mk lf kf)), some (enc (.mk ls ks)), some (.tup p), some (.loc h.length), o'] (h ++ [.box (.lst (acc ++ aps f' s' p i))]) := by
  intro f'
  induction f' with
  | nil => intro s' pf ps acc i o _ _ _ _ _ _ _; exact ⟨o, by simp [rngL, forL, aps]⟩
  | cons f fs ih =>
    intro s' pf ps acc i o ef es lf' ls' q hz ha
    cases s' with
    | nil => simp at q
    | cons s ss =>
      have mf : dp f + 1 ≤ dps kf := dp_mem (by rw [ef]; simp)
      rw [szs] at hz ha
      have hpi : D.pures (p ++ [D.int (i : Int)]) = true := by rw [pures_app, hp]; rfl
      have call := ihk f s (p ++ [D.int (i : Int)]) (h ++ [.box (.lst acc)]) (by omega) (by omega) (by rw [List.length_append]; simp; omega) hpi
      have al := ap_len f s (p ++ [D.int (i : Int)])
      obtain ⟨o', er⟩ := ih ss (pf ++ [f]) (ps ++ [s]) (acc ++ ap f s (p ++ [D.int (i : Int)])) (i + 1) (some (.int ((i : Int) + 1))) (by rw [ef]; simp) (by rw [es]; simp) (by simp; exact lf') (by simp; exact ls') (by simpa using q) (by omega) (by rw [List.length_append]; omega)
      refine ⟨o', ?_⟩
      have c1 := at_child (l := lf) (suf := fs) (d := f) lf'
      have c2 := at_child (l := ls) (suf := ss) (d := s) ls'
      have l1 : 1 ≤ LIM := by decide
      have lp : p.length + 1 ≤ LIM := lim_lt (by omega)
      have la : acc.length + (ap f s (p ++ [D.int (i : Int)])).length ≤ LIM := lim_lt (by omega)
      have e11 : (i : Int) + 1 - 1 = (i : Int) := by omega
      have ga : evL (prog.cx k (callF prog k)) (.cons (.call 24 (.cons (.ix (.v 0) (.v 4)) (.cons (.ix (.v 1) (.v 4)) (.cons (.bin .add (.v 2) (.tup (.cons (.bin .sub (.v 4) (.c (.int 1))) .nil))) .nil)))) .nil)
          [some (enc (.mk lf kf)), some (enc (.mk ls ks)), some (.tup p), some (.loc h.length), some (.int ((i : Int) + 1))] (h ++ [.box (.lst acc)]) = .ok [.lst (ap f s (p ++ [D.int (i : Int)]))] (h ++ [.box (.lst acc)]) := by
        rw [show enc (.mk lf kf) = .tup (.str lf :: encs kf) from by rw [enc], show enc (.mk ls ks) = .tup (.str ls :: encs ks) from by rw [enc], ef, es]
        simp only [c1, c2, lp, l1, e11, call, evSs, evS, evE, evL, evT, evTA, evTO, evF, evSrc, evO, evAnd, evOr, asgT, asgTs, cx_glob, cx_call, shal_int, shal_str, shal_tup, shal_lst, shal_non, shal_bl, bin_addi, bin_subi, bin_addt, bin_addl, bin_adds, bin_mod, bin_div, cmp_lt, cmp_le, cmp_gt, cmp_ge, cmp_eqi, cmp_nei, cmp_eqs, cmp_nes, cmp_ins, cmp_nins, cmp_isn, cmp_isns, item_tup, item_lst, bi_lens, bi_lent, bi_lenl, bi_int, bi_intb, bi_abs, bi_max2, bi_tuplel, bi_tuplet, itD, slice, seqD, pure_non, pure_bl, pure_int, pure_str, pure_tup, pure_lst, pures_nil, pures_cons, startF, List.replicate, List.length_cons, List.length_nil, List.set_cons_zero, List.set_cons_succ, List.getElem?_cons_zero, List.getElem?_cons_succ, List.getElem?_nil, Nat.zero_add, Nat.reduceAdd, Nat.reduceSub, Nat.reduceLT, Nat.reduceLeDiff, if_true, Bool.not_true, Bool.not_false, List.map_cons, List.map_nil, List.cons_append, List.nil_append, reduceIte, and_self, and_true, true_and, decide_true, decide_false, Bool.true_and, Bool.and_true, Bool.false_and, Bool.and_false, fin_non, fin_bl, fin_int, fin_str, finX_same', gt_iff_lt, Nat.lt_add_one, Bool.false_eq_true]
      have hb : evSs (prog.cx k (callF prog k)) b_law_apart_0 [some (enc (.mk lf kf)), some (enc (.mk ls ks)), some (.tup p), some (.loc h.length), some (.int ((i : Int) + 1))] (h ++ [.box (.lst acc)]) =
          .nx [some (enc (.mk lf kf)), some (enc (.mk ls ks)), some (.tup p), some (.loc h.length), some (.int ((i : Int) + 1))] (h ++ [.box (.lst (acc ++ ap f s (p ++ [D.int (i : Int)])))]) := by
        rw [b_law_apart_0]
        refine sq_nx (evS_expr (ev_mt (ev_v rfl) m1_get0 ga (mt_extend m1_get0 la))) ?_
        rw [m1_set0, sq_nil]
      have ei : (i : Int) + 1 + 1 = ((i + 1 : Nat) : Int) + 1 := by omega
      rw [List.length_cons, rngL, forL_nx rfl hb, ei, er, aps, List.append_assoc]
theorem law_apart_ok (k : Nat) : LaOk k := by
  induction k with
  | zero => intro f s p h h1; omega
  | succ k ihk =>
    rintro ⟨lf, kf⟩ ⟨ls, ks⟩ p h hk hz hpl hp
    rw [callF_out d_law_apart rfl ⟨rfl, by decide⟩, d_law_apart]
    rw [dp] at hk hpl
    rw [sz] at hz
    have ef : enc (.mk lf kf) = .tup (.str lf :: encs kf) := by rw [enc]
    have es : enc (.mk ls ks) = .tup (.str ls :: encs ks) := by rw [enc]
    have le := lenE kf ks
    have l1 : 1 ≤ LIM := by decide
    have l0 : 0 ≤ LIM := by decide
    have lk := len_szs kf
    have cnd : evT (prog.cx k (callF prog k)) (.or (.cons (.e (.cmp .ne (.ix (.v 0) (.c (.int 0))) (.ix (.v 1) (.c (.int 0))))) (.cons (.e (.cmp .ne (.bi .len (.cons (.v 0) .nil)) (.bi .len (.cons (.v 1) .nil)))) .nil))) [some (enc (.mk lf kf)), some (enc (.mk ls ks)), some (.tup p), none, none] h = .ok (!decide (lf = ls) || !decide (kf.length = ks.length)) h := by
      by_cases z : lf = ls
      · have dz : decide (lf = ls) = true := decide_eq_true z
        simp only [ef, es, at_0, dz, le, Bool.false_or, evSs, evS, evE, evL, evT, evTA, evTO, evF, evSrc, evO, evAnd, evOr, asgT, asgTs, cx_glob, cx_call, shal_int, shal_str, shal_tup, shal_lst, shal_non, shal_bl, bin_addi, bin_subi, bin_addt, bin_addl, bin_adds, bin_mod, bin_div, cmp_lt, cmp_le, cmp_gt, cmp_ge, cmp_eqi, cmp_nei, cmp_eqs, cmp_nes, cmp_ins, cmp_nins, cmp_isn, cmp_isns, item_tup, item_lst, bi_lens, bi_lent, bi_lenl, bi_int, bi_intb, bi_abs, bi_max2, bi_tuplel, bi_tuplet, itD, slice, seqD, pure_non, pure_bl, pure_int, pure_str, pure_tup, pure_lst, pures_nil, pures_cons, startF, List.replicate, List.length_cons, List.length_nil, List.set_cons_zero, List.set_cons_succ, List.getElem?_cons_zero, List.getElem?_cons_succ, List.getElem?_nil, Nat.zero_add, Nat.reduceAdd, Nat.reduceSub, Nat.reduceLT, Nat.reduceLeDiff, if_true, Bool.not_true, Bool.not_false, List.map_cons, List.map_nil, List.cons_append, List.nil_append, reduceIte, and_self, and_true, true_and, decide_true, decide_false, Bool.true_and, Bool.and_true, Bool.false_and, Bool.and_false, fin_non, fin_bl, fin_int, fin_str, finX_same', gt_iff_lt, Nat.lt_add_one, Bool.false_eq_true]
      · have dz : decide (lf = ls) = false := decide_eq_false z
        simp only [ef, es, at_0, dz, Bool.true_or, evSs, evS, evE, evL, evT, evTA, evTO, evF, evSrc, evO, evAnd, evOr, asgT, asgTs, cx_glob, cx_call, shal_int, shal_str, shal_tup, shal_lst, shal_non, shal_bl, bin_addi, bin_subi, bin_addt, bin_addl, bin_adds, bin_mod, bin_div, cmp_lt, cmp_le, cmp_gt, cmp_ge, cmp_eqi, cmp_nei, cmp_eqs, cmp_nes, cmp_ins, cmp_nins, cmp_isn, cmp_isns, item_tup, item_lst, bi_lens, bi_lent, bi_lenl, bi_int, bi_intb, bi_abs, bi_max2, bi_tuplel, bi_tuplet, itD, slice, seqD, pure_non, pure_bl, pure_int, pure_str, pure_tup, pure_lst, pures_nil, pures_cons, startF, List.replicate, List.length_cons, List.length_nil, List.set_cons_zero, List.set_cons_succ, List.getElem?_cons_zero, List.getElem?_cons_succ, List.getElem?_nil, Nat.zero_add, Nat.reduceAdd, Nat.reduceSub, Nat.reduceLT, Nat.reduceLeDiff, if_true, Bool.not_true, Bool.not_false, List.map_cons, List.map_nil, List.cons_append, List.nil_append, reduceIte, and_self, and_true, true_and, decide_true, decide_false, Bool.true_and, Bool.and_true, Bool.false_and, Bool.and_false, fin_non, fin_bl, fin_int, fin_str, finX_same', gt_iff_lt, Nat.lt_add_one, Bool.false_eq_true]
    by_cases z : lf ≠ ls ∨ kf.length ≠ ks.length
    · have zz : (!decide (lf = ls) || !decide (kf.length = ks.length)) = true := by
        rcases z with y | y
        · rw [decide_eq_false y]; rfl
        · rw [decide_eq_false y]; simp
      rw [zz] at cnd
      have ne : ¬ (Doc.mk lf kf : Doc) = .mk ls ks := by
        intro q
        injection q with q1 q2
        subst q1 q2
        rcases z with y | y
        · exact y rfl
        · exact y rfl
      rw [ap, if_neg ne, if_pos (show lf ≠ (Doc.mk ls ks).lb ∨ kf.length ≠ (Doc.mk ls ks).ks.length from z)]
      refine st_rt (d := .lst [.tup p]) (h1 := h) ?_ (fin_pure (by simp [hp]))
      refine (evS_ite cnd).trans ?_
      rw [if_pos rfl]
      exact sq_rt (ev_ret (ev_lst (ev_cons (ev_v rfl) ev_nil) l1))
    · have zz : (!decide (lf = ls) || !decide (kf.length = ks.length)) = false := by
        have z1 : lf = ls := Classical.byContradiction fun y => z (.inl y)
        have z2 : kf.length = ks.length := Classical.byContradiction fun y => z (.inr y)
        rw [decide_eq_true z1, decide_eq_true z2]; rfl
      have z2 : kf.length = ks.length := Classical.byContradiction fun y => z (.inr y)
      rw [zz] at cnd
      have res : ap (.mk lf kf) (.mk ls ks) p = aps kf ks p 0 := by
        rw [ap]
        by_cases q : (Doc.mk lf kf : Doc) = .mk ls ks
        · rw [if_pos q]
          injection q with q1 q2
          rw [q2, aps_self]
        · rw [if_neg q, if_neg (show ¬ (lf ≠ (Doc.mk ls ks).lb ∨ kf.length ≠ (Doc.mk ls ks).ks.length) from z)]
          rfl
      rw [res]
      have t0 : evS (prog.cx k (callF prog k)) (.ite (.or (.cons (.e (.cmp .ne (.ix (.v 0) (.c (.int 0))) (.ix (.v 1) (.c (.int 0))))) (.cons (.e (.cmp .ne (.bi .len (.cons (.v 0) .nil)) (.bi .len (.cons (.v 1) .nil)))) .nil))) (.cons (.ret (.fr (.lst (.cons (.v 2) .nil)))) .nil) .nil) [some (enc (.mk lf kf)), some (enc (.mk ls ks)), some (.tup p), none, none] h = .nx [some (enc (.mk lf kf)), some (enc (.mk ls ks)), some (.tup p), none, none] h := by
        rw [evS_ite cnd, if_neg (by decide), sq_nil]
      have t1 : evS (prog.cx k (callF prog k)) (.asg (.nm 3) (.nw (.lst .nil))) [some (enc (.mk lf kf)), some (enc (.mk ls ks)), some (.tup p), none, none] h = .nx [some (enc (.mk lf kf)), some (enc (.mk ls ks)), some (.tup p), some (.loc h.length), none] (h ++ [.box (.lst [])]) := by
        simp only [l0, evSs, evS, evE, evL, evT, evTA, evTO, evF, evSrc, evO, evAnd, evOr, asgT, asgTs, cx_glob, cx_call, shal_int, shal_str, shal_tup, shal_lst, shal_non, shal_bl, bin_addi, bin_subi, bin_addt, bin_addl, bin_adds, bin_mod, bin_div, cmp_lt, cmp_le, cmp_gt, cmp_ge, cmp_eqi, cmp_nei, cmp_eqs, cmp_nes, cmp_ins, cmp_nins, cmp_isn, cmp_isns, item_tup, item_lst, bi_lens, bi_lent, bi_lenl, bi_int, bi_intb, bi_abs, bi_max2, bi_tuplel, bi_tuplet, itD, slice, seqD, pure_non, pure_bl, pure_int, pure_str, pure_tup, pure_lst, pures_nil, pures_cons, startF, List.replicate, List.length_cons, List.length_nil, List.set_cons_zero, List.set_cons_succ, List.getElem?_cons_zero, List.getElem?_cons_succ, List.getElem?_nil, Nat.zero_add, Nat.reduceAdd, Nat.reduceSub, Nat.reduceLT, Nat.reduceLeDiff, if_true, Bool.not_true, Bool.not_false, List.map_cons, List.map_nil, List.cons_append, List.nil_append, reduceIte, and_self, and_true, true_and, decide_true, decide_false, Bool.true_and, Bool.and_true, Bool.false_and, Bool.and_false, fin_non, fin_bl, fin_int, fin_str, finX_same', gt_iff_lt, Nat.lt_add_one, Bool.false_eq_true]
      obtain ⟨o', er⟩ := lapart_loop k ihk lf ls kf ks p hp (by omega) hpl h kf ks [] [] [] 0 none rfl rfl rfl rfl z2 (by omega) (by simp; omega)
      rw [List.nil_append] at er
      have ea : evL (prog.cx k (callF prog k)) (.cons (.c (.int 1)) (.cons (.bi .len (.cons (.v 0) .nil)) .nil)) [some (enc (.mk lf kf)), some (enc (.mk ls ks)), some (.tup p), some (.loc h.length), none] (h ++ [.box (.lst [])]) = .ok [.int 1, .int ((kf.length + 1 : Nat) : Int)] (h ++ [.box (.lst [])]) := by
        simp only [ef, encs_len, evSs, evS, evE, evL, evT, evTA, evTO, evF, evSrc, evO, evAnd, evOr, asgT, asgTs, cx_glob, cx_call, shal_int, shal_str, shal_tup, shal_lst, shal_non, shal_bl, bin_addi, bin_subi, bin_addt, bin_addl, bin_adds, bin_mod, bin_div, cmp_lt, cmp_le, cmp_gt, cmp_ge, cmp_eqi, cmp_nei, cmp_eqs, cmp_nes, cmp_ins, cmp_nins, cmp_isn, cmp_isns, item_tup, item_lst, bi_lens, bi_lent, bi_lenl, bi_int, bi_intb, bi_abs, bi_max2, bi_tuplel, bi_tuplet, itD, slice, seqD, pure_non, pure_bl, pure_int, pure_str, pure_tup, pure_lst, pures_nil, pures_cons, startF, List.replicate, List.length_cons, List.length_nil, List.set_cons_zero, List.set_cons_succ, List.getElem?_cons_zero, List.getElem?_cons_succ, List.getElem?_nil, Nat.zero_add, Nat.reduceAdd, Nat.reduceSub, Nat.reduceLT, Nat.reduceLeDiff, if_true, Bool.not_true, Bool.not_false, List.map_cons, List.map_nil, List.cons_append, List.nil_append, reduceIte, and_self, and_true, true_and, decide_true, decide_false, Bool.true_and, Bool.and_true, Bool.false_and, Bool.and_false, fin_non, fin_bl, fin_int, fin_str, finX_same', gt_iff_lt, Nat.lt_add_one, Bool.false_eq_true]
      have t2 := (evS_for (evSrc_rng ea (rng2 (n := kf.length) (by omega)))).trans er
      refine st_nx t0 (st_nx t1 (st_nx t2 (st_rt (d := .lst (aps kf ks p 0)) (h1 := h ++ [.gone]) ?_ ?_)))
      · simp only [m1_get0, m1_set0, evSs, evS, evE, evL, evT, evTA, evTO, evF, evSrc, evO, evAnd, evOr, asgT, asgTs, cx_glob, cx_call, shal_int, shal_str, shal_tup, shal_lst, shal_non, shal_bl, bin_addi, bin_subi, bin_addt, bin_addl, bin_adds, bin_mod, bin_div, cmp_lt, cmp_le, cmp_gt, cmp_ge, cmp_eqi, cmp_nei, cmp_eqs, cmp_nes, cmp_ins, cmp_nins, cmp_isn, cmp_isns, item_tup, item_lst, bi_lens, bi_lent, bi_lenl, bi_int, bi_intb, bi_abs, bi_max2, bi_tuplel, bi_tuplet, itD, slice, seqD, pure_non, pure_bl, pure_int, pure_str, pure_tup, pure_lst, pures_nil, pures_cons, startF, List.replicate, List.length_cons, List.length_nil, List.set_cons_zero, List.set_cons_succ, List.getElem?_cons_zero, List.getElem?_cons_succ, List.getElem?_nil, Nat.zero_add, Nat.reduceAdd, Nat.reduceSub, Nat.reduceLT, Nat.reduceLeDiff, if_true, Bool.not_true, Bool.not_false, List.map_cons, List.map_nil, List.cons_append, List.nil_append, reduceIte, and_self, and_true, true_and, decide_true, decide_false, Bool.true_and, Bool.and_true, Bool.false_and, Bool.and_false, fin_non, fin_bl, fin_int, fin_str, finX_same', gt_iff_lt, Nat.lt_add_one, Bool.false_eq_true]
      · exact fin_app (D.pure_ok _ _ (aps_pure kf ks p 0 hp)) rfl
end K21
end
section
set_option Elab.async false
set_option autoImplicit false
set_option maxRecDepth 100000
set_option linter.all false
/-! N17: what is told. -/
namespace K21
open Ev
abbrev TW : List Nat := [116, 111, 108, 100]
def told_b : CSs := match d_law_told.body with
  | .cons (.try_ b _ _) _ => b
  | _ => .nil
theorem told_body : d_law_told.body = .cons (.try_ told_b [0, 1, 2, 3, 4, 5] (.err 16)) .nil := rfl
def toldR (σ : Fr) : R → RS
  | .ok d h => .rt (.tup [.str TW, d]) h
  | .exc c x h => .exc c x σ h
  | .stuck => .stuck
/-- which def answers -/
def tdF : Nat → Nat
  | 0 => 7
  | 1 => 8
  | 2 => 10
  | _ => 11
def tdA (b f s c : D) : Nat → List D
  | 0 => [b, f, s]
  | 1 => [b, f, s]
  | 2 => [b, f, s, c]
  | _ => [f, s]
theorem told_run (k : Nat) (h : Mem) (kd : Nat) (hk : kd ≤ 3) (b f s c : D) : evSs (prog.cx k (callF prog k)) told_b [some (.int (kd : Int)), some b, some f, some s, some c, none] h = toldR [some (.int (kd : Int)), some b, some f, some s, some c, none] (callF prog k (tdF kd) (tdA b f s c kd) h) := by
  have l2 : 2 ≤ LIM := by decide
  have : kd = 0 ∨ kd = 1 ∨ kd = 2 ∨ kd = 3 := by omega
  rcases this with z | z | z | z
  · subst z
    have d : decide (((0 : Nat) : Int) < 2) = true := by decide
    have a : atI [D.fn 7, .fn 8] ((0 : Nat) : Int) = some (.fn 7) := atI_nat
    simp only [told_b, d_law_told, tdF, tdA, d, a, l2, evSs, evS, evE, evL, evT, evTA, evTO, evF, evSrc, evO, evAnd, evOr, asgT, asgTs, cx_glob, cx_call, shal_int, shal_str, shal_tup, shal_lst, shal_non, shal_bl, bin_addi, bin_subi, bin_addt, bin_addl, bin_adds, bin_mod, bin_div, cmp_lt, cmp_le, cmp_gt, cmp_ge, cmp_eqi, cmp_nei, cmp_eqs, cmp_nes, cmp_ins, cmp_nins, cmp_isn, cmp_isns, item_tup, item_lst, bi_lens, bi_lent, bi_lenl, bi_int, bi_intb, bi_abs, bi_max2, bi_tuplel, bi_tuplet, itD, slice, seqD, pure_non, pure_bl, pure_int, pure_str, pure_tup, pure_lst, pures_nil, pures_cons, startF, List.replicate, List.length_cons, List.length_nil, List.set_cons_zero, List.set_cons_succ, List.getElem?_cons_zero, List.getElem?_cons_succ, List.getElem?_nil, Nat.zero_add, Nat.reduceAdd, Nat.reduceSub, Nat.reduceLT, Nat.reduceLeDiff, if_true, Bool.not_true, Bool.not_false, List.map_cons, List.map_nil, List.cons_append, List.nil_append, reduceIte, and_self, and_true, true_and, decide_true, decide_false, Bool.true_and, Bool.and_true, Bool.false_and, Bool.and_false, fin_non, fin_bl, fin_int, fin_str, finX_same', gt_iff_lt, Nat.lt_add_one, Bool.false_eq_true]
    cases callF prog k 7 [b, f, s] h <;> rfl
  · subst z
    have d : decide (((1 : Nat) : Int) < 2) = true := by decide
    have a : atI [D.fn 7, .fn 8] ((1 : Nat) : Int) = some (.fn 8) := atI_nat
    simp only [told_b, d_law_told, tdF, tdA, d, a, l2, evSs, evS, evE, evL, evT, evTA, evTO, evF, evSrc, evO, evAnd, evOr, asgT, asgTs, cx_glob, cx_call, shal_int, shal_str, shal_tup, shal_lst, shal_non, shal_bl, bin_addi, bin_subi, bin_addt, bin_addl, bin_adds, bin_mod, bin_div, cmp_lt, cmp_le, cmp_gt, cmp_ge, cmp_eqi, cmp_nei, cmp_eqs, cmp_nes, cmp_ins, cmp_nins, cmp_isn, cmp_isns, item_tup, item_lst, bi_lens, bi_lent, bi_lenl, bi_int, bi_intb, bi_abs, bi_max2, bi_tuplel, bi_tuplet, itD, slice, seqD, pure_non, pure_bl, pure_int, pure_str, pure_tup, pure_lst, pures_nil, pures_cons, startF, List.replicate, List.length_cons, List.length_nil, List.set_cons_zero, List.set_cons_succ, List.getElem?_cons_zero, List.getElem?_cons_succ, List.getElem?_nil, Nat.zero_add, Nat.reduceAdd, Nat.reduceSub, Nat.reduceLT, Nat.reduceLeDiff, if_true, Bool.not_true, Bool.not_false, List.map_cons, List.map_nil, List.cons_append, List.nil_append, reduceIte, and_self, and_true, true_and, decide_true, decide_false, Bool.true_and, Bool.and_true, Bool.false_and, Bool.and_false, fin_non, fin_bl, fin_int, fin_str, finX_same', gt_iff_lt, Nat.lt_add_one, Bool.false_eq_true]
    cases callF prog k 8 [b, f, s] h <;> rfl
  · subst z
    have d : decide (((2 : Nat) : Int) < 2) = false := by decide
    have d2 : decide (((2 : Nat) : Int) = 2) = true := by decide
    simp only [told_b, d_law_told, tdF, tdA, d, d2, l2, evSs, evS, evE, evL, evT, evTA, evTO, evF, evSrc, evO, evAnd, evOr, asgT, asgTs, cx_glob, cx_call, shal_int, shal_str, shal_tup, shal_lst, shal_non, shal_bl, bin_addi, bin_subi, bin_addt, bin_addl, bin_adds, bin_mod, bin_div, cmp_lt, cmp_le, cmp_gt, cmp_ge, cmp_eqi, cmp_nei, cmp_eqs, cmp_nes, cmp_ins, cmp_nins, cmp_isn, cmp_isns, item_tup, item_lst, bi_lens, bi_lent, bi_lenl, bi_int, bi_intb, bi_abs, bi_max2, bi_tuplel, bi_tuplet, itD, slice, seqD, pure_non, pure_bl, pure_int, pure_str, pure_tup, pure_lst, pures_nil, pures_cons, startF, List.replicate, List.length_cons, List.length_nil, List.set_cons_zero, List.set_cons_succ, List.getElem?_cons_zero, List.getElem?_cons_succ, List.getElem?_nil, Nat.zero_add, Nat.reduceAdd, Nat.reduceSub, Nat.reduceLT, Nat.reduceLeDiff, if_true, Bool.not_true, Bool.not_false, List.map_cons, List.map_nil, List.cons_append, List.nil_append, reduceIte, and_self, and_true, true_and, decide_true, decide_false, Bool.true_and, Bool.and_true, Bool.false_and, Bool.and_false, fin_non, fin_bl, fin_int, fin_str, finX_same', gt_iff_lt, Nat.lt_add_one, Bool.false_eq_true]
    cases callF prog k 10 [b, f, s, c] h <;> rfl
  · subst z
    have d : decide (((3 : Nat) : Int) < 2) = false := by decide
    have d2 : decide (((3 : Nat) : Int) = 2) = false := by decide
    simp only [told_b, d_law_told, tdF, tdA, d, d2, l2, evSs, evS, evE, evL, evT, evTA, evTO, evF, evSrc, evO, evAnd, evOr, asgT, asgTs, cx_glob, cx_call, shal_int, shal_str, shal_tup, shal_lst, shal_non, shal_bl, bin_addi, bin_subi, bin_addt, bin_addl, bin_adds, bin_mod, bin_div, cmp_lt, cmp_le, cmp_gt, cmp_ge, cmp_eqi, cmp_nei, cmp_eqs, cmp_nes, cmp_ins, cmp_nins, cmp_isn, cmp_isns, item_tup, item_lst, bi_lens, bi_lent, bi_lenl, bi_int, bi_intb, bi_abs, bi_max2, bi_tuplel, bi_tuplet, itD, slice, seqD, pure_non, pure_bl, pure_int, pure_str, pure_tup, pure_lst, pures_nil, pures_cons, startF, List.replicate, List.length_cons, List.length_nil, List.set_cons_zero, List.set_cons_succ, List.getElem?_cons_zero, List.getElem?_cons_succ, List.getElem?_nil, Nat.zero_add, Nat.reduceAdd, Nat.reduceSub, Nat.reduceLT, Nat.reduceLeDiff, if_true, Bool.not_true, Bool.not_false, List.map_cons, List.map_nil, List.cons_append, List.nil_append, reduceIte, and_self, and_true, true_and, decide_true, decide_false, Bool.true_and, Bool.and_true, Bool.false_and, Bool.and_false, fin_non, fin_bl, fin_int, fin_str, finX_same', gt_iff_lt, Nat.lt_add_one, Bool.false_eq_true]
    cases callF prog k 11 [f, s] h <;> rfl
theorem told_ok (k : Nat) (h : Mem) (kd : Nat) (hk : kd ≤ 3) (b f s c d : D) (hd : d.pure = true) (e : callF prog k (tdF kd) (tdA b f s c kd) h = .ok d h) : callF prog (k + 1) i_law_told [.int (kd : Int), b, f, s, c] h = .ok (.tup [.str TW, d]) h := by
  rw [callF_out d_law_told rfl ⟨rfl, by decide⟩, told_body]
  have r := told_run k h kd hk b f s c
  rw [e] at r
  refine st_rt (d := .tup [.str TW, d]) (h1 := h) ?_ (fin_pure (by simp [hd]))
  show evS _ _ [some (.int (kd : Int)), some b, some f, some s, some c, none] h = _
  rw [evS, r]
  rfl
theorem told_exc (k : Nat) (hk1 : 1 ≤ k) (h : Mem) (kd : Nat) (hk : kd ≤ 3) (b f s c t : D) (x : Nat) (hx : [0, 1, 2, 3, 4, 5].contains x = true) (ht : errT 16 x = some t) (hp : t.pure = true) (e : callF prog k (tdF kd) (tdA b f s c kd) h = .exc x .non h) : callF prog (k + 1) i_law_told [.int (kd : Int), b, f, s, c] h = .ok t h := by
  rw [callF_out d_law_told rfl ⟨rfl, by decide⟩, told_body]
  have r := told_run k h kd hk b f s c
  rw [e] at r
  refine st_rt (d := t) (h1 := h) ?_ (fin_pure hp)
  show evS _ _ [some (.int (kd : Int)), some b, some f, some s, some c, none] h = _
  obtain ⟨j, rfl⟩ : ∃ j, k = j + 1 := ⟨k - 1, by omega⟩
  have et : (prog.cx (j + 1) (callF prog (j + 1))).errT 16 x = some t := ht
  rw [evS, r]
  simp only [toldR, hx, et, if_true]
theorem errT1 : errT 16 1 = some (.str [114, 101, 102, 117, 115, 101, 100]) := rfl
theorem errT2 : errT 16 2 = some (.str [108, 97, 114, 103, 101]) := rfl
theorem errT3 : errT 16 3 = some (.str [109, 105, 115, 115, 105, 110, 103]) := rfl
end K21
end
section
set_option Elab.async false
set_option autoImplicit false
set_option maxRecDepth 100000
set_option linter.all false
/-! N18: plain facts about merging. -/
namespace K21
open Ev
theorem ml_comm (b f s : List Nat) : ml b f s = ml b s f := by
  unfold ml
  by_cases h1 : f = s
  · subst h1; rfl
  · have h1' : ¬ s = f := fun z => h1 z.symm
    by_cases h2 : s = b
    · subst h2
      have : ¬ f = s := h1
      rw [if_pos (.inr rfl), if_neg (by rintro (z | z); exact h1' z; exact this z), if_pos rfl]
    · by_cases h3 : f = b
      · subst h3
        rw [if_neg (by rintro (z | z); exact h1 z; exact h2 z), if_pos rfl, if_pos (.inr rfl)]
      · rw [if_neg (by rintro (z | z); exact h1 z; exact h2 z), if_neg h3, if_neg (by rintro (z | z); exact h1' z; exact h3 z), if_neg h2]
mutual
/-- without a clash it is the same both ways -/
theorem mg_swap (ch : Nat → Nat) : ∀ (b f s : Doc) (p : List D) (n : Nat), (mg ch b f s p n).2 = [] → mg ch b s f p n = mg ch b f s p n
  | .mk lb kb, f, s, p, n, h => by
    rw [mg] at h ⊢
    rw [mg]
    by_cases e1 : f = s
    · subst e1; rfl
    · have e1' : ¬ s = f := fun z => e1 z.symm
      by_cases e2 : s = .mk lb kb
      · by_cases e3 : f = .mk lb kb
        · exact absurd (e3.trans e2.symm) e1
        · rw [if_neg (by rintro (z | z); exact e1' z; exact e3 z), if_pos e2, if_pos (.inr e2)]
      · have hfs : ¬ (f = s ∨ s = .mk lb kb) := by rintro (z | z); exact e1 z; exact e2 z
        rw [if_neg hfs] at h
        by_cases e3 : f = .mk lb kb
        · rw [if_pos (show s = f ∨ f = .mk lb kb from .inr e3), if_neg hfs, if_pos e3]
        · have hsf : ¬ (s = f ∨ f = .mk lb kb) := by rintro (z | z); exact e1' z; exact e3 z
          rw [if_neg hsf, if_neg e2, if_neg hfs, if_neg e3]
          rw [if_neg e3] at h
          by_cases e4 : kb.length ≠ f.ks.length ∨ kb.length ≠ s.ks.length
          · rw [if_pos e4] at h
            cases h
          · have e4' : ¬ (kb.length ≠ s.ks.length ∨ kb.length ≠ f.ks.length) := fun z => e4 z.symm
            rw [if_neg e4] at h
            rw [if_neg e4', if_neg e4, ml_comm lb s.lb f.lb]
            cases q : ml lb f.lb s.lb with
            | none => rw [q] at h; cases h
            | some l =>
              rw [q] at h
              dsimp only at h ⊢
              rw [mgs_swap ch kb f.ks s.ks p 0 n h]
theorem mgs_swap (ch : Nat → Nat) : ∀ (b f s : List Doc) (p : List D) (i n : Nat), (mgs ch b f s p i n).2 = [] → mgs ch b s f p i n = mgs ch b f s p i n
  | [], _, _, _, _, _, _ => by simp [mgs]
  | b :: bs, [], [], _, _, _, _ => by simp [mgs]
  | b :: bs, [], s :: ss, _, _, _, _ => by simp [mgs]
  | b :: bs, f :: fs, [], _, _, _, _ => by simp [mgs]
  | b :: bs, f :: fs, s :: ss, p, i, n, h => by
    rw [mgs] at h ⊢
    rw [mgs]
    dsimp only at h ⊢
    obtain ⟨h1, h2⟩ := List.append_eq_nil_iff.mp h
    have e1 := mg_swap ch b f s (p ++ [D.int (i : Int)]) n h1
    have e2 := mgs_swap ch bs fs ss p (i + 1) _ h2
    rw [e1, e2]
end
theorem mg_bbs (ch : Nat → Nat) (b s : Doc) (p : List D) (n : Nat) : mg ch b b s p n = (s, []) := by
  obtain ⟨l, ks⟩ := b
  rw [mg]
  by_cases e : (Doc.mk l ks) = s
  · rw [if_pos (.inl e), e]
  · rw [if_neg (by rintro (z | z); exact e z; exact e z.symm), if_pos rfl]
theorem mg_bfb (ch : Nat → Nat) (b f : Doc) (p : List D) (n : Nat) : mg ch b f b p n = (f, []) := by
  obtain ⟨l, ks⟩ := b
  rw [mg, if_pos (.inr rfl)]
theorem mgs_bbs (ch : Nat → Nat) : ∀ (b s : List Doc) (p : List D) (i n : Nat), b.length = s.length → mgs ch b b s p i n = (s, [])
  | [], [], _, _, _, _ => by simp [mgs]
  | b :: bs, s :: ss, p, i, n, h => by
    rw [mgs, mg_bbs]
    dsimp only
    rw [mgs_bbs ch bs ss p (i + 1) _ (by simpa using h)]
    rfl
theorem mgs_bfb (ch : Nat → Nat) : ∀ (b f : List Doc) (p : List D) (i n : Nat), b.length = f.length → mgs ch b f b p i n = (f, [])
  | [], [], _, _, _, _ => by simp [mgs]
  | b :: bs, s :: ss, p, i, n, h => by
    rw [mgs, mg_bfb]
    dsimp only
    rw [mgs_bfb ch bs ss p (i + 1) _ (by simpa using h)]
    rfl
mutual
theorem sub_put : ∀ (d : Doc) (p : List Nat) (x s : Doc), sub d p = some s → sub (put d p x) p = some x
  | .mk l ks, [], x, s, h => by rw [put, sub]
  | .mk l ks, i :: p, x, s, h => by
    rw [sub] at h
    cases q : ks[i]? with
    | none => rw [q] at h; cases h
    | some c =>
      rw [q] at h
      obtain ⟨c', e, hc⟩ := subs_put ks i p x s c q h
      rw [put, sub, e]
      exact hc
theorem subs_put : ∀ (ks : List Doc) (i : Nat) (p : List Nat) (x s c : Doc), ks[i]? = some c → sub c p = some s → ∃ c', (puts ks i p x)[i]? = some c' ∧ sub c' p = some x
  | [], i, p, x, s, c, e, _ => by simp at e
  | a :: ks, 0, p, x, s, c, e, h => by
    simp at e
    subst e
    exact ⟨put a p x, by rw [puts]; rfl, sub_put a p x s h⟩
  | a :: ks, i + 1, p, x, s, c, e, h => by
    obtain ⟨c', e', hc⟩ := subs_put ks i p x s c (by simpa using e) h
    exact ⟨c', by rw [puts]; simpa using e', hc⟩
end
mutual
theorem put_self : ∀ (d : Doc) (p : List Nat) (x : Doc), sub d p = some x → put d p x = d
  | .mk l ks, [], x, h => by rw [sub] at h; cases h; rw [put]
  | .mk l ks, i :: p, x, h => by
    rw [sub] at h
    cases q : ks[i]? with
    | none => rw [q] at h; cases h
    | some c =>
      rw [q] at h
      rw [put, puts_self ks i p x c q h]
theorem puts_self : ∀ (ks : List Doc) (i : Nat) (p : List Nat) (x c : Doc), ks[i]? = some c → sub c p = some x → puts ks i p x = ks
  | [], i, p, x, c, e, _ => by simp at e
  | a :: ks, 0, p, x, c, e, h => by
    simp at e
    subst e
    rw [puts, put_self a p x h]
  | a :: ks, i + 1, p, x, c, e, h => by
    rw [puts, puts_self ks i p x c (by simpa using e) h]
end
mutual
/-- changes at two leaves: the merge has both -/
theorem mg_two (ch : Nat → Nat) : ∀ (b : Doc) (p q : List Nat) (x y : Doc) (lp lq : List Nat) (pp : List D) (n : Nat), sub b p = some (.mk lp []) → sub b q = some (.mk lq []) → p ≠ q → y.ks ≠ [] →
    mg ch b (put b p x) (put b q y) pp n = (put (put b p x) q y, [])
  | .mk l ks, p, q, x, y, lp, lq, pp, n, hp, hq, ne, hy => by
    have sq := sub_put (.mk l ks) q y _ hq
    rw [mg]
    by_cases e1 : put (.mk l ks) p x = put (.mk l ks) q y
    · rw [if_pos (.inl e1), e1, put_self _ q y sq]
    · have e2 : ¬ put (.mk l ks) q y = .mk l ks := by
        intro z
        rw [z, hq] at sq
        cases sq
        exact hy rfl
      rw [if_neg (by rintro (z | z); exact e1 z; exact e2 z)]
      by_cases e3 : put (.mk l ks) p x = .mk l ks
      · rw [if_pos e3, e3]
      · rw [if_neg e3]
        cases p with
        | nil =>
          rw [sub] at hp
          cases hp
          cases q with
          | nil => exact absurd rfl ne
          | cons j q =>
            rw [sub] at hq
            simp at hq
        | cons i p =>
          cases q with
          | nil =>
            rw [sub] at hq
            cases hq
            rw [sub] at hp
            simp at hp
          | cons j q =>
            rw [sub] at hp hq
            cases qi : ks[i]? with
            | none => rw [qi] at hp; cases hp
            | some ci =>
              cases qj : ks[j]? with
              | none => rw [qj] at hq; cases hq
              | some cj =>
                rw [qi] at hp
                rw [qj] at hq
                rw [put, put]
                have l1 := puts_len ks i p x
                have l2 := puts_len ks j q y
                rw [if_neg (by rintro (z | z); exact z l1.symm; exact z l2.symm)]
                have m : ml l (Doc.mk l (puts ks i p x)).lb (Doc.mk l (puts ks j q y)).lb = some l := by
                  show ml l l l = some l
                  unfold ml
                  rw [if_pos (.inl rfl)]
                rw [m]
                dsimp only [Doc.ks]
                rw [mgs_two ch ks i j p q x y lp lq ci cj pp 0 n qi qj hp hq (by
                  intro z w
                  exact ne (by rw [z, w])) hy, put]
theorem mgs_two (ch : Nat → Nat) : ∀ (ks : List Doc) (i j : Nat) (p q : List Nat) (x y : Doc) (lp lq : List Nat) (ci cj : Doc) (pp : List D) (a n : Nat), ks[i]? = some ci → ks[j]? = some cj → sub ci p = some (.mk lp []) → sub cj q = some (.mk lq []) → (i = j → p ≠ q) → y.ks ≠ [] →
    mgs ch ks (puts ks i p x) (puts ks j q y) pp a n = (puts (puts ks i p x) j q y, [])
  | [], i, j, p, q, x, y, lp, lq, ci, cj, pp, a, n, hi, _, _, _, _, _ => by simp at hi
  | k :: ks, 0, 0, p, q, x, y, lp, lq, ci, cj, pp, a, n, hi, hj, hp, hq, ne, hy => by
    simp at hi hj
    subst hi hj
    rw [puts, puts, puts, mgs, mg_two ch k p q x y lp lq _ _ hp hq (ne rfl) hy]
    dsimp only
    rw [mgs_bbs ch ks ks pp _ _ rfl]
    rfl
  | k :: ks, 0, j + 1, p, q, x, y, lp, lq, ci, cj, pp, a, n, hi, hj, hp, hq, ne, hy => by
    rw [puts, puts, puts, mgs, mg_bfb]
    dsimp only
    rw [mgs_bbs ch ks _ pp _ _ (puts_len ks j q y).symm]
    rfl
  | k :: ks, i + 1, 0, p, q, x, y, lp, lq, ci, cj, pp, a, n, hi, hj, hp, hq, ne, hy => by
    rw [puts, puts, puts, mgs, mg_bbs]
    dsimp only
    rw [mgs_bfb ch ks _ pp _ _ (puts_len ks i p x).symm]
    rfl
  | k :: ks, i + 1, j + 1, p, q, x, y, lp, lq, ci, cj, pp, a, n, hi, hj, hp, hq, ne, hy => by
    rw [puts, puts, puts, mgs, mg_bbs]
    dsimp only
    rw [mgs_two ch ks i j p q x y lp lq ci cj pp _ _ (by simpa using hi) (by simpa using hj) hp hq (fun z => ne (by rw [z])) hy]
    rfl
end
end K21
end
section
set_option Elab.async false
set_option autoImplicit false
set_option maxRecDepth 100000
set_option linter.all false
/-! N19: rows of leaves; how long the texts are. -/
namespace K21
open Ev
mutual
def nl : Doc → List Nat → List (List Nat × Doc)
  | .mk l ks, p => (p, .mk l ks) :: nls ks p 0
def nls : List Doc → List Nat → Nat → List (List Nat × Doc)
  | [], _, _ => []
  | k :: ks, p, i => nl k (p ++ [i]) ++ nls ks p (i + 1)
end
def ndD (x : List Nat × Doc) : D := .tup [.tup (pD x.1), enc x.2]
mutual
theorem nl_nds : ∀ (d : Doc) (p : List Nat), nds (pD p) d = (nl d p).map ndD
  | .mk l ks, p => by
    rw [nds, nl, nls_ndss ks p 0]
    rfl
theorem nls_ndss : ∀ (ds : List Doc) (p : List Nat) (i : Nat), ndss (pD p) i ds = (nls ds p i).map ndD
  | [], p, i => rfl
  | d :: ds, p, i => by
    rw [ndss, nls, pD_snoc, nl_nds d, nls_ndss ds, List.map_append]
end
mutual
theorem nl_mem : ∀ (d : Doc) (p : List Nat) (x : List Nat × Doc), x ∈ nl d p → ∃ q, x.1 = p ++ q ∧ sub d q = some x.2
  | .mk l ks, p, x, h => by
    rw [nl] at h
    rcases List.mem_cons.mp h with z | z
    · subst z
      exact ⟨[], (List.append_nil _).symm, by rw [sub]⟩
    · obtain ⟨j, q, c, e, hj, hs⟩ := nls_mem ks p 0 x z
      refine ⟨j :: q, by rw [e]; simp, ?_⟩
      rw [sub, hj]
      exact hs
theorem nls_mem : ∀ (ds : List Doc) (p : List Nat) (i : Nat) (x : List Nat × Doc), x ∈ nls ds p i → ∃ (j : Nat) (q : List Nat) (c : Doc), x.1 = p ++ (i + j) :: q ∧ ds[j]? = some c ∧ sub c q = some x.2
  | [], p, i, x, h => by cases h
  | d :: ds, p, i, x, h => by
    rw [nls] at h
    rcases List.mem_append.mp h with z | z
    · obtain ⟨q, e, hs⟩ := nl_mem d (p ++ [i]) x z
      exact ⟨0, q, d, by rw [e]; simp, rfl, hs⟩
    · obtain ⟨j, q, c, e, hj, hs⟩ := nls_mem ds p (i + 1) x z
      refine ⟨j + 1, q, c, ?_, by simpa using hj, hs⟩
      have : i + 1 + j = i + (j + 1) := by omega
      rw [e, this]
end
mutual
theorem nl_nodup : ∀ (d : Doc) (p : List Nat), ((nl d p).map Prod.fst).Nodup
  | .mk l ks, p => by
    rw [nl, List.map_cons, List.nodup_cons]
    refine ⟨?_, nls_nodup ks p 0⟩
    intro h
    obtain ⟨x, hx, e⟩ := List.mem_map.mp h
    obtain ⟨j, q, c, e', _⟩ := nls_mem ks p 0 x hx
    have e2 : p ++ (0 + j) :: q = p := e'.symm.trans e
    have := congrArg List.length e2
    rw [List.length_append, List.length_cons] at this
    omega
theorem nls_nodup : ∀ (ds : List Doc) (p : List Nat) (i : Nat), ((nls ds p i).map Prod.fst).Nodup
  | [], p, i => List.nodup_nil
  | d :: ds, p, i => by
    rw [nls, List.map_append, List.nodup_append]
    refine ⟨nl_nodup d (p ++ [i]), nls_nodup ds p (i + 1), ?_⟩
    intro a ha b hb e
    obtain ⟨x, hx, ex⟩ := List.mem_map.mp ha
    obtain ⟨y, hy, ey⟩ := List.mem_map.mp hb
    obtain ⟨q, e1, _⟩ := nl_mem d (p ++ [i]) x hx
    obtain ⟨j, q', c, e2, _⟩ := nls_mem ds p (i + 1) y hy
    rw [← ex, ← ey, e1, e2, List.append_assoc] at e
    have e := List.append_cancel_left e
    injection e with e _
    omega
end
/-- the leaves, by their paths -/
def lvs (d : Doc) : List (List Nat × Doc) := (nl d []).filter fun x => decide (x.2.ks.length = 0)
theorem lvs_mem {d : Doc} {x : List Nat × Doc} (h : x ∈ lvs d) : ∃ l, sub d x.1 = some (.mk l []) := by
  obtain ⟨h1, h2⟩ := List.mem_filter.mp h
  obtain ⟨q, e, hs⟩ := nl_mem d [] x h1
  rw [List.nil_append] at e
  rw [e]
  obtain ⟨p, ⟨l, ks⟩⟩ := x
  have h2 := of_decide_eq_true h2
  simp only [Doc.ks] at h2
  have : ks = [] := List.length_eq_zero_iff.mp h2
  subst this
  exact ⟨l, hs⟩
theorem lvs_two {d : Doc} (h : 1 < (lvs d).length) : ((lvs d)[0]'(by omega)).1 ≠ ((lvs d)[(lvs d).length - 1]'(by omega)).1 := by
  have nd : ((lvs d).map Prod.fst).Nodup := (nl_nodup d []).sublist ((List.filter_sublist).map Prod.fst)
  have := (List.pairwise_iff_getElem.mp nd) 0 ((lvs d).length - 1) (by rw [List.length_map]; omega) (by rw [List.length_map]; omega) (by omega)
  rw [List.getElem_map, List.getElem_map] at this
  exact this
/-! ### how long the texts are -/
structure Fn (x : D) (w e : Nat) : Prop where
  f : x.fine = true
  w : x.wt ≤ w
  d : x.dep ≤ e
mutual
theorem enc_fine : ∀ d : Doc, (enc d).fine = true
  | .mk l ks => by rw [enc, D.fine, D.fines, encs_fine ks]; rfl
theorem encs_fine : ∀ ds : List Doc, D.fines (encs ds) = true
  | [] => rfl
  | d :: ds => by rw [encs, D.fines, enc_fine d, encs_fine ds]; rfl
end
mutual
theorem enc_wt : ∀ d : Doc, okd d = true → (enc d).wt + 2 ≤ 140 * sz d
  | .mk l ks, h => by
    rw [okd, Bool.and_eq_true, Bool.and_eq_true] at h
    have a := encs_wt ks h.2
    have b := lab_len h.1.1
    rw [enc, D.wt, D.wts, D.wt, sz]
    omega
theorem encs_wt : ∀ ds : List Doc, okds ds = true → D.wts (encs ds) ≤ 140 * szs ds
  | [], _ => Nat.zero_le _
  | d :: ds, h => by
    rw [okds, Bool.and_eq_true] at h
    have a := enc_wt d h.1
    have b := encs_wt ds h.2
    rw [encs, D.wts, szs]
    omega
end
theorem enc_fn {d : Doc} (h : okd d = true) {m : Nat} (hz : sz d ≤ m) : Fn (enc d) (140 * m) m := by
  have := enc_wt d h
  have := dp_sz d
  exact ⟨enc_fine d, by omega, by rw [enc_dep]; omega⟩
/-- numbers of a path -/
def ps (m : Nat) (p : List D) : Prop := p.length ≤ m ∧ ∀ x ∈ p, ∃ i : Nat, x = .int (i : Int) ∧ i < 1000
theorem ps_snoc {m : Nat} {p : List D} {i : Nat} (h : ps m p) (hi : i < 1000) : ps (m + 1) (p ++ [D.int (i : Int)]) := by
  refine ⟨by rw [List.length_append]; simp; exact h.1, fun x hx => ?_⟩
  rcases List.mem_append.mp hx with z | z
  · exact h.2 x z
  · exact ⟨i, by simpa using z, hi⟩
theorem log_small {i : Nat} (h : i < 1000) : ((i : Int).natAbs).log2 < 10 := by
  rw [Int.natAbs_natCast]
  by_cases z : i = 0
  · subst z; decide
  · exact (Nat.log2_lt z).mpr (by omega)
theorem ps_fn {p : List D} : ∀ {m : Nat}, ps m p → D.fines p = true ∧ D.wts p ≤ 15 * m ∧ D.deps p = 0 := by
  induction p with
  | nil => intro m _; exact ⟨rfl, Nat.zero_le _, rfl⟩
  | cons x p ih =>
    intro m h
    have hl := h.1
    rw [List.length_cons] at hl
    obtain ⟨i, e, hi⟩ := h.2 x List.mem_cons_self
    obtain ⟨a, b, c⟩ := ih (m := m - 1) ⟨by omega, fun y hy => h.2 y (List.mem_cons_of_mem _ hy)⟩
    have lg := log_small hi
    subst e
    refine ⟨?_, ?_, ?_⟩
    · rw [D.fines, D.fine, a, decide_eq_true (by omega)]; rfl
    · rw [D.wts, D.wt]; omega
    · rw [D.deps, c]; rfl
theorem path_fn {m : Nat} {p : List D} (h : ps m p) : Fn (.tup p) (15 * m + 4) 1 := by
  obtain ⟨a, b, c⟩ := ps_fn h
  exact ⟨by rw [D.fine, a], by rw [D.wt]; omega, by rw [D.dep, c]; omega⟩
theorem all_fn {w e : Nat} : ∀ {xs : List D} {n : Nat}, xs.length ≤ n → (∀ x ∈ xs, Fn x w e) → D.fines xs = true ∧ D.wts xs ≤ n * (w + 2) ∧ D.deps xs ≤ e
  | [], n, _, _ => ⟨rfl, Nat.zero_le _, Nat.zero_le _⟩
  | x :: xs, n, hl, h => by
    rw [List.length_cons] at hl
    obtain ⟨m, rfl⟩ : ∃ m, n = m + 1 := ⟨n - 1, by omega⟩
    obtain ⟨a, b, c⟩ := all_fn (xs := xs) (n := m) (by omega) fun y hy => h y (List.mem_cons_of_mem _ hy)
    have g := h x List.mem_cons_self
    have gf := g.f
    have gw := g.w
    have gd := g.d
    refine ⟨by rw [D.fines, gf, a]; rfl, ?_, by rw [D.deps]; omega⟩
    rw [D.wts, Nat.succ_mul]
    omega
theorem lst_fn {w e n : Nat} {xs : List D} (hl : xs.length ≤ n) (h : ∀ x ∈ xs, Fn x w e) : Fn (.lst xs) (n * (w + 2) + 4) (e + 1) := by
  obtain ⟨a, b, c⟩ := all_fn hl h
  exact ⟨by rw [D.fine, a], by rw [D.wt]; omega, by rw [D.dep]; omega⟩
mutual
theorem mg_paths (ch : Nat → Nat) : ∀ (b f s : Doc) (p : List D) (n m : Nat), ps m p → sz b ≤ 900 → ∀ x ∈ (mg ch b f s p n).2, ∃ q, x = .tup q ∧ ps (m + dp b) q
  | .mk lb kb, f, s, p, n, m, hp, hz, x, hx => by
    rw [sz] at hz
    have lk := len_szs kb
    have here : ∃ q, D.tup p = .tup q ∧ ps (m + dp (.mk lb kb)) q := ⟨p, rfl, Nat.le_trans hp.1 (by omega), hp.2⟩
    have h0 := mgs_paths ch kb f.ks s.ks p 0 n m hp (by omega) (by omega)
    have h1 := mgs_paths ch kb f.ks s.ks p 0 (n + 1) m hp (by omega) (by omega)
    rw [mg] at hx
    split at hx
    · cases hx
    · split at hx
      · cases hx
      · split at hx
        · rw [List.mem_singleton] at hx
          subst hx
          exact here
        · split at hx
          · obtain ⟨q, e, hq⟩ := h0 x hx
            exact ⟨q, e, by rw [dp]; exact hq⟩
          · rcases List.mem_cons.mp hx with z | z
            · subst z; exact here
            · obtain ⟨q, e, hq⟩ := h1 x z
              exact ⟨q, e, by rw [dp]; exact hq⟩
theorem mgs_paths (ch : Nat → Nat) : ∀ (b f s : List Doc) (p : List D) (i n m : Nat), ps m p → szs b ≤ 900 → i + b.length < 1000 → ∀ x ∈ (mgs ch b f s p i n).2, ∃ q, x = .tup q ∧ ps (m + dps b) q
  | [], _, _, _, _, _, _, _, _, _, x, hx => by rw [mgs] at hx; cases hx; all_goals (intros; simp_all)
  | b :: bs, [], _, _, _, _, _, _, _, _, x, hx => by rw [mgs] at hx; cases hx; all_goals (intros; simp_all)
  | b :: bs, f :: fs, [], _, _, _, _, _, _, _, x, hx => by rw [mgs] at hx; cases hx; all_goals (intros; simp_all)
  | b :: bs, f :: fs, s :: ss, p, i, n, m, hp, hz, hi, x, hx => by
    rw [szs] at hz
    rw [List.length_cons] at hi
    rw [mgs] at hx
    dsimp only at hx
    rw [dps]
    rcases List.mem_append.mp hx with z | z
    · obtain ⟨q, e, hq⟩ := mg_paths ch b f s (p ++ [D.int (i : Int)]) n (m + 1) (ps_snoc hp (by omega)) (by omega) x z
      exact ⟨q, e, Nat.le_trans hq.1 (by omega), hq.2⟩
    · obtain ⟨q, e, hq⟩ := mgs_paths ch bs fs ss p (i + 1) _ m hp (by omega) (by omega) x z
      exact ⟨q, e, Nat.le_trans hq.1 (by omega), hq.2⟩
end
mutual
theorem ap_paths : ∀ (f s : Doc) (p : List D) (m : Nat), ps m p → sz f ≤ 900 → ∀ x ∈ ap f s p, ∃ q, x = .tup q ∧ ps (m + dp f) q
  | .mk l ks, s, p, m, hp, hz, x, hx => by
    rw [sz] at hz
    have lk := len_szs ks
    have h0 := aps_paths ks s.ks p 0 m hp (by omega) (by omega)
    rw [ap] at hx
    split at hx
    · cases hx
    · split at hx
      · rw [List.mem_singleton] at hx
        subst hx
        exact ⟨p, rfl, Nat.le_trans hp.1 (by omega), hp.2⟩
      · obtain ⟨q, e, hq⟩ := h0 x hx
        exact ⟨q, e, by rw [dp]; exact hq⟩
theorem aps_paths : ∀ (f s : List Doc) (p : List D) (i m : Nat), ps m p → szs f ≤ 900 → i + f.length < 1000 → ∀ x ∈ aps f s p i, ∃ q, x = .tup q ∧ ps (m + dps f) q
  | [], _, _, _, _, _, _, _, x, hx => by simp [aps] at hx
  | a :: as, [], _, _, _, _, _, _, x, hx => by simp [aps] at hx
  | a :: as, b :: bs, p, i, m, hp, hz, hi, x, hx => by
    rw [szs] at hz
    rw [List.length_cons] at hi
    rw [aps] at hx
    rw [dps]
    rcases List.mem_append.mp hx with z | z
    · obtain ⟨q, e, hq⟩ := ap_paths a b (p ++ [D.int (i : Int)]) (m + 1) (ps_snoc hp (by omega)) (by omega) x z
      exact ⟨q, e, Nat.le_trans hq.1 (by omega), hq.2⟩
    · obtain ⟨q, e, hq⟩ := aps_paths as bs p (i + 1) m hp (by omega) (by omega) x z
      exact ⟨q, e, Nat.le_trans hq.1 (by omega), hq.2⟩
end
mutual
theorem mg_ok (ch : Nat → Nat) : ∀ (b f s : Doc) (p : List D) (n : Nat), okd b = true → okd f = true → okd s = true → okd (mg ch b f s p n).1 = true
  | .mk lb kb, .mk lf kf, .mk ls ks, p, n, hb, hf, hs => by
    have hb' := hb
    have hf' := hf
    have hs' := hs
    rw [okd, Bool.and_eq_true, Bool.and_eq_true] at hb' hf' hs'
    have h0 := mgs_ok ch kb kf ks p 0 n hb'.2 hf'.2 hs'.2
    have h1 := mgs_ok ch kb kf ks p 0 (n + 1) hb'.2 hf'.2 hs'.2
    rw [mg]
    split
    · exact hf
    · split
      · exact hs
      · split
        · show okd (pk (ch n) (Doc.mk lb kb) (.mk lf kf) (.mk ls ks)) = true
          unfold pk
          split
          · exact hb
          · split
            · exact hf
            · exact hs
        · rename_i e4
          have e5 : kb.length = kf.length := Classical.byContradiction fun z => e4 (.inl z)
          have e6 : kb.length = ks.length := Classical.byContradiction fun z => e4 (.inr z)
          have k0 := mgs_llen ch kb kf ks p 0 n e5 e6
          have k1 := mgs_llen ch kb kf ks p 0 (n + 1) e5 e6
          split
          · rename_i l hl
            have ol : lab l = true := by
              simp only [Doc.lb] at hl
              unfold ml at hl
              split at hl
              · cases hl; exact hf'.1.1
              · split at hl
                · cases hl; exact hs'.1.1
                · cases hl
            show okd (.mk l (mgs ch kb kf ks p 0 n).1) = true
            rw [okd, ol, k0, hb'.1.2, h0]
            rfl
          · have ol : lab (pk (ch n) lb lf ls) = true := by
              unfold pk
              split
              · exact hb'.1.1
              · split
                · exact hf'.1.1
                · exact hs'.1.1
            show okd (.mk (pk (ch n) lb lf ls) (mgs ch kb kf ks p 0 (n + 1)).1) = true
            rw [okd, ol, k1, hb'.1.2, h1]
            rfl
theorem mgs_ok (ch : Nat → Nat) : ∀ (b f s : List Doc) (p : List D) (i n : Nat), okds b = true → okds f = true → okds s = true → okds (mgs ch b f s p i n).1 = true
  | [], _, _, _, _, _, _, _, _ => by simp [mgs, okds]
  | b :: bs, [], _, _, _, _, _, _, _ => by simp [mgs, okds]
  | b :: bs, f :: fs, [], _, _, _, _, _, _ => by simp [mgs, okds]
  | b :: bs, f :: fs, s :: ss, p, i, n, hb, hf, hs => by
    rw [okds, Bool.and_eq_true] at hb hf hs
    rw [mgs]
    dsimp only
    rw [okds, mg_ok ch b f s _ _ hb.1 hf.1 hs.1, mgs_ok ch bs fs ss p (i + 1) _ hb.2 hf.2 hs.2]
    rfl
end
end K21
end
section
set_option Elab.async false
set_option autoImplicit false
set_option maxRecDepth 100000
set_option linter.all false
/-! N20: what is told, case by case. -/
namespace K21
open Ev
theorem at_level {k m : Nat} (h : m ≤ k) : ∃ j, k = j + m := ⟨k - m, by omega⟩
abbrev AD : Doc := .mk [65] []
theorem lab_A : lab [65] = false := by decide
theorem three_at {k : Nat} (hk : 44 ≤ k) (h : Mem) {xs : List Doc} {b f s : Doc} (hx : [b, f, s] = xs ++ [AD] ++ [b, f, s].drop (xs.length + 1)) (gx : ∀ x ∈ xs, Good x) : callF prog k i_check_three [enc b, enc f, enc s] h = .exc 1 .non h := by
  obtain ⟨j, rfl⟩ := at_level (show 1 ≤ k by omega)
  exact check_three_bad j h hx gx (by decide) lab_A (by omega)
theorem clashes_bad (k : Nat) (hk : 44 ≤ k) (h : Mem) {b f s : Doc} (e : callF prog k i_check_three [enc b, enc f, enc s] h = .exc 1 .non h) : callF prog (k + 1) i_clashes [enc b, enc f, enc s] h = .exc 1 .non h := by
  rw [callF_out d_clashes rfl ⟨rfl, by decide⟩, d_clashes]
  refine st_exc (c := 1) (d := .non) (σ1 := startF 4 [enc b, enc f, enc s]) (h1 := h) ?_ finX_same
  simp only [e, evSs, evS, evE, evL, evT, evTA, evTO, evF, evSrc, evO, evAnd, evOr, asgT, asgTs, cx_glob, cx_call, shal_int, shal_str, shal_tup, shal_lst, shal_non, shal_bl, bin_addi, bin_subi, bin_addt, bin_addl, bin_adds, bin_mod, bin_div, cmp_lt, cmp_le, cmp_gt, cmp_ge, cmp_eqi, cmp_nei, cmp_eqs, cmp_nes, cmp_ins, cmp_nins, cmp_isn, cmp_isns, item_tup, item_lst, bi_lens, bi_lent, bi_lenl, bi_int, bi_intb, bi_abs, bi_max2, bi_tuplel, bi_tuplet, itD, slice, seqD, pure_non, pure_bl, pure_int, pure_str, pure_tup, pure_lst, pures_nil, pures_cons, startF, List.replicate, List.length_cons, List.length_nil, List.set_cons_zero, List.set_cons_succ, List.getElem?_cons_zero, List.getElem?_cons_succ, List.getElem?_nil, Nat.zero_add, Nat.reduceAdd, Nat.reduceSub, Nat.reduceLT, Nat.reduceLeDiff, if_true, Bool.not_true, Bool.not_false, List.map_cons, List.map_nil, List.cons_append, List.nil_append, reduceIte, and_self, and_true, true_and, decide_true, decide_false, Bool.true_and, Bool.and_true, Bool.false_and, Bool.and_false, fin_non, fin_bl, fin_int, fin_str, finX_same', gt_iff_lt, Nat.lt_add_one, Bool.false_eq_true]
theorem merge_bad (k : Nat) (hk : 44 ≤ k) (h : Mem) {b f s : Doc} (e : callF prog k i_check_three [enc b, enc f, enc s] h = .exc 1 .non h) : callF prog (k + 1) i_merge [enc b, enc f, enc s] h = .exc 1 .non h := by
  rw [callF_out d_merge rfl ⟨rfl, by decide⟩, d_merge]
  refine st_exc (c := 1) (d := .non) (σ1 := startF 7 [enc b, enc f, enc s]) (h1 := h) ?_ finX_same
  simp only [s_merge_0, e, evSs, evS, evE, evL, evT, evTA, evTO, evF, evSrc, evO, evAnd, evOr, asgT, asgTs, cx_glob, cx_call, shal_int, shal_str, shal_tup, shal_lst, shal_non, shal_bl, bin_addi, bin_subi, bin_addt, bin_addl, bin_adds, bin_mod, bin_div, cmp_lt, cmp_le, cmp_gt, cmp_ge, cmp_eqi, cmp_nei, cmp_eqs, cmp_nes, cmp_ins, cmp_nins, cmp_isn, cmp_isns, item_tup, item_lst, bi_lens, bi_lent, bi_lenl, bi_int, bi_intb, bi_abs, bi_max2, bi_tuplel, bi_tuplet, itD, slice, seqD, pure_non, pure_bl, pure_int, pure_str, pure_tup, pure_lst, pures_nil, pures_cons, startF, List.replicate, List.length_cons, List.length_nil, List.set_cons_zero, List.set_cons_succ, List.getElem?_cons_zero, List.getElem?_cons_succ, List.getElem?_nil, Nat.zero_add, Nat.reduceAdd, Nat.reduceSub, Nat.reduceLT, Nat.reduceLeDiff, if_true, Bool.not_true, Bool.not_false, List.map_cons, List.map_nil, List.cons_append, List.nil_append, reduceIte, and_self, and_true, true_and, decide_true, decide_false, Bool.true_and, Bool.and_true, Bool.false_and, Bool.and_false, fin_non, fin_bl, fin_int, fin_str, finX_same', gt_iff_lt, Nat.lt_add_one, Bool.false_eq_true]
theorem merge_by_bad (k : Nat) (h : Mem) {b f s : Doc} {c : D} (e : callF prog k i_clashes [enc b, enc f, enc s] h = .exc 1 .non h) : callF prog (k + 1) i_merge_by [enc b, enc f, enc s, c] h = .exc 1 .non h := by
  rw [callF_out d_merge_by rfl ⟨rfl, by decide⟩, d_merge_by]
  refine st_exc (c := 1) (d := .non) (σ1 := startF 9 [enc b, enc f, enc s, c]) (h1 := h) ?_ finX_same
  simp only [s_merge_by_0, e, evSs, evS, evE, evL, evT, evTA, evTO, evF, evSrc, evO, evAnd, evOr, asgT, asgTs, cx_glob, cx_call, shal_int, shal_str, shal_tup, shal_lst, shal_non, shal_bl, bin_addi, bin_subi, bin_addt, bin_addl, bin_adds, bin_mod, bin_div, cmp_lt, cmp_le, cmp_gt, cmp_ge, cmp_eqi, cmp_nei, cmp_eqs, cmp_nes, cmp_ins, cmp_nins, cmp_isn, cmp_isns, item_tup, item_lst, bi_lens, bi_lent, bi_lenl, bi_int, bi_intb, bi_abs, bi_max2, bi_tuplel, bi_tuplet, itD, slice, seqD, pure_non, pure_bl, pure_int, pure_str, pure_tup, pure_lst, pures_nil, pures_cons, startF, List.replicate, List.length_cons, List.length_nil, List.set_cons_zero, List.set_cons_succ, List.getElem?_cons_zero, List.getElem?_cons_succ, List.getElem?_nil, Nat.zero_add, Nat.reduceAdd, Nat.reduceSub, Nat.reduceLT, Nat.reduceLeDiff, if_true, Bool.not_true, Bool.not_false, List.map_cons, List.map_nil, List.cons_append, List.nil_append, reduceIte, and_self, and_true, true_and, decide_true, decide_false, Bool.true_and, Bool.and_true, Bool.false_and, Bool.and_false, fin_non, fin_bl, fin_int, fin_str, finX_same', gt_iff_lt, Nat.lt_add_one, Bool.false_eq_true]
theorem apart_bad (k : Nat) (hk : 3 ≤ k) (h : Mem) {s : D} : callF prog (k + 1) i_apart_paths [enc AD, s] h = .exc 1 .non h := by
  rw [callF_out d_apart_paths rfl ⟨rfl, by decide⟩, d_apart_paths]
  obtain ⟨j, rfl⟩ := at_level hk
  have e := check_bad j [65] h (by decide) lab_A
  refine st_exc (c := 1) (d := .non) (σ1 := startF 2 [enc AD, s]) (h1 := h) ?_ finX_same
  simp only [e, evSs, evS, evE, evL, evT, evTA, evTO, evF, evSrc, evO, evAnd, evOr, asgT, asgTs, cx_glob, cx_call, shal_int, shal_str, shal_tup, shal_lst, shal_non, shal_bl, bin_addi, bin_subi, bin_addt, bin_addl, bin_adds, bin_mod, bin_div, cmp_lt, cmp_le, cmp_gt, cmp_ge, cmp_eqi, cmp_nei, cmp_eqs, cmp_nes, cmp_ins, cmp_nins, cmp_isn, cmp_isns, item_tup, item_lst, bi_lens, bi_lent, bi_lenl, bi_int, bi_intb, bi_abs, bi_max2, bi_tuplel, bi_tuplet, itD, slice, seqD, pure_non, pure_bl, pure_int, pure_str, pure_tup, pure_lst, pures_nil, pures_cons, startF, List.replicate, List.length_cons, List.length_nil, List.set_cons_zero, List.set_cons_succ, List.getElem?_cons_zero, List.getElem?_cons_succ, List.getElem?_nil, Nat.zero_add, Nat.reduceAdd, Nat.reduceSub, Nat.reduceLT, Nat.reduceLeDiff, if_true, Bool.not_true, Bool.not_false, List.map_cons, List.map_nil, List.cons_append, List.nil_append, reduceIte, and_self, and_true, true_and, decide_true, decide_false, Bool.true_and, Bool.and_true, Bool.false_and, Bool.and_false, fin_non, fin_bl, fin_int, fin_str, finX_same', gt_iff_lt, Nat.lt_add_one, Bool.false_eq_true]
abbrev MW : List Nat := [109, 105, 115, 115, 105, 110, 103]
abbrev RW : List Nat := [114, 101, 102, 117, 115, 101, 100]
abbrev LW : List Nat := [108, 97, 114, 103, 101]
def due (b f s : Doc) : D := if mgC b f s = [] then .tup [.str TW, enc (mgD b f s)] else .str MW
theorem due_pure (b f s : Doc) : (due b f s).pure = true := by
  unfold due
  split
  · simp [enc_pure]
  · rfl
variable {k : Nat} {h : Mem} {b f s : Doc}
theorem T0 (hk : 50 ≤ k) (gb : Good b) (gf : Good f) (gs : Good s) (c : D) : callF prog k i_law_told [.int 0, enc b, enc f, enc s, c] h = .ok (.tup [.str TW, .lst (mgC b f s)]) h := by
  obtain ⟨j, rfl⟩ := at_level (show 2 ≤ k by omega)
  exact told_ok (j + 1) h 0 (by decide) _ _ _ _ _ (mg_pure c0 b f s [] 0 rfl) (clashes_ok j h gb gf gs (by omega))
theorem T1 (hk : 50 ≤ k) (gb : Good b) (gf : Good f) (gs : Good s) (c : D) (hz : sz (mgD b f s) ≤ 300) : callF prog k i_law_told [.int 1, enc b, enc f, enc s, c] h = .ok (due b f s) h := by
  obtain ⟨j, rfl⟩ := at_level (show 2 ≤ k by omega)
  have e := merge_ok j h gb gf gs (by omega)
  unfold due
  by_cases z : mgC b f s = []
  · rw [if_neg (fun y => y z), if_neg (by omega)] at e
    rw [if_pos z]
    exact told_ok (j + 1) h 1 (by decide) _ _ _ _ _ (enc_pure _) e
  · rw [if_pos z] at e
    rw [if_neg z]
    exact told_exc (j + 1) (by omega) h 1 (by decide) _ _ _ _ _ 3 (by decide) errT3 rfl e
theorem T1L (hk : 50 ≤ k) (gb : Good b) (gf : Good f) (gs : Good s) (c : D) (hc : mgC b f s = []) (hz : 300 < sz (mgD b f s)) : callF prog k i_law_told [.int 1, enc b, enc f, enc s, c] h = .ok (.str LW) h := by
  obtain ⟨j, rfl⟩ := at_level (show 2 ≤ k by omega)
  have e := merge_ok j h gb gf gs (by omega)
  rw [if_neg (fun y => y hc), if_pos hz] at e
  exact told_exc (j + 1) (by omega) h 1 (by decide) _ _ _ _ _ 2 (by decide) errT2 rfl e
theorem T2 (hk : 50 ≤ k) (gb : Good b) (gf : Good f) (gs : Good s) (cs : List (List Nat)) (hc : cs.length = (mgC b f s).length) (hw : ∀ c ∈ cs, c = FW ∨ c = SW) (hz : sz (mg (chL cs) b f s [] 0).1 ≤ 300) : callF prog k i_law_told [.int 2, enc b, enc f, enc s, .tup (strD cs)] h = .ok (.tup [.str TW, enc (mg (chL cs) b f s [] 0).1]) h := by
  obtain ⟨j, rfl⟩ := at_level (show 2 ≤ k by omega)
  exact told_ok (j + 1) h 2 (by decide) _ _ _ _ _ (enc_pure _) (merge_by_ok j h cs gb gf gs (by omega) hc hw hz)
theorem T2F (hk : 50 ≤ k) (gb : Good b) (gf : Good f) (gs : Good s) (cs : List (List Nat)) (hc : cs.length ≠ (mgC b f s).length) : callF prog k i_law_told [.int 2, enc b, enc f, enc s, .tup (strD cs)] h = .ok (.str RW) h := by
  obtain ⟨j, rfl⟩ := at_level (show 2 ≤ k by omega)
  exact told_exc (j + 1) (by omega) h 2 (by decide) _ _ _ _ _ 1 (by decide) errT1 rfl (merge_by_few j h cs gb gf gs (by omega) hc)
theorem T3 (hk : 50 ≤ k) (gf : Good f) (gs : Good s) (b c : D) : callF prog k i_law_told [.int 3, b, enc f, enc s, c] h = .ok (.tup [.str TW, .lst (ap f s [])]) h := by
  obtain ⟨j, rfl⟩ := at_level (show 2 ≤ k by omega)
  exact told_ok (j + 1) h 3 (by decide) _ _ _ _ _ (ap_pure f s [] rfl) (apart_ok j h gf gs (by omega))
theorem B0 (hk : 50 ≤ k) (c : D) : callF prog k i_law_told [.int 0, enc AD, enc f, enc s, c] h = .ok (.str RW) h := by
  obtain ⟨j, rfl⟩ := at_level (show 2 ≤ k by omega)
  exact told_exc (j + 1) (by omega) h 0 (by decide) _ _ _ _ _ 1 (by decide) errT1 rfl (clashes_bad j (by omega) h (three_at (xs := []) (by omega) h rfl (fun _ z => by cases z)))
theorem B1 (hk : 50 ≤ k) (gb : Good b) (c : D) : callF prog k i_law_told [.int 1, enc b, enc AD, enc s, c] h = .ok (.str RW) h := by
  obtain ⟨j, rfl⟩ := at_level (show 2 ≤ k by omega)
  exact told_exc (j + 1) (by omega) h 1 (by decide) _ _ _ _ _ 1 (by decide) errT1 rfl (merge_bad j (by omega) h (three_at (xs := [b]) (by omega) h rfl (fun x z => by rw [List.mem_singleton] at z; subst z; exact gb)))
theorem B2 (hk : 50 ≤ k) (gb : Good b) (gf : Good f) (c : D) : callF prog k i_law_told [.int 2, enc b, enc f, enc AD, c] h = .ok (.str RW) h := by
  obtain ⟨j, rfl⟩ := at_level (show 3 ≤ k by omega)
  exact told_exc (j + 2) (by omega) h 2 (by decide) _ _ _ _ _ 1 (by decide) errT1 rfl (merge_by_bad (j + 1) h (clashes_bad j (by omega) h (three_at (xs := [b, f]) (by omega) h rfl (fun x z => by
    rcases List.mem_cons.mp z with y | y
    · subst y; exact gb
    · rw [List.mem_singleton] at y; subst y; exact gf))))
theorem B3 (hk : 50 ≤ k) (b s c : D) : callF prog k i_law_told [.int 3, b, enc AD, s, c] h = .ok (.str RW) h := by
  obtain ⟨j, rfl⟩ := at_level (show 2 ≤ k by omega)
  exact told_exc (j + 1) (by omega) h 3 (by decide) _ _ _ _ _ 1 (by decide) errT1 rfl (apart_bad j (by omega) h)
/-- the same told and due -/
theorem same_ok (hk : 1 ≤ k) {x y z : D} (hx : full h 3 (.lst [x]) = some (.lst [z])) (hy : full h 3 (.lst [y]) = some (.lst [z])) (g : Fn z 900000 60) : callF prog k i_law_same [x, y] h = .ok (.bl true) h := by
  obtain ⟨j, rfl⟩ := at_level hk
  have gf := g.f
  have gw := g.w
  have gd := g.d
  refine law_same_ok j h x y [z] hx hy ?_ ?_ ?_
  · rw [D.dep, D.deps, D.deps]; omega
  · rw [D.wt, D.wts, D.wts]; omega
  · rw [D.fine, D.fines, D.fines, gf]; rfl
theorem same_pure (hk : 1 ≤ k) {x : D} (hp : x.pure = true) (g : Fn x 900000 60) : callF prog k i_law_same [x, x] h = .ok (.bl true) h :=
  same_ok hk (full_pure 3 (by simp [hp])) (full_pure 3 (by simp [hp])) g
theorem st_same {C : Cx} {σ : Fr} {h h1 h2 : Mem} {X Y : CE} {x y : D} {a : CSs} {n : Nat} (hx : evE C X σ h = .ok x h1) (hy : evE C Y σ h1 = .ok y h2) (e : C.call n [x, y] h2 = .ok (.bl true) h2) : evS C (.ite (.not (.e (.call n (.cons X (.cons Y .nil))))) a .nil) σ h = .nx σ h2 := by
  refine (evS_ite (v := false) (h1 := h2) (evT_not (b := true) (evT_e (evE_callx (ev_cons hx (ev_cons hy ev_nil)) e)))).trans ?_
  rw [if_neg (by decide), sq_nil]
/-! ### texts of what is told -/
theorem fn_mono {x : D} {w e w' e' : Nat} (g : Fn x w e) (hw : w ≤ w') (he : e ≤ e') : Fn x w' e' := ⟨g.f, Nat.le_trans g.w hw, Nat.le_trans g.d he⟩
theorem fn_str (t : List Nat) (h : t.length ≤ 1000) : Fn (.str t) 10003 0 := ⟨rfl, by rw [D.wt]; omega, Nat.le_refl _⟩
theorem fn_two {x y : D} {w e : Nat} (gx : Fn x w e) (gy : Fn y w e) : Fn (.tup [x, y]) (2 * w + 8) (e + 1) ∧ Fn (.lst [x, y]) (2 * w + 8) (e + 1) := by
  have a1 := gx.f
  have a2 := gx.w
  have a3 := gx.d
  have b1 := gy.f
  have b2 := gy.w
  have b3 := gy.d
  refine ⟨⟨by rw [D.fine, D.fines, D.fines, D.fines, a1, b1]; rfl, by rw [D.wt, D.wts, D.wts, D.wts]; omega, by rw [D.dep, D.deps, D.deps, D.deps]; omega⟩, ⟨by rw [D.fine, D.fines, D.fines, D.fines, a1, b1]; rfl, by rw [D.wt, D.wts, D.wts, D.wts]; omega, by rw [D.dep, D.deps, D.deps, D.deps]; omega⟩⟩
theorem fn_told {x : D} {w e : Nat} (g : Fn x w e) (hw : 10003 ≤ w) : Fn (.tup [.str TW, x]) (2 * w + 8) (e + 1) :=
  (fn_two (fn_mono (fn_str TW (by decide)) hw (Nat.zero_le _)) g).1
theorem fn_mgC (ch : Nat → Nat) (b f s : Doc) (hz : sz b ≤ 100) : Fn (.lst (mg ch b f s [] 0).2) 160000 2 := by
  have g := lst_fn (w := 1504) (e := 1) (n := 100) (xs := (mg ch b f s [] 0).2) (Nat.le_trans (mg_len ch b f s [] 0) hz) (fun x hx => by
    obtain ⟨q, e, hq⟩ := mg_paths ch b f s [] 0 0 ⟨Nat.le_refl _, fun y hy => by cases hy⟩ (by omega) x hx
    subst e
    have := dp_sz b
    exact fn_mono (path_fn hq) (by omega) (Nat.le_refl _))
  exact fn_mono g (by decide) (Nat.le_refl _)
theorem fn_ap (f s : Doc) (hz : sz f ≤ 100) : Fn (.lst (ap f s [])) 160000 2 := by
  have g := lst_fn (w := 1504) (e := 1) (n := 100) (xs := ap f s []) (Nat.le_trans (ap_len f s []) hz) (fun x hx => by
    obtain ⟨q, e, hq⟩ := ap_paths f s [] 0 ⟨Nat.le_refl _, fun y hy => by cases hy⟩ (by omega) x hx
    subst e
    have := dp_sz f
    exact fn_mono (path_fn hq) (by omega) (Nat.le_refl _))
  exact fn_mono g (by decide) (Nat.le_refl _)
theorem fn_enc {d : Doc} (h : okd d = true) (hz : sz d ≤ 310) (hd : dp d ≤ 50) : Fn (enc d) 160000 51 := by
  have := enc_wt d h
  exact ⟨enc_fine d, by omega, by rw [enc_dep]; omega⟩
theorem fn_due (b f s : Doc) (ob : okd b = true) (of : okd f = true) (os : okd s = true) (hz : sz (mgD b f s) ≤ 300) (hd : dp (mgD b f s) ≤ 50) : Fn (due b f s) 320008 52 := by
  unfold due
  split
  · exact fn_told (fn_enc (mg_ok c0 b f s [] 0 ob of os) (Nat.le_trans hz (by decide)) hd) (by decide)
  · exact fn_mono (fn_str MW (by decide)) (by decide) (by decide)
end K21
end
section
set_option Elab.async false
set_option autoImplicit false
set_option maxRecDepth 100000
set_option linter.all false
/-! N21: the choices; the law's turn. -/
namespace K21
open Ev
mutual
theorem mg_ext (ch ch' : Nat → Nat) : ∀ (b f s : Doc) (p : List D) (n : Nat), (∀ j, n ≤ j → j < n + (mg ch b f s p n).2.length → ch j = ch' j) → mg ch b f s p n = mg ch' b f s p n
  | .mk lb kb, f, s, p, n, h => by
    rw [mg] at h ⊢
    rw [mg]
    split
    · rfl
    · rename_i h1
      rw [if_neg h1] at h
      split
      · rfl
      · rename_i h2
        rw [if_neg h2] at h
        split
        · rename_i h3
          rw [if_pos h3] at h
          rw [h n (Nat.le_refl _) (by simp)]
        · rename_i h3
          rw [if_neg h3] at h
          cases q : ml lb f.lb s.lb with
          | some l =>
            rw [q] at h
            dsimp only at h ⊢
            rw [mgs_ext ch ch' kb f.ks s.ks p 0 n h]
          | none =>
            rw [q] at h
            dsimp only at h ⊢
            rw [List.length_cons] at h
            rw [mgs_ext ch ch' kb f.ks s.ks p 0 (n + 1) (fun j h1 h2 => h j (by omega) (by omega)), h n (Nat.le_refl _) (by omega)]
theorem mgs_ext (ch ch' : Nat → Nat) : ∀ (b f s : List Doc) (p : List D) (i n : Nat), (∀ j, n ≤ j → j < n + (mgs ch b f s p i n).2.length → ch j = ch' j) → mgs ch b f s p i n = mgs ch' b f s p i n
  | [], _, _, _, _, _, _ => by simp [mgs]
  | b :: bs, [], _, _, _, _, _ => by simp [mgs]
  | b :: bs, f :: fs, [], _, _, _, _ => by simp [mgs]
  | b :: bs, f :: fs, s :: ss, p, i, n, h => by
    rw [mgs] at h ⊢
    rw [mgs]
    dsimp only at h ⊢
    rw [List.length_append] at h
    rw [← mg_ext ch ch' b f s (p ++ [D.int (i : Int)]) n (fun j h1 h2 => h j h1 (by omega)), mgs_ext ch ch' bs fs ss p (i + 1) _ (fun j h1 h2 => h j (by omega) (by omega))]
end
theorem chL_app {cs ds : List (List Nat)} {j : Nat} (h : j < cs.length) : chL (cs ++ ds) j = chL cs j := by
  unfold chL
  rw [List.getElem?_append_left h]
/-- choices drawn, one for each clash -/
theorem choices_loop {k : Nat} (hk : 1 ≤ k) {n : Nat} {is : List Int} (hI : Is is) {σ : Fr} (h1 : σ[1]? = some (some (.loc n))) (h18 : 18 < σ.length) : ∀ (xs acc : List D) (h : Mem) (c : Nat), h[n]? = some (stB is c) → c + xs.length < 2 ^ 60 → acc.length + xs.length ≤ 100000 →
    ∃ cs : List (List Nat), cs.length = xs.length ∧ (∀ c ∈ cs, c = FW ∨ c = SW) ∧ lcL (evE (prog.cx k (callF prog k)) e_law_0) (evT (prog.cx k (callF prog k)) .yes) (.nm 18) σ xs acc h = .ok (acc ++ strD cs) (h.set n (stB is (c + xs.length))) := by
  intro xs
  induction xs with
  | nil =>
    intro acc h c e _ _
    refine ⟨[], rfl, (fun _ z => by cases z), ?_⟩
    rw [lcL]
    simp only [List.length_nil, Nat.add_zero, set_same e, strD, List.map_nil, List.append_nil]
  | cons x xs ih =>
    intro acc h c e hc ha
    rw [List.length_cons] at hc ha
    have hn := get_lt e
    obtain ⟨r, hr, en⟩ := nx_ok hk hI e (by omega) (show 0 < 2 by decide)
    obtain ⟨w, hw, aw⟩ : ∃ w : List Nat, (w = FW ∨ w = SW) ∧ atI [D.str FW, .str SW] (r : Int) = some (.str w) := by
      have : r = 0 ∨ r = 1 := by omega
      rcases this with z | z
      · subst z; exact ⟨FW, .inl rfl, atI_nat (i := 0)⟩
      · subst z; exact ⟨SW, .inr rfl, atI_nat (i := 1)⟩
    obtain ⟨cs, l1, l2, l3⟩ := ih (acc ++ [.str w]) (h.set n (stB is (c + 1))) (c + 1) (set_get hn) (by omega) (by rw [List.length_append]; simp; omega)
    refine ⟨w :: cs, by rw [List.length_cons, List.length_cons, l1], fun y hy => ?_, ?_⟩
    · rcases List.mem_cons.mp hy with z | z
      · subst z; exact hw
      · exact l2 y z
    · have g1 : (σ.set 18 (some x))[1]? = some (some (.loc n)) := by
        rw [List.getElem?_set_ne (by decide)]
        exact h1
      have ge : evE (prog.cx k (callF prog k)) e_law_0 (σ.set 18 (some x)) h = .ok (.str w) (h.set n (stB is (c + 1))) := by
        rw [e_law_0]
        refine ev_ix (ev_lst (ev_cons (ev_c rfl) (ev_cons (ev_c rfl) ev_nil)) (by show 2 ≤ LIM; decide)) (evE_callx (ev_cons (ev_v g1) (ev_cons (ev_c rfl) ev_nil)) en) ?_
        rw [shal_lst, item_lst]
        exact aw
      have la : acc.length < LIM := lim_lt' (by omega)
      rw [lcL, asgT, if_pos h18]
      dsimp only
      rw [evT]
      dsimp only
      rw [ge]
      dsimp only
      rw [if_pos la, l3, List.set_set, List.append_assoc, List.length_cons, Nat.add_assoc, Nat.add_comm 1]
      rfl
theorem repr_ok {h : Mem} {xs : List D} (hp : D.pures xs = true) (g : Fn (.tup xs) 900000 60) : biF .repr [.tup xs] h = some (.rep (.tup xs)) := by
  have e : full h 3 (.tup xs) = some (.tup xs) := full_pure 3 (by simp [hp])
  have gd := g.d
  have gw := g.w
  simp only [biF, e]
  rw [if_pos ⟨by omega, by omega, g.f⟩]
theorem fn_three {b f s : Doc} (ob : okd b = true) (of : okd f = true) (os : okd s = true) (zb : sz b ≤ 50) (zf : sz f ≤ 50) (zs : sz s ≤ 50) : Fn (.tup [enc b, enc f, enc s]) 900000 60 := by
  have wb := enc_wt b ob
  have wf := enc_wt f of
  have ws := enc_wt s os
  have db := dp_sz b
  have df := dp_sz f
  have ds := dp_sz s
  refine ⟨by rw [D.fine, D.fines, D.fines, D.fines, D.fines, enc_fine, enc_fine, enc_fine]; rfl, by rw [D.wt, D.wts, D.wts, D.wts, D.wts]; omega, by rw [D.dep, D.deps, D.deps, D.deps, D.deps, enc_dep, enc_dep, enc_dep]; omega⟩
theorem pure_three {b f s : Doc} : D.pures [enc b, enc f, enc s] = true := by simp [enc_pure]
abbrev LF (sc : D) (n : Nat) (o2 o3 o4 o5 o6 o7 o8 o9 o10 o11 o12 o13 o14 o15 o16 o17 o18 o19 : Option D) : Fr := [some sc, some (.loc n), o2, o3, o4, o5, o6, o7, o8, o9, o10, o11, o12, o13, o14, o15, o16, o17, o18, o19]
variable {k : Nat} {n : Nat} {is : List Int} {sc : D}
/-- the drawn things -/
theorem turn_a (hk : 206 ≤ k) (hI : Is is) {h : Mem} {c : Nat} (e : h[n]? = some (stB is c)) (hc : c + 200 < 2 ^ 60) (o2 o3 o4 o5 o6 o7 o8 o9 o10 o11 o12 o13 o14 o15 o16 o17 o18 o19 : Option D) :
    ∃ (b f s : Doc) (sg : D) (c' : Nat), okd b = true ∧ okd f = true ∧ okd s = true ∧ sz b ≤ 12 ∧ sz f ≤ 24 ∧ sz s ≤ 24 ∧ c ≤ c' ∧ c' ≤ c + 180 ∧ ∀ ss, evSs (prog.cx k (callF prog k)) (.cons u_law_0 (.cons u_law_1 (.cons u_law_2 (.cons u_law_3 (.cons u_law_4 ss))))) (LF sc n o2 o3 o4 o5 o6 o7 o8 o9 o10 o11 o12 o13 o14 o15 o16 o17 o18 o19) h =
      evSs (prog.cx k (callF prog k)) ss (LF sc n o2 (some (enc b)) o4 o5 (some sg) (some (enc f)) (some (enc s)) (some (.rep (.tup [enc b, enc f, enc s]))) o10 o11 o12 o13 o14 o15 o16 o17 o18 o19) (h.set n (stB is c')) := by
  have hn := get_lt e
  obtain ⟨k1, rfl⟩ := at_level (show 1 ≤ k by omega)
  have gs : ∀ a : Ob, (h.set n a)[n]? = some a := fun a => set_get hn
  have ss : ∀ a b : Ob, (h.set n a).set n b = h.set n b := fun a b => by rw [List.set_set]
  obtain ⟨sg, hS, e0⟩ := law_signs_ok k1 (by omega) hI e (by omega)
  obtain ⟨r, hr, e1⟩ := nx_ok (k := k1 + 1) (by omega) hI (gs (stB is (c + 3))) (by omega) (show 0 < 12 by decide)
  rw [ss] at e1
  obtain ⟨b, c1, e2, b1, b2, ob, zb⟩ := law_document_ok (k1 + 1) (1 + r) (h.set n (stB is (c + 3 + 1))) n is (c + 3 + 1) sg (by omega) (by omega) (by omega) hI hS (gs _) (by omega)
  rw [ss] at e2
  obtain ⟨f, c2, e3, of, zf, d1, d2⟩ := law_made_ok k1 (by omega) hI (gs (stB is c1)) (by omega) hS ob (show sz b ≤ 12 by omega)
  rw [ss] at e3
  obtain ⟨s, c3, e4, os, zs, d3, d4⟩ := law_made_ok k1 (by omega) hI (gs (stB is c2)) (by omega) hS ob (show sz b ≤ 12 by omega)
  rw [ss] at e4
  have er : (1 : Int) + (r : Int) = ((1 + r : Nat) : Int) := by omega
  have e1' : callF prog (k1 + 1) i_law_next [.loc n, .int 12] (h.set n (stB is (c + 3))) = .ok (.int (r : Int)) (h.set n (stB is (c + 3 + 1))) := e1
  refine ⟨b, f, s, .tup (sg.map sgD), c3, ob, of, os, by omega, zf, zs, by omega, by omega, fun rest => ?_⟩
  refine sq_nx (h1 := h.set n (stB is (c + 3))) (σ1 := LF sc n o2 o3 o4 o5 (some (.tup (sg.map sgD))) o7 o8 o9 o10 o11 o12 o13 o14 o15 o16 o17 o18 o19) ?_ ?_
  · exact evS_asg (evE_callx (ev_cons (ev_v rfl) ev_nil) e0) rfl
  refine sq_nx (h1 := h.set n (stB is c1)) (σ1 := LF sc n o2 (some (enc b)) o4 o5 (some (.tup (sg.map sgD))) o7 o8 o9 o10 o11 o12 o13 o14 o15 o16 o17 o18 o19) ?_ ?_
  · simp only [LF, u_law_1, e1', er, e2, evSs, evS, evE, evL, evT, evTA, evTO, evF, evSrc, evO, evAnd, evOr, asgT, asgTs, cx_glob, cx_call, shal_int, shal_str, shal_tup, shal_lst, shal_non, shal_bl, bin_addi, bin_subi, bin_addt, bin_addl, bin_adds, bin_mod, bin_div, cmp_lt, cmp_le, cmp_gt, cmp_ge, cmp_eqi, cmp_nei, cmp_eqs, cmp_nes, cmp_ins, cmp_nins, cmp_isn, cmp_isns, item_tup, item_lst, bi_lens, bi_lent, bi_lenl, bi_int, bi_intb, bi_abs, bi_max2, bi_tuplel, bi_tuplet, itD, slice, seqD, pure_non, pure_bl, pure_int, pure_str, pure_tup, pure_lst, pures_nil, pures_cons, startF, List.replicate, List.length_cons, List.length_nil, List.set_cons_zero, List.set_cons_succ, List.getElem?_cons_zero, List.getElem?_cons_succ, List.getElem?_nil, Nat.zero_add, Nat.reduceAdd, Nat.reduceSub, Nat.reduceLT, Nat.reduceLeDiff, if_true, Bool.not_true, Bool.not_false, List.map_cons, List.map_nil, List.cons_append, List.nil_append, reduceIte, and_self, and_true, true_and, decide_true, decide_false, Bool.true_and, Bool.and_true, Bool.false_and, Bool.and_false, fin_non, fin_bl, fin_int, fin_str, finX_same', gt_iff_lt, Nat.lt_add_one, Bool.false_eq_true]
  refine sq_nx (h1 := h.set n (stB is c2)) (σ1 := LF sc n o2 (some (enc b)) o4 o5 (some (.tup (sg.map sgD))) (some (enc f)) o8 o9 o10 o11 o12 o13 o14 o15 o16 o17 o18 o19) ?_ ?_
  · exact evS_asg (evE_callx (ev_cons (ev_v rfl) (ev_cons (ev_v rfl) (ev_cons (ev_v rfl) (ev_cons (ev_c rfl) ev_nil)))) e3) rfl
  refine sq_nx (h1 := h.set n (stB is c3)) (σ1 := LF sc n o2 (some (enc b)) o4 o5 (some (.tup (sg.map sgD))) (some (enc f)) (some (enc s)) o9 o10 o11 o12 o13 o14 o15 o16 o17 o18 o19) ?_ ?_
  · exact evS_asg (evE_callx (ev_cons (ev_v rfl) (ev_cons (ev_v rfl) (ev_cons (ev_v rfl) (ev_cons (ev_c rfl) ev_nil)))) e4) rfl
  refine sq_nx (h1 := h.set n (stB is c3)) (σ1 := LF sc n o2 (some (enc b)) o4 o5 (some (.tup (sg.map sgD))) (some (enc f)) (some (enc s)) (some (.rep (.tup [enc b, enc f, enc s]))) o10 o11 o12 o13 o14 o15 o16 o17 o18 o19) ?_ rfl
  exact evS_asg (ev_bi (ev_cons (ev_tup (ev_cons (ev_v rfl) (ev_cons (ev_v rfl) (ev_cons (ev_v rfl) ev_nil))) (by show 3 ≤ LIM; decide)) ev_nil) (repr_ok pure_three (fn_three ob of os (by omega) (by omega) (by omega)))) rfl
end K21
end
section
set_option Elab.async false
set_option autoImplicit false
set_option maxRecDepth 100000
set_option linter.all false
/-! N22: the law's turn, on. -/
namespace K21
open Ev
abbrev R99 : List (List Nat) := List.replicate 99 FW
theorem rep_ok {C : Cx} {σ : Fr} {h : Mem} (w : List Nat) (m : Nat) (hm : m ≤ 1000) : evE C (.fr (.rep (.fr (.lst (.cons (.c (.str w)) .nil))) (.c (.int (m : Int))))) σ h = .ok (.lst (strD (List.replicate m w))) h := by
  have e1 : evE C (.fr (.lst (.cons (.c (.str w)) .nil))) σ h = .ok (.lst [.str w]) h := ev_lst (ev_cons (ev_c rfl) ev_nil) (by show 1 ≤ LIM; decide)
  have e2 : evE C (.c (.int (m : Int))) σ h = .ok (.int (m : Int)) h := ev_c rfl
  have c : (0 : Int) ≤ (m : Int) ∧ (m : Int) ≤ (LIM : Nat) ∧ [D.str w].length * ((m : Int)).toNat ≤ LIM := by
    have l1 : m ≤ LIM := lim_lt (by omega)
    refine ⟨by omega, by omega, ?_⟩
    show 1 * ((m : Int)).toNat ≤ LIM
    rw [Nat.one_mul, Int.toNat_natCast]
    exact l1
  rw [evE, evF, e1]
  dsimp only
  rw [e2]
  dsimp only
  rw [shal_lst]
  dsimp only
  rw [if_pos c, Int.toNat_natCast, List.flatten_replicate_singleton, strD, List.map_replicate]
theorem r99_w : ∀ c ∈ R99, c = FW ∨ c = SW := fun c h => .inl (List.eq_of_mem_replicate h)
variable {k : Nat} {n : Nat} {sc : D} {b f s : Doc}
theorem merge_at (hk : 60 ≤ k) (zb : sz b ≤ 50) (df : dp f ≤ 60) (ds : dp s ≤ 60) (h : Mem) {N : Nat} (hN : h[N]? = some (.box (.lst []))) (cs : List (List Nat)) (hw : ∀ c ∈ cs, c = FW ∨ c = SW) (hl : (mgC b f s).length ≤ cs.length) :
    callF prog k i_law_merge [enc b, enc f, enc s, .tup [], .loc N, .lst (strD cs)] h = .ok (enc (mg (chL cs) b f s [] 0).1) (h.set N (.box (.lst (mgC b f s)))) := by
  have := dp_sz b
  have sm := mg_same (chL cs) c0 b f s [] 0 0
  have hl' : (mg c0 b f s [] 0).2.length ≤ cs.length := hl
  have m := law_merge_ok k b f s [] h N [] cs (by omega) (by omega) df ds (by omega) (by simp; omega) rfl rfl hN (by simp; omega) hw (by rw [List.length_nil, sm]; omega)
  rw [List.length_nil, List.nil_append, sm] at m
  exact m
theorem turn_b (hk : 206 ≤ k) (zb : sz b ≤ 50) (df : dp f ≤ 60) (ds : dp s ≤ 60) {h : Mem} (o2 o4 o5 o6 o9 o10 o11 o12 o13 o14 o15 o16 o17 o18 o19 : Option D) :
    ∃ tl : Mem, ∀ ss, evSs (prog.cx k (callF prog k)) (.cons u_law_5 (.cons u_law_6 (.cons u_law_7 (.cons u_law_8 ss)))) (LF sc n o2 (some (enc b)) o4 o5 o6 (some (enc f)) (some (enc s)) o9 o10 o11 o12 o13 o14 o15 o16 o17 o18 o19) h =
      evSs (prog.cx k (callF prog k)) ss (LF sc n o2 (some (enc b)) o4 o5 o6 (some (enc f)) (some (enc s)) o9 (some (.loc h.length)) (some (due b f s)) o12 o13 o14 o15 o16 o17 o18 o19) (h ++ .box (.lst (mgC b f s)) :: tl) := by
  have l0 : 0 ≤ LIM := by decide
  have cl : (mgC b f s).length ≤ R99.length := by
    have : (mgC b f s).length ≤ sz b := mg_len c0 b f s [] 0
    rw [List.length_replicate]
    omega
  have m1 := merge_at (k := k) (by omega) zb df ds (h ++ [.box (.lst [])]) (N := h.length) m1_get0 R99 r99_w cl
  rw [m1_set0] at m1
  have t5 : evS (prog.cx k (callF prog k)) u_law_5 (LF sc n o2 (some (enc b)) o4 o5 o6 (some (enc f)) (some (enc s)) o9 o10 o11 o12 o13 o14 o15 o16 o17 o18 o19) h = .nx (LF sc n o2 (some (enc b)) o4 o5 o6 (some (enc f)) (some (enc s)) o9 (some (.loc h.length)) o11 o12 o13 o14 o15 o16 o17 o18 o19) (h ++ [.box (.lst [])]) := by
    simp only [LF, u_law_5, l0, evSs, evS, evE, evL, evT, evTA, evTO, evF, evSrc, evO, evAnd, evOr, asgT, asgTs, cx_glob, cx_call, shal_int, shal_str, shal_tup, shal_lst, shal_non, shal_bl, bin_addi, bin_subi, bin_addt, bin_addl, bin_adds, bin_mod, bin_div, cmp_lt, cmp_le, cmp_gt, cmp_ge, cmp_eqi, cmp_nei, cmp_eqs, cmp_nes, cmp_ins, cmp_nins, cmp_isn, cmp_isns, item_tup, item_lst, bi_lens, bi_lent, bi_lenl, bi_int, bi_intb, bi_abs, bi_max2, bi_tuplel, bi_tuplet, itD, slice, seqD, pure_non, pure_bl, pure_int, pure_str, pure_tup, pure_lst, pures_nil, pures_cons, startF, List.replicate, List.length_cons, List.length_nil, List.set_cons_zero, List.set_cons_succ, List.getElem?_cons_zero, List.getElem?_cons_succ, List.getElem?_nil, Nat.zero_add, Nat.reduceAdd, Nat.reduceSub, Nat.reduceLT, Nat.reduceLeDiff, if_true, Bool.not_true, Bool.not_false, List.map_cons, List.map_nil, List.cons_append, List.nil_append, reduceIte, and_self, and_true, true_and, decide_true, decide_false, Bool.true_and, Bool.and_true, Bool.false_and, Bool.and_false, fin_non, fin_bl, fin_int, fin_str, finX_same', gt_iff_lt, Nat.lt_add_one, Bool.false_eq_true]
  have t6 : evS (prog.cx k (callF prog k)) u_law_6 (LF sc n o2 (some (enc b)) o4 o5 o6 (some (enc f)) (some (enc s)) o9 (some (.loc h.length)) o11 o12 o13 o14 o15 o16 o17 o18 o19) (h ++ [.box (.lst [])]) = .nx (LF sc n o2 (some (enc b)) o4 o5 o6 (some (enc f)) (some (enc s)) o9 (some (.loc h.length)) o11 o12 o13 o14 o15 o16 o17 o18 o19) (h ++ [.box (.lst (mgC b f s))]) :=
    evS_expr (evE_callx (ev_cons (ev_v rfl) (ev_cons (ev_v rfl) (ev_cons (ev_v rfl) (ev_cons (ev_tup ev_nil l0) (ev_cons (ev_v rfl) (ev_cons (rep_ok FW 99 (by decide)) ev_nil)))))) m1)
  have t7 : evS (prog.cx k (callF prog k)) u_law_7 (LF sc n o2 (some (enc b)) o4 o5 o6 (some (enc f)) (some (enc s)) o9 (some (.loc h.length)) o11 o12 o13 o14 o15 o16 o17 o18 o19) (h ++ [.box (.lst (mgC b f s))]) = .nx (LF sc n o2 (some (enc b)) o4 o5 o6 (some (enc f)) (some (enc s)) o9 (some (.loc h.length)) (some (.str MW)) o12 o13 o14 o15 o16 o17 o18 o19) (h ++ [.box (.lst (mgC b f s))]) :=
    evS_asg (ev_c rfl) rfl
  have bl : biF .len [.loc h.length] (h ++ [.box (.lst (mgC b f s))]) = some (.int ((mgC b f s).length : Int)) := bi_lenb m1_get0
  have tt : evT (prog.cx k (callF prog k)) (.e (.cmp .eq (.bi .len (.cons (.v 10) .nil)) (.c (.int 0)))) (LF sc n o2 (some (enc b)) o4 o5 o6 (some (enc f)) (some (enc s)) o9 (some (.loc h.length)) (some (.str MW)) o12 o13 o14 o15 o16 o17 o18 o19) (h ++ [.box (.lst (mgC b f s))]) = .ok (decide (((mgC b f s).length : Int) = 0)) (h ++ [.box (.lst (mgC b f s))]) :=
    evT_e (ev_cmp (ev_bi (ev_cons (ev_v rfl) ev_nil) bl) (ev_c rfl) cmp_eqi)
  by_cases z : mgC b f s = []
  · have dz : decide (((mgC b f s).length : Int) = 0) = true := decide_eq_true (by rw [z]; rfl)
    rw [dz] at tt
    have du : due b f s = .tup [.str TW, enc (mgD b f s)] := by unfold due; rw [if_pos z]
    have fr := mg_free (chL R99) c0 b f s [] 0 0 (by rw [mg_same (chL R99) c0 b f s [] 0 0]; exact z)
    have m2 := merge_at (k := k) (by omega) zb df ds (h ++ [.box (.lst (mgC b f s))] ++ [.box (.lst [])]) (N := (h ++ [Ob.box (.lst (mgC b f s))]).length) m1_get0 R99 r99_w cl
    rw [m1_set0, fr] at m2
    refine ⟨[.box (.lst (mgC b f s))], fun rest => ?_⟩
    refine sq_nx t5 (sq_nx t6 (sq_nx t7 (sq_nx (h1 := h ++ .box (.lst (mgC b f s)) :: [.box (.lst (mgC b f s))]) (σ1 := LF sc n o2 (some (enc b)) o4 o5 o6 (some (enc f)) (some (enc s)) o9 (some (.loc h.length)) (some (due b f s)) o12 o13 o14 o15 o16 o17 o18 o19) ?_ rfl)))
    refine (evS_ite tt).trans ?_
    rw [if_pos rfl, du]
    have hh : h ++ Ob.box (.lst (mgC b f s)) :: [Ob.box (.lst (mgC b f s))] = h ++ [Ob.box (.lst (mgC b f s))] ++ [Ob.box (.lst (mgC b f s))] := by simp
    rw [hh]
    refine sq_nx (evS_asg (ev_tup (ev_cons (ev_c rfl) (ev_cons (evE_callx (ev_cons (ev_v rfl) (ev_cons (ev_v rfl) (ev_cons (ev_v rfl) (ev_cons (ev_tup ev_nil l0) (ev_cons (ev_nw (by rw [evF, ev_nil]; exact if_pos l0)) (ev_cons (rep_ok FW 99 (by decide)) ev_nil)))))) m2) ev_nil)) (by show 2 ≤ LIM; decide)) rfl) sq_nil
  · have dz : decide (((mgC b f s).length : Int) = 0) = false := decide_eq_false (by have := List.length_pos_iff.mpr z; omega)
    rw [dz] at tt
    have du : due b f s = .str MW := by unfold due; rw [if_neg z]
    refine ⟨[], fun rest => ?_⟩
    refine sq_nx t5 (sq_nx t6 (sq_nx t7 (sq_nx (h1 := h ++ .box (.lst (mgC b f s)) :: []) (σ1 := LF sc n o2 (some (enc b)) o4 o5 o6 (some (enc f)) (some (enc s)) o9 (some (.loc h.length)) (some (due b f s)) o12 o13 o14 o15 o16 o17 o18 o19) ?_ rfl)))
    refine (evS_ite tt).trans ?_
    rw [if_neg (by decide), sq_nil, du]
/-- what the three are -/
structure Three (b f s : Doc) : Prop where
  ob : okd b = true
  of : okd f = true
  os : okd s = true
  zb : sz b ≤ 12
  zf : sz f ≤ 24
  zs : sz s ≤ 24
theorem good_of {d : Doc} (o : okd d = true) (z : sz d ≤ 40) : Good d := ⟨o, by omega, by have := dp_sz d; omega⟩
theorem Three.gb (t : Three b f s) : Good b := good_of t.ob (by have := t.zb; omega)
theorem Three.gf (t : Three b f s) : Good f := good_of t.of (by have := t.zf; omega)
theorem Three.gs (t : Three b f s) : Good s := good_of t.os (by have := t.zs; omega)
theorem Three.zm (t : Three b f s) (ch : Nat → Nat) (p : List D) (m : Nat) : sz (mg ch b f s p m).1 ≤ 60 := by
  have h1 := t.zb
  have h2 := t.zf
  have h3 := t.zs
  have h4 := mg_sz ch b f s p m
  omega
end K21
end
section
set_option Elab.async false
set_option autoImplicit false
set_option maxRecDepth 100000
set_option linter.all false
/-! N23: the law's turn: the first comparisons. -/
namespace K21
open Ev
section
variable {C : Cx} {σ : Fr} {h : Mem} {a b c d e : CE} {va vb vc vd ve : D}
theorem l5 (ha : evE C a σ h = .ok va h) (hb : evE C b σ h = .ok vb h) (hc : evE C c σ h = .ok vc h) (hd : evE C d σ h = .ok vd h) (he : evE C e σ h = .ok ve h) : evL C (.cons a (.cons b (.cons c (.cons d (.cons e .nil))))) σ h = .ok [va, vb, vc, vd, ve] h :=
  ev_cons ha (ev_cons hb (ev_cons hc (ev_cons hd (ev_cons he ev_nil))))
theorem t0l : evE C (.tup .nil) σ h = .ok (.tup []) h := ev_tup ev_nil (by show 0 ≤ LIM; decide)
theorem p2 (ha : evE C a σ h = .ok va h) (hb : evE C b σ h = .ok vb h) : evE C (.tup (.cons a (.cons b .nil))) σ h = .ok (.tup [va, vb]) h := ev_tup (ev_cons ha (ev_cons hb ev_nil)) (by show 2 ≤ LIM; decide)
theorem q2 (ha : evE C a σ h = .ok va h) (hb : evE C b σ h = .ok vb h) : evE C (.fr (.lst (.cons a (.cons b .nil)))) σ h = .ok (.lst [va, vb]) h := ev_lst (ev_cons ha (ev_cons hb ev_nil)) (by show 2 ≤ LIM; decide)
end
theorem due_nil {b f s : Doc} (z : mgC b f s = []) : due b f s = .tup [.str TW, enc (mgD b f s)] := by unfold due; rw [if_pos z]
theorem due_some {b f s : Doc} (z : ¬ mgC b f s = []) : due b f s = .str MW := by unfold due; rw [if_neg z]
theorem due_swap {b f s : Doc} (z : mgC b f s = []) : due b s f = due b f s := by
  have sw := mg_swap c0 b f s [] 0 z
  have zc : mgC b s f = [] := by show (mg c0 b s f [] 0).2 = []; rw [sw]; exact z
  rw [due_nil z, due_nil zc]
  show D.tup [.str TW, enc (mg c0 b s f [] 0).1] = _
  rw [sw]
theorem due_bbs {b s : Doc} : due b b s = .tup [.str TW, enc s] := by
  have e := mg_bbs c0 b s [] 0
  rw [due_nil (show (mg c0 b b s [] 0).2 = [] by rw [e])]
  show D.tup [.str TW, enc (mg c0 b b s [] 0).1] = _
  rw [e]
theorem due_bfb {b f : Doc} : due b f b = .tup [.str TW, enc f] := by
  have e := mg_bfb c0 b f [] 0
  rw [due_nil (show (mg c0 b f b [] 0).2 = [] by rw [e])]
  show D.tup [.str TW, enc (mg c0 b f b [] 0).1] = _
  rw [e]
variable {k : Nat} {n : Nat} {sc : D} {b f s : Doc}
theorem fnE {d : Doc} (o : okd d = true) (z : sz d ≤ 50) : Fn (enc d) 160000 51 := fn_enc o (by omega) (by have := dp_sz d; omega)
theorem Three.fd (t : Three b f s) : Fn (due b f s) 320008 52 := by
  have z := t.zm c0 [] 0
  have d := mg_dp c0 b f s [] 0 30 (by have := dp_sz b; have := t.zb; omega) (by have := dp_sz f; have := t.zf; omega) (by have := dp_sz s; have := t.zs; omega)
  exact fn_due b f s t.ob t.of t.os (show sz (mg c0 b f s [] 0).1 ≤ 300 by omega) (show dp (mg c0 b f s [] 0).1 ≤ 50 by omega)
theorem turn_c (hk : 206 ≤ k) (t : Three b f s) {h : Mem} {N : Nat} (hN : h[N]? = some (.box (.lst (mgC b f s)))) (o2 o4 o5 o6 o9 o12 o13 o14 o15 o16 o17 o18 o19 : Option D) :
    ∀ ss, evSs (prog.cx k (callF prog k)) (.cons u_law_9 (.cons u_law_10 (.cons u_law_11 ss))) (LF sc n o2 (some (enc b)) o4 o5 o6 (some (enc f)) (some (enc s)) o9 (some (.loc N)) (some (due b f s)) o12 o13 o14 o15 o16 o17 o18 o19) h =
      evSs (prog.cx k (callF prog k)) ss (LF sc n o2 (some (enc b)) o4 o5 o6 (some (enc f)) (some (enc s)) o9 (some (.loc N)) (some (due b f s)) o12 o13 o14 o15 o16 o17 o18 o19) h := by
  intro ss
  have gb := t.gb
  have gf := t.gf
  have gs := t.gs
  have zm := t.zm c0 [] 0
  have pC : D.pures (mgC b f s) = true := mg_pure c0 b f s [] 0 rfl
  have pd := due_pure b f s
  have fC := fn_mgC c0 b f s (by have := t.zb; omega)
  have fd := t.fd
  have a0 := T0 (k := k) (h := h) (by omega) gb gf gs (.tup [])
  have a1 := T1 (k := k) (h := h) (by omega) gb gf gs (.tup []) (show sz (mg c0 b f s [] 0).1 ≤ 300 by omega)
  -- 9
  have y9 : full h 3 (.lst [.lst [.tup [.str TW, .loc N], due b f s]]) = some (.lst [.lst [.tup [.str TW, .lst (mgC b f s)], due b f s]]) := by
    have q : full h 2 (.lst (mgC b f s)) = some (.lst (mgC b f s)) := full_pure 2 pC
    have r := D.fullW_pure (fun m => match h[m]? with | some (.box c) => full h 2 c | _ => none) _ pd
    show D.fullW (fun m => match h[m]? with | some (.box c) => full h 2 c | _ => none) _ = _
    simp only [D.fullW, D.fullWs, hN, q, r, Option.map_some]
  have f9 : Fn (.lst [.tup [.str TW, .lst (mgC b f s)], due b f s]) 900000 60 :=
    fn_mono (fn_two (fn_mono (fn_told fC (by decide)) (Nat.le_refl _) (show 2 + 1 ≤ 52 by decide)) fd).2 (by decide) (by decide)
  have c9 : callF prog k i_law_same [.lst [.tup [.str TW, .lst (mgC b f s)], due b f s], .lst [.tup [.str TW, .loc N], due b f s]] h = .ok (.bl true) h :=
    same_ok (by omega) (full_pure 3 (by simp [pC, pd])) y9 f9
  refine sq_nx (σ1 := LF sc n o2 (some (enc b)) o4 o5 o6 (some (enc f)) (some (enc s)) o9 (some (.loc N)) (some (due b f s)) o12 o13 o14 o15 o16 o17 o18 o19) (h1 := h) ?_ ?_
  · exact st_same (q2 (evE_callx (l5 (ev_c rfl) (ev_v rfl) (ev_v rfl) (ev_v rfl) t0l) a0) (evE_callx (l5 (ev_c rfl) (ev_v rfl) (ev_v rfl) (ev_v rfl) t0l) a1)) (q2 (p2 (ev_c rfl) (ev_v rfl)) (ev_v rfl)) c9
  -- 10
  refine sq_nx (σ1 := LF sc n o2 (some (enc b)) o4 o5 o6 (some (enc f)) (some (enc s)) o9 (some (.loc N)) (some (due b f s)) o12 o13 o14 o15 o16 o17 o18 o19) (h1 := h) ?_ ?_
  · by_cases z : mgC b f s = []
    · have sw := mg_swap c0 b f s [] 0 z
      have b1 := T1 (k := k) (h := h) (by omega) gb gs gf (.tup []) (show sz (mg c0 b s f [] 0).1 ≤ 300 by rw [sw]; omega)
      rw [due_swap z] at b1
      have c10 : callF prog k i_law_same [due b f s, due b f s] h = .ok (.bl true) h := same_pure (by omega) pd (fn_mono fd (by decide) (by decide))
      have ne : cmpop h .ne (due b f s) (.str MW) = some true := by
        rw [cmp_ne pd rfl (Nat.le_trans fd.d (by decide)) (by decide), due_nil z]
        rfl
      refine (evS_ite (v := false) (h1 := h) (evTA2 (h1 := h) (evT_e (ev_cmp (ev_v rfl) (ev_c rfl) ne)) (evT_not (b := true) (evT_e (evE_callx (ev_cons (evE_callx (l5 (ev_c rfl) (ev_v rfl) (ev_v rfl) (ev_v rfl) t0l) b1) (ev_cons (ev_v rfl) ev_nil)) c10))))).trans ?_
      rw [if_neg (by decide), sq_nil]
    · have ne : cmpop h .ne (due b f s) (.str MW) = some false := by
        rw [cmp_ne pd rfl (Nat.le_trans fd.d (by decide)) (by decide), due_some z]
        rfl
      refine (evS_ite (v := false) (h1 := h) (evTA1 (evT_e (ev_cmp (ev_v rfl) (ev_c rfl) ne)))).trans ?_
      rw [if_neg (by decide), sq_nil]
  -- 11
  have d1 := T1 (k := k) (h := h) (by omega) gb gb gs (.tup []) (show sz (mg c0 b b s [] 0).1 ≤ 300 by rw [mg_bbs]; have := t.zs; exact Nat.le_trans this (by decide))
  have d2 := T1 (k := k) (h := h) (by omega) gb gf gb (.tup []) (show sz (mg c0 b f b [] 0).1 ≤ 300 by rw [mg_bfb]; have := t.zf; exact Nat.le_trans this (by decide))
  rw [due_bbs] at d1
  rw [due_bfb] at d2
  have c11 : callF prog k i_law_same [.lst [.tup [.str TW, enc s], .tup [.str TW, enc f]], .lst [.tup [.str TW, enc s], .tup [.str TW, enc f]]] h = .ok (.bl true) h :=
    same_pure (by omega) (by simp [enc_pure]) (fn_mono (fn_two (fn_told (fnE t.os (by have := t.zs; omega)) (by decide)) (fn_told (fnE t.of (by have := t.zf; omega)) (by decide))).2 (by decide) (by decide))
  exact sq_nx (st_same (q2 (evE_callx (l5 (ev_c rfl) (ev_v rfl) (ev_v rfl) (ev_v rfl) t0l) d1) (evE_callx (l5 (ev_c rfl) (ev_v rfl) (ev_v rfl) (ev_v rfl) t0l) d2)) (q2 (p2 (ev_c rfl) (ev_v rfl)) (p2 (ev_c rfl) (ev_v rfl))) c11) rfl
end K21
end
section
set_option Elab.async false
set_option autoImplicit false
set_option maxRecDepth 100000
set_option linter.all false
/-! N24: the law's turn: choices, rows. -/
namespace K21
open Ev
variable {k : Nat} {n : Nat} {sc : D} {b f s : Doc} {is : List Int}
theorem evSrc_it {C : Cx} {e : CE} {σ : Fr} {h h1 : Mem} {d : D} {xs : List D} (q : evE C e σ h = .ok d h1) (i : itD d = some xs) : evSrc C (.it e) σ h = .ok xs h1 := by
  rw [evSrc, q]
  dsimp only
  rw [i]
theorem own_eq {cs : List (List Nat)} (hc : cs.length = (mgC b f s).length) : (mg (chL (cs ++ [FW])) b f s [] 0) = mg (chL cs) b f s [] 0 := by
  have sm := mg_same (chL cs) c0 b f s [] 0 0
  refine (mg_ext (chL cs) (chL (cs ++ [FW])) b f s [] 0 (fun j h1 h2 => ?_)).symm
  rw [sm] at h2
  have h3 : j < 0 + (mgC b f s).length := h2
  exact (chL_app (by omega)).symm
theorem turn_d (hk : 206 ≤ k) (t : Three b f s) (hI : Is is) {h : Mem} {N c : Nat} (hN : h[N]? = some (.box (.lst (mgC b f s)))) (hn : h[n]? = some (stB is c)) (nN : n ≠ N) (hc : c + 100 < 2 ^ 60) (o2 o4 o5 o6 o9 o12 o13 o14 o15 o16 o17 o18 o19 : Option D) :
    ∃ (cs : List (List Nat)) (h' : Mem) (c' : Nat), cs.length = (mgC b f s).length ∧ h'[n]? = some (stB is c') ∧ c ≤ c' ∧ c' ≤ c + 12 ∧ ∀ ss, evSs (prog.cx k (callF prog k)) (.fz 10 (.cons u_law_12 (.cons u_law_13 (.cons u_law_14 (.cons u_law_15 (.cons u_law_16 ss)))))) (LF sc n o2 (some (enc b)) o4 o5 o6 (some (enc f)) (some (enc s)) o9 (some (.loc N)) (some (due b f s)) o12 o13 o14 o15 o16 o17 o18 o19) h =
      evSs (prog.cx k (callF prog k)) ss (LF sc n o2 (some (enc b)) o4 o5 o6 (some (enc f)) (some (enc s)) o9 (some (.lst (mgC b f s))) (some (due b f s)) (some (.tup (strD cs))) (some (enc (mg (chL cs) b f s [] 0).1)) (some (.lst ((lvs b).map fun x => .tup (pD x.1)))) o15 o16 o17 o18 o19) h' := by
  have gb := t.gb
  have gf := t.gf
  have gs := t.gs
  have hn1 : (h.set N .gone)[n]? = some (stB is c) := by rw [List.getElem?_set_ne (fun z => nN z.symm)]; exact hn
  have lC : (mgC b f s).length ≤ 12 := Nat.le_trans (mg_len c0 b f s [] 0) t.zb
  obtain ⟨cs, l1, l2, l3⟩ := choices_loop (k := k) (by omega) hI (σ := LF sc n o2 (some (enc b)) o4 o5 o6 (some (enc f)) (some (enc s)) o9 (some (.lst (mgC b f s))) (some (due b f s)) o12 o13 o14 o15 o16 o17 o18 o19) rfl (by show 18 < 20; decide) (mgC b f s) [] (h.set N .gone) c hn1 (by omega) (by simp; omega)
  rw [List.nil_append] at l3
  generalize hh2 : (h.set N .gone).set n (stB is (c + (mgC b f s).length)) = h2 at l3
  have hn2 : h2[n]? = some (stB is (c + (mgC b f s).length)) := by rw [← hh2]; exact set_get (get_lt hn1)
  have es : ∀ hh : Mem, evSrc (prog.cx k (callF prog k)) (.it (.v 10)) (LF sc n o2 (some (enc b)) o4 o5 o6 (some (enc f)) (some (enc s)) o9 (some (.lst (mgC b f s))) (some (due b f s)) o12 o13 o14 o15 o16 o17 o18 o19) hh = .ok (mgC b f s) hh := fun hh => by
    simp only [LF, evSs, evS, evE, evL, evT, evTA, evTO, evF, evSrc, evO, evAnd, evOr, asgT, asgTs, cx_glob, cx_call, shal_int, shal_str, shal_tup, shal_lst, shal_non, shal_bl, bin_addi, bin_subi, bin_addt, bin_addl, bin_adds, bin_mod, bin_div, cmp_lt, cmp_le, cmp_gt, cmp_ge, cmp_eqi, cmp_nei, cmp_eqs, cmp_nes, cmp_ins, cmp_nins, cmp_isn, cmp_isns, item_tup, item_lst, bi_lens, bi_lent, bi_lenl, bi_int, bi_intb, bi_abs, bi_max2, bi_tuplel, bi_tuplet, itD, slice, seqD, pure_non, pure_bl, pure_int, pure_str, pure_tup, pure_lst, pures_nil, pures_cons, startF, List.replicate, List.length_cons, List.length_nil, List.set_cons_zero, List.set_cons_succ, List.getElem?_cons_zero, List.getElem?_cons_succ, List.getElem?_nil, Nat.zero_add, Nat.reduceAdd, Nat.reduceSub, Nat.reduceLT, Nat.reduceLeDiff, if_true, Bool.not_true, Bool.not_false, List.map_cons, List.map_nil, List.cons_append, List.nil_append, reduceIte, and_self, and_true, true_and, decide_true, decide_false, Bool.true_and, Bool.and_true, Bool.false_and, Bool.and_false, fin_non, fin_bl, fin_int, fin_str, finX_same', gt_iff_lt, Nat.lt_add_one, Bool.false_eq_true]
  have t12 : evS (prog.cx k (callF prog k)) u_law_12 (LF sc n o2 (some (enc b)) o4 o5 o6 (some (enc f)) (some (enc s)) o9 (some (.lst (mgC b f s))) (some (due b f s)) o12 o13 o14 o15 o16 o17 o18 o19) (h.set N .gone) = .nx (LF sc n o2 (some (enc b)) o4 o5 o6 (some (enc f)) (some (enc s)) o9 (some (.lst (mgC b f s))) (some (due b f s)) (some (.tup (strD cs))) o13 o14 o15 o16 o17 o18 o19) h2 :=
    evS_asg (ev_bi (ev_cons (ev_lc (es _) l3) ev_nil) bi_tuplel) rfl
  have m3 := merge_at (k := k) (b := b) (f := f) (s := s) (by omega) (by have := t.zb; omega) (by have := dp_sz f; have := t.zf; omega) (by have := dp_sz s; have := t.zs; omega) (h2 ++ [.box (.lst [])]) (N := h2.length) m1_get0 (cs ++ [FW]) (fun c hc => by
    rcases List.mem_append.mp hc with z | z
    · exact l2 c z
    · rw [List.mem_singleton] at z; exact .inl z) (by rw [List.length_append]; omega)
  rw [m1_set0, own_eq l1] at m3
  have sA : strD cs ++ [D.str FW] = strD (cs ++ [FW]) := by simp [strD]
  have ladd : (strD cs).length + 1 ≤ LIM := lim_lt (by rw [strD_len]; omega)
  have eadd : evE (prog.cx k (callF prog k)) (.bin .add (.fr (.list_ (.v 12))) (.fr (.lst (.cons (.c (.str [102, 105, 114, 115, 116])) .nil)))) (LF sc n o2 (some (enc b)) o4 o5 o6 (some (enc f)) (some (enc s)) o9 (some (.lst (mgC b f s))) (some (due b f s)) (some (.tup (strD cs))) o13 o14 o15 o16 o17 o18 o19) (h2 ++ [.box (.lst [])]) = .ok (.lst (strD (cs ++ [FW]))) (h2 ++ [.box (.lst [])]) := by
    have x1 : evE (prog.cx k (callF prog k)) (.fr (.list_ (.v 12))) (LF sc n o2 (some (enc b)) o4 o5 o6 (some (enc f)) (some (enc s)) o9 (some (.lst (mgC b f s))) (some (due b f s)) (some (.tup (strD cs))) o13 o14 o15 o16 o17 o18 o19) (h2 ++ [.box (.lst [])]) = .ok (.lst (strD cs)) (h2 ++ [.box (.lst [])]) := by
      simp only [LF, evSs, evS, evE, evL, evT, evTA, evTO, evF, evSrc, evO, evAnd, evOr, asgT, asgTs, cx_glob, cx_call, shal_int, shal_str, shal_tup, shal_lst, shal_non, shal_bl, bin_addi, bin_subi, bin_addt, bin_addl, bin_adds, bin_mod, bin_div, cmp_lt, cmp_le, cmp_gt, cmp_ge, cmp_eqi, cmp_nei, cmp_eqs, cmp_nes, cmp_ins, cmp_nins, cmp_isn, cmp_isns, item_tup, item_lst, bi_lens, bi_lent, bi_lenl, bi_int, bi_intb, bi_abs, bi_max2, bi_tuplel, bi_tuplet, itD, slice, seqD, pure_non, pure_bl, pure_int, pure_str, pure_tup, pure_lst, pures_nil, pures_cons, startF, List.replicate, List.length_cons, List.length_nil, List.set_cons_zero, List.set_cons_succ, List.getElem?_cons_zero, List.getElem?_cons_succ, List.getElem?_nil, Nat.zero_add, Nat.reduceAdd, Nat.reduceSub, Nat.reduceLT, Nat.reduceLeDiff, if_true, Bool.not_true, Bool.not_false, List.map_cons, List.map_nil, List.cons_append, List.nil_append, reduceIte, and_self, and_true, true_and, decide_true, decide_false, Bool.true_and, Bool.and_true, Bool.false_and, Bool.and_false, fin_non, fin_bl, fin_int, fin_str, finX_same', gt_iff_lt, Nat.lt_add_one, Bool.false_eq_true]
    exact ev_bin x1 (ev_lst (ev_cons (ev_c rfl) ev_nil) (by show 1 ≤ LIM; decide)) (by rw [shal_lst, shal_lst, bin_addl]; exact (if_pos ladd).trans (by rw [← sA]))
  have t13 : evS (prog.cx k (callF prog k)) u_law_13 (LF sc n o2 (some (enc b)) o4 o5 o6 (some (enc f)) (some (enc s)) o9 (some (.lst (mgC b f s))) (some (due b f s)) (some (.tup (strD cs))) o13 o14 o15 o16 o17 o18 o19) h2 = .nx (LF sc n o2 (some (enc b)) o4 o5 o6 (some (enc f)) (some (enc s)) o9 (some (.lst (mgC b f s))) (some (due b f s)) (some (.tup (strD cs))) (some (enc (mg (chL cs) b f s [] 0).1)) o14 o15 o16 o17 o18 o19) (h2 ++ [.box (.lst (mgC b f s))]) :=
    evS_asg (evE_callx (ev_cons (ev_v rfl) (ev_cons (ev_v rfl) (ev_cons (ev_v rfl) (ev_cons t0l (ev_cons (ev_nw (by rw [evF, ev_nil]; exact if_pos (show 0 ≤ LIM by decide))) (ev_cons eadd ev_nil)))))) m3) rfl
  have hn3 : (h2 ++ [.box (.lst (mgC b f s))])[n]? = some (stB is (c + (mgC b f s).length)) := by rw [app_get (get_lt hn2)]; exact hn2
  refine ⟨cs, h2 ++ [.box (.lst (mgC b f s))], c + (mgC b f s).length, l1, hn3, by omega, by omega, fun ss => ?_⟩
  refine sq_fz (i := 10) (n := N) (d := .lst (mgC b f s)) rfl hN ?_
  refine sq_nx t12 (sq_nx t13 ?_)
  generalize h2 ++ [.box (.lst (mgC b f s))] = h3
  have zo := t.zm (chL cs) [] 0
  have oo := mg_ok (chL cs) b f s [] 0 t.ob t.of t.os
  have do' := mg_dp (chL cs) b f s [] 0 30 (by have := dp_sz b; have := t.zb; omega) (by have := dp_sz f; have := t.zf; omega) (by have := dp_sz s; have := t.zs; omega)
  have x2 := T2 (k := k) (h := h3) (by omega) gb gf gs cs l1 l2 (by omega)
  have x3 := T3 (k := k) (h := h3) (by omega) gf gs (enc b) (.tup [])
  have xa := law_apart_ok k f s [] h3 (by have := dp_sz f; have := t.zf; omega) (by have := t.zf; omega) (by have := dp_sz f; have := t.zf; simp; omega) rfl
  have pa := ap_pure f s [] rfl
  generalize (mg (chL cs) b f s [] 0).1 = own at zo oo do' x2
  have c14 : callF prog k i_law_same [.lst [.tup [.str TW, enc own], .tup [.str TW, .lst (ap f s [])]], .lst [.tup [.str TW, enc own], .tup [.str TW, .lst (ap f s [])]]] h3 = .ok (.bl true) h3 :=
    same_pure (by omega) (by simp [enc_pure, pa]) (fn_mono (fn_two (fn_told (fn_enc oo (by omega) (by omega)) (by decide)) (fn_mono (fn_told (fn_ap f s (by have := t.zf; omega)) (by decide)) (Nat.le_refl _) (by decide))).2 (by decide) (by decide))
  refine sq_nx (σ1 := LF sc n o2 (some (enc b)) o4 o5 o6 (some (enc f)) (some (enc s)) o9 (some (.lst (mgC b f s))) (some (due b f s)) (some (.tup (strD cs))) (some (enc own)) o14 o15 o16 o17 o18 o19) (h1 := h3) ?_ ?_
  · exact st_same (q2 (evE_callx (l5 (ev_c rfl) (ev_v rfl) (ev_v rfl) (ev_v rfl) (ev_v rfl)) x2) (evE_callx (l5 (ev_c rfl) (ev_v rfl) (ev_v rfl) (ev_v rfl) t0l) x3)) (q2 (p2 (ev_c rfl) (ev_v rfl)) (p2 (ev_c rfl) (evE_callx (ev_cons (ev_v rfl) (ev_cons (ev_v rfl) (ev_cons t0l ev_nil))) xa))) c14
  have xf := law_apart_ok k f f [] h3 (by have := dp_sz f; have := t.zf; omega) (by have := t.zf; omega) (by have := dp_sz f; have := t.zf; simp; omega) rfl
  have xb := T3 (k := k) (h := h3) (by omega) gb gb (.tup []) (.tup [])
  rw [ap_self] at xf xb
  refine sq_nx (σ1 := LF sc n o2 (some (enc b)) o4 o5 o6 (some (enc f)) (some (enc s)) o9 (some (.lst (mgC b f s))) (some (due b f s)) (some (.tup (strD cs))) (some (enc own)) o14 o15 o16 o17 o18 o19) (h1 := h3) ?_ ?_
  · refine (evS_ite (v := false) (h1 := h3) (evTO2 (h1 := h3) ?_ ?_)).trans ?_
    · exact evT_e (ev_cmp (ev_bi (ev_cons (evE_callx (ev_cons (ev_v rfl) (ev_cons (ev_v rfl) (ev_cons t0l ev_nil))) xf) ev_nil) bi_lenl) (ev_c rfl) cmp_nei)
    · exact evT_e (ev_cmp (evE_callx (l5 (ev_c rfl) t0l (ev_v rfl) (ev_v rfl) t0l) xb) (p2 (ev_c rfl) (ev_lst ev_nil (by show 0 ≤ LIM; decide))) (by rw [cmp_ne rfl rfl (by decide) (by decide)]; rfl))
    · rw [if_neg (by decide), sq_nil]
  have xn := law_nodes_ok k b [] h3 (by have := dp_sz b; have := t.zb; omega) (by have := dp_sz b; have := t.zb; simp; omega) (by have := t.zb; omega) rfl
  have nE : nds [] b = (nl b []).map ndD := nl_nds b []
  rw [nE] at xn
  have nlen : (nl b []).length ≤ 100 := by
    have := nds_len b []
    rw [nE, List.length_map] at this
    have := t.zb
    omega
  have lp := lcL_on (elt := evE (prog.cx k (callF prog k)) e_law_1) (test := evT (prog.cx k (callF prog k)) c_law_0) (t := .tp (.cons (.nm 18) (.cons (.nm 19) .nil))) (σ := LF sc n o2 (some (enc b)) o4 o5 o6 (some (enc f)) (some (enc s)) o9 (some (.lst (mgC b f s))) (some (due b f s)) (some (.tup (strD cs))) (some (enc own)) o14 o15 o16 o17 o18 o19) (h := h3)
    ndD (fun x => .tup (pD x.1)) (fun x => decide (x.2.ks.length = 0)) (fun x => LF sc n o2 (some (enc b)) o4 o5 o6 (some (enc f)) (some (enc s)) o9 (some (.lst (mgC b f s))) (some (due b f s)) (some (.tup (strD cs))) (some (enc own)) o14 o15 o16 o17 (some (.tup (pD x.1))) (some (enc x.2))) (nl b []) [] (fun x _ => ⟨rfl, by
      obtain ⟨p, ⟨l, ks⟩⟩ := x
      have e : enc (.mk l ks) = .tup (.str l :: encs ks) := by rw [enc]
      have d : decide ((((encs ks).length + 1 : Nat) : Int) = 1) = decide (ks.length = 0) := by
        rw [encs_len]
        by_cases z : ks.length = 0
        · rw [decide_eq_true z, decide_eq_true (by omega)]
        · rw [decide_eq_false z, decide_eq_false (by omega)]
      simp only [LF, c_law_0, e, d, Doc.ks, evSs, evS, evE, evL, evT, evTA, evTO, evF, evSrc, evO, evAnd, evOr, asgT, asgTs, cx_glob, cx_call, shal_int, shal_str, shal_tup, shal_lst, shal_non, shal_bl, bin_addi, bin_subi, bin_addt, bin_addl, bin_adds, bin_mod, bin_div, cmp_lt, cmp_le, cmp_gt, cmp_ge, cmp_eqi, cmp_nei, cmp_eqs, cmp_nes, cmp_ins, cmp_nins, cmp_isn, cmp_isns, item_tup, item_lst, bi_lens, bi_lent, bi_lenl, bi_int, bi_intb, bi_abs, bi_max2, bi_tuplel, bi_tuplet, itD, slice, seqD, pure_non, pure_bl, pure_int, pure_str, pure_tup, pure_lst, pures_nil, pures_cons, startF, List.replicate, List.length_cons, List.length_nil, List.set_cons_zero, List.set_cons_succ, List.getElem?_cons_zero, List.getElem?_cons_succ, List.getElem?_nil, Nat.zero_add, Nat.reduceAdd, Nat.reduceSub, Nat.reduceLT, Nat.reduceLeDiff, if_true, Bool.not_true, Bool.not_false, List.map_cons, List.map_nil, List.cons_append, List.nil_append, reduceIte, and_self, and_true, true_and, decide_true, decide_false, Bool.true_and, Bool.and_true, Bool.false_and, Bool.and_false, fin_non, fin_bl, fin_int, fin_str, finX_same', gt_iff_lt, Nat.lt_add_one, Bool.false_eq_true]
      rfl, fun _ => ev_v rfl⟩) (by rw [List.length_nil]; exact lim_lt (by omega))
  rw [List.nil_append] at lp
  refine sq_nx (evS_asg (ev_lc (ds := (nl b []).map ndD) (h1 := h3) ?_ lp) rfl) rfl
  exact evSrc_it (evE_callx (ev_cons (ev_v rfl) (ev_cons t0l ev_nil)) xn) rfl
end K21
end
section
set_option Elab.async false
set_option autoImplicit false
set_option maxRecDepth 100000
set_option linter.all false
/-! N25: the law's turn: the last comparisons. -/
namespace K21
open Ev
mutual
theorem sub_put_ne : ∀ (d : Doc) (p q : List Nat) (x : Doc) (lp lq : List Nat), sub d p = some (.mk lp []) → sub d q = some (.mk lq []) → p ≠ q → sub (put d p x) q = some (.mk lq [])
  | .mk l ks, p, q, x, lp, lq, hp, hq, ne => by
    cases p with
    | nil =>
      rw [sub] at hp
      cases hp
      cases q with
      | nil => exact absurd rfl ne
      | cons j q => rw [sub] at hq; simp at hq
    | cons i p =>
      cases q with
      | nil =>
        rw [sub] at hq
        cases hq
        rw [sub] at hp
        simp at hp
      | cons j q =>
        rw [sub] at hp hq
        cases qi : ks[i]? with
        | none => rw [qi] at hp; cases hp
        | some ci =>
          cases qj : ks[j]? with
          | none => rw [qj] at hq; cases hq
          | some cj =>
            rw [qi] at hp
            rw [qj] at hq
            obtain ⟨c', e, r⟩ := subs_put_ne ks i j p q x lp lq ci cj qi qj hp hq (fun z w => ne (by rw [z, w]))
            rw [put, sub, e]
            exact r
theorem subs_put_ne : ∀ (ks : List Doc) (i j : Nat) (p q : List Nat) (x : Doc) (lp lq : List Nat) (ci cj : Doc), ks[i]? = some ci → ks[j]? = some cj → sub ci p = some (.mk lp []) → sub cj q = some (.mk lq []) → (i = j → p ≠ q) → ∃ c', (puts ks i p x)[j]? = some c' ∧ sub c' q = some (.mk lq [])
  | [], i, j, p, q, x, lp, lq, ci, cj, hi, _, _, _, _ => by simp at hi
  | k :: ks, 0, 0, p, q, x, lp, lq, ci, cj, hi, hj, hp, hq, ne => by
    simp at hi hj
    subst hi hj
    exact ⟨put k p x, by rw [puts]; rfl, sub_put_ne k p q x lp lq hp hq (ne rfl)⟩
  | k :: ks, 0, j + 1, p, q, x, lp, lq, ci, cj, hi, hj, hp, hq, ne => ⟨cj, by rw [puts]; simpa using hj, hq⟩
  | k :: ks, i + 1, 0, p, q, x, lp, lq, ci, cj, hi, hj, hp, hq, ne => ⟨cj, by rw [puts]; simpa using hj, hq⟩
  | k :: ks, i + 1, j + 1, p, q, x, lp, lq, ci, cj, hi, hj, hp, hq, ne => by
    obtain ⟨c', e, r⟩ := subs_put_ne ks i j p q x lp lq ci cj (by simpa using hi) (by simpa using hj) hp hq (fun z => ne (by rw [z]))
    exact ⟨c', by rw [puts]; simpa using e, r⟩
end
abbrev NW : Doc := .mk [110, 101, 119] []
abbrev GN : Doc := .mk [103] [NW]
theorem eNW : enc NW = .tup [.str [110, 101, 119]] := by rw [enc, encs]
theorem eGN : enc GN = .tup [.str [103], .tup [.str [110, 101, 119]]] := by rw [enc, encs, encs, eNW]
theorem eAD : enc AD = .tup [.str [65]] := by rw [enc, encs]
variable {k : Nat} {n : Nat} {sc : D} {b f s : Doc} {is : List Int}
theorem turn_rows (hk : 206 ≤ k) (t : Three b f s) {h : Mem} (o2 o4 o5 o6 o7 o8 o9 o10 o11 o12 o13 o15 o16 o17 o18 o19 : Option D) :
    ∃ p16 p17 : Option D, evS (prog.cx k (callF prog k)) u_law_17 (LF sc n o2 (some (enc b)) o4 o5 o6 o7 o8 o9 o10 o11 o12 o13 (some (.lst ((lvs b).map fun x => .tup (pD x.1)))) o15 o16 o17 o18 o19) h =
      .nx (LF sc n o2 (some (enc b)) o4 o5 o6 o7 o8 o9 o10 o11 o12 o13 (some (.lst ((lvs b).map fun x => .tup (pD x.1)))) o15 p16 p17 o18 o19) h := by
  have gb := t.gb
  have zb := t.zb
  have db := dp_sz b
  have tt : evT (prog.cx k (callF prog k)) (.e (.cmp .gt (.bi .len (.cons (.v 14) .nil)) (.c (.int 1)))) (LF sc n o2 (some (enc b)) o4 o5 o6 o7 o8 o9 o10 o11 o12 o13 (some (.lst ((lvs b).map fun x => .tup (pD x.1)))) o15 o16 o17 o18 o19) h = .ok (decide ((1 : Int) < ((((lvs b).map fun x => D.tup (pD x.1)).length : Nat) : Int))) h :=
    evT_e (ev_cmp (ev_bi (ev_cons (ev_v rfl) ev_nil) bi_lenl) (ev_c rfl) cmp_gt)
  rw [List.length_map] at tt
  by_cases z : 1 < (lvs b).length
  · rw [decide_eq_true (show (1 : Int) < ((lvs b).length : Int) by omega)] at tt
    obtain ⟨p, q, lp, lq, hp, hq, ne, i0, i1⟩ : ∃ (p q lp lq : List Nat), sub b p = some (.mk lp []) ∧ sub b q = some (.mk lq []) ∧ p ≠ q ∧ atI ((lvs b).map fun x => D.tup (pD x.1)) 0 = some (.tup (pD p)) ∧ atI ((lvs b).map fun x => D.tup (pD x.1)) (-1) = some (.tup (pD q)) := by
      have l0 : 0 < (lvs b).length := by omega
      have l1 : (lvs b).length - 1 < (lvs b).length := by omega
      obtain ⟨lp, hp⟩ := lvs_mem (List.getElem_mem l0)
      obtain ⟨lq, hq⟩ := lvs_mem (List.getElem_mem l1)
      refine ⟨_, _, lp, lq, hp, hq, lvs_two z, ?_, ?_⟩
      · exact atI_map (r := 0) l0
      · have nn : ((lvs b).map fun x => D.tup (pD x.1)) ≠ [] := by
          intro y
          have := congrArg List.length y
          rw [List.length_map, List.length_nil] at this
          omega
        rw [atI_last nn, List.getLast?_eq_getElem?, List.length_map, List.getElem?_map, List.getElem?_eq_getElem l1]
        rfl
    generalize (lvs b).map (fun x => D.tup (pD x.1)) = rows at i0 i1 tt ⊢
    have pl := sub_dp b p _ hp
    have ql := sub_dp b q _ hq
    have lN : lab [110, 101, 119] = true := by decide
    have lG : lab [103] = true := by decide
    have okN : okd NW = true := by decide
    have okG : okd GN = true := by decide
    have zN : sz NW = 1 := by decide
    have zG : sz GN = 2 := by decide
    have s1' : sz (.mk lp []) = 1 := by simp [sz, szs]
    have s2' : sz (.mk lq []) = 1 := by simp [sz, szs]
    have hq1 := sub_put_ne b p q NW lp lq hp hq ne
    have z1 := put_sz b p NW _ hp
    have z2 := put_sz b q GN _ hq
    have z3 := put_sz (put b p NW) q GN _ hq1
    have o1 := put_ok b p NW gb.ok okN
    have o2' := put_ok b q GN gb.ok okG
    have o3' := put_ok (put b p NW) q GN o1 okG
    have u1 := law_put_ok k b p NW h _ (by omega) (by omega) hp
    have u2 := law_put_ok k b q GN h _ (by omega) (by omega) hq
    have u3 := law_put_ok k (put b p NW) q GN h _ (by omega) (by omega) hq1
    have two := mg_two c0 b p q NW GN lp lq [] 0 hp hq ne (by intro w; cases w)
    have T := T1 (k := k) (h := h) (by omega) gb (good_of o1 (by omega)) (good_of o2' (by omega)) (.tup []) (show sz (mg c0 b (put b p NW) (put b q GN) [] 0).1 ≤ 300 by rw [two]; show sz (put (put b p NW) q GN) ≤ 300; omega)
    have dE : due b (put b p NW) (put b q GN) = .tup [.str TW, enc (put (put b p NW) q GN)] := by
      rw [due_nil (show (mg c0 b (put b p NW) (put b q GN) [] 0).2 = [] by rw [two])]
      show D.tup [.str TW, enc (mg c0 b (put b p NW) (put b q GN) [] 0).1] = _
      rw [two]
    rw [dE] at T
    have cs := same_pure (k := k) (h := h) (x := .tup [.str TW, enc (put (put b p NW) q GN)]) (by omega) (by simp [enc_pure]) (fn_mono (fn_told (fnE o3' (by omega)) (by decide)) (by decide) (by decide))
    rw [eNW] at u1
    rw [eGN] at u2 u3
    generalize enc (put (put b p NW) q GN) = r3 at u3 T cs
    generalize enc (put b p NW) = r1 at u1 u3 T
    generalize enc (put b q GN) = r2 at u2 T
    refine ⟨some r1, some r2, ?_⟩
    refine (evS_ite tt).trans ?_
    rw [if_pos rfl]
    have lN1 : ∀ σ, evE (prog.cx k (callF prog k)) (.tup (.cons (.c (.str [110, 101, 119])) .nil)) σ h = .ok (.tup [.str [110, 101, 119]]) h := fun σ => ev_tup (ev_cons (ev_c rfl) ev_nil) (by show 1 ≤ LIM; decide)
    have im : ∀ σ, σ[14]? = some (some (.lst rows)) → evE (prog.cx k (callF prog k)) (.ix (.v 14) (.neg (.c (.int 1)))) σ h = .ok (.tup (pD q)) h := fun σ e => ev_ix (ev_v e) (y := .int (-1)) (by rw [evE, ev_c rfl]) (by rw [shal_lst, item_lst]; exact i1)
    refine sq_nx (evS_asg (evE_callx (ev_cons (ev_v rfl) (ev_cons (ev_ix (ev_v rfl) (ev_c rfl) (by rw [shal_lst, item_lst]; exact i0)) (ev_cons (lN1 _) ev_nil))) u1) rfl) ?_
    refine sq_nx (evS_asg (evE_callx (ev_cons (ev_v rfl) (ev_cons (im _ rfl) (ev_cons (p2 (ev_c rfl) (lN1 _)) ev_nil))) u2) rfl) ?_
    exact sq_nx (st_same (evE_callx (l5 (ev_c rfl) (ev_v rfl) (ev_v rfl) (ev_v rfl) t0l) T) (p2 (ev_c rfl) (evE_callx (ev_cons (ev_v rfl) (ev_cons (im _ rfl) (ev_cons (p2 (ev_c rfl) (lN1 _)) ev_nil))) u3)) cs) sq_nil
  · rw [decide_eq_false (show ¬ (1 : Int) < ((lvs b).length : Int) by omega)] at tt
    refine ⟨o16, o17, ?_⟩
    refine (evS_ite tt).trans ?_
    rw [if_neg (by decide), sq_nil]
theorem turn_e (hk : 206 ≤ k) (t : Three b f s) {h : Mem} (cs : List (List Nat)) (hc : cs.length = (mgC b f s).length) (o2 o4 o5 o6 o10 o11 o13 o14 o15 o16 o17 o18 o19 : Option D) :
    ∃ p15 : Option D, evSs (prog.cx k (callF prog k)) (.cons u_law_18 (.cons u_law_19 (.cons u_law_20 .nil))) (LF sc n o2 (some (enc b)) o4 o5 o6 (some (enc f)) (some (enc s)) (some (.rep (.tup [enc b, enc f, enc s]))) o10 o11 (some (.tup (strD cs))) o13 o14 o15 o16 o17 o18 o19) h =
      .nx (LF sc n o2 (some (enc b)) o4 o5 o6 (some (enc f)) (some (enc s)) (some (.rep (.tup [enc b, enc f, enc s]))) o10 o11 (some (.tup (strD cs))) o13 o14 p15 o16 o17 o18 o19) h := by
  have gb := t.gb
  have gf := t.gf
  have gs := t.gs
  have lC : (mgC b f s).length ≤ 12 := Nat.le_trans (mg_len c0 b f s [] 0) t.zb
  have x1 := T2F (k := k) (h := h) (by omega) gb gf gs (cs ++ [FW]) (by rw [List.length_append, hc]; simp)
  have cf : mgC b f f = [] := by
    obtain ⟨lb, kb⟩ := b
    show (mg c0 (.mk lb kb) f f [] 0).2 = []
    rw [mg, if_pos (.inl rfl)]
  have x2 := T2F (k := k) (h := h) (by omega) gb gf gf [[116, 104, 105, 114, 100]] (by rw [cf]; decide)
  have x3 := B0 (k := k) (h := h) (f := f) (s := s) (by omega) (.tup [])
  have x4 := B1 (k := k) (h := h) (b := b) (s := s) (by omega) gb (.tup [])
  have x5 := B2 (k := k) (h := h) (by omega) gb gf (.tup [])
  have x6 := B3 (k := k) (h := h) (by omega) (.tup []) (enc b) (.tup [])
  rw [eAD] at x3 x4 x5 x6
  have ladd : (strD cs).length + [D.str FW].length ≤ LIM := lim_lt (by rw [strD_len]; simp; omega)
  have sA : strD cs ++ [D.str FW] = strD (cs ++ [FW]) := by simp [strD]
  have eA : ∀ σ, evE (prog.cx k (callF prog k)) (.tup (.cons (.c (.str [65])) .nil)) σ h = .ok (.tup [.str [65]]) h := fun σ => ev_tup (ev_cons (ev_c rfl) ev_nil) (by show 1 ≤ LIM; decide)
  have eT : ∀ σ, evE (prog.cx k (callF prog k)) (.tup (.cons (.c (.str [116, 104, 105, 114, 100])) .nil)) σ h = .ok (.tup (strD [[116, 104, 105, 114, 100]])) h := fun σ => ev_tup (ev_cons (ev_c rfl) ev_nil) (by show 1 ≤ LIM; decide)
  have eF : ∀ σ, σ[12]? = some (some (.tup (strD cs))) → evE (prog.cx k (callF prog k)) (.bin .add (.v 12) (.tup (.cons (.c (.str FW)) .nil))) σ h = .ok (.tup (strD (cs ++ [FW]))) h := fun σ e => ev_bin (ev_v e) (ev_tup (ev_cons (ev_c rfl) ev_nil) (by show 1 ≤ LIM; decide)) (by rw [shal_tup, shal_tup, bin_addt]; exact (if_pos ladd).trans (by rw [← sA]))
  have t18 : evS (prog.cx k (callF prog k)) u_law_18 (LF sc n o2 (some (enc b)) o4 o5 o6 (some (enc f)) (some (enc s)) (some (.rep (.tup [enc b, enc f, enc s]))) o10 o11 (some (.tup (strD cs))) o13 o14 o15 o16 o17 o18 o19) h = .nx (LF sc n o2 (some (enc b)) o4 o5 o6 (some (enc f)) (some (enc s)) (some (.rep (.tup [enc b, enc f, enc s]))) o10 o11 (some (.tup (strD cs))) o13 o14 (some (.lst [.str RW, .str RW, .str RW, .str RW])) o16 o17 o18 o19) h := by
    refine evS_asg (ev_lst (ev_cons (evE_callx (l5 (ev_c rfl) (ev_v rfl) (ev_v rfl) (ev_v rfl) (eF _ rfl)) x1) (ev_cons (evE_callx (l5 (ev_c rfl) (ev_v rfl) (ev_v rfl) (ev_v rfl) (eT _)) x2) (ev_cons (evE_callx (l5 (ev_c rfl) (eA _) (ev_v rfl) (ev_v rfl) t0l) x3) (ev_cons (evE_callx (l5 (ev_c rfl) (ev_v rfl) (eA _) (ev_v rfl) t0l) x4) ev_nil)))) (by show 4 ≤ LIM; decide)) rfl
  have t19 : evS (prog.cx k (callF prog k)) u_law_19 (LF sc n o2 (some (enc b)) o4 o5 o6 (some (enc f)) (some (enc s)) (some (.rep (.tup [enc b, enc f, enc s]))) o10 o11 (some (.tup (strD cs))) o13 o14 (some (.lst [.str RW, .str RW, .str RW, .str RW])) o16 o17 o18 o19) h = .nx (LF sc n o2 (some (enc b)) o4 o5 o6 (some (enc f)) (some (enc s)) (some (.rep (.tup [enc b, enc f, enc s]))) o10 o11 (some (.tup (strD cs))) o13 o14 (some (.lst [.str RW, .str RW, .str RW, .str RW, .str RW, .str RW])) o16 o17 o18 o19) h := by
    refine evS_asg (ev_bin (ev_v rfl) (q2 (evE_callx (l5 (ev_c rfl) (ev_v rfl) (ev_v rfl) (eA _) t0l) x5) (evE_callx (l5 (ev_c rfl) t0l (eA _) (ev_v rfl) t0l) x6)) (z := .lst [.str RW, .str RW, .str RW, .str RW, .str RW, .str RW]) ?_) rfl
    rw [shal_lst, shal_lst, bin_addl]
    exact if_pos (by show 4 + 2 ≤ LIM; decide)
  refine ⟨some (.lst [.str RW, .str RW, .str RW, .str RW, .str RW, .str RW]), ?_⟩
  refine sq_nx t18 (sq_nx t19 (sq_nx ?_ sq_nil))
  refine (evS_ite (v := false) (h1 := h) (evTO2 (h1 := h) ?_ ?_)).trans ?_
  · refine evT_e (ev_cmp (ev_v rfl) (rep_ok RW 6 (by decide)) ?_)
    rw [cmp_ne rfl (by rw [pure_lst]; exact strD_pure _) (by decide) (by decide)]
    rfl
  · refine evT_e (ev_cmp (ev_bi (ev_cons (ev_tup (ev_cons (ev_v rfl) (ev_cons (ev_v rfl) (ev_cons (ev_v rfl) ev_nil))) (by show 3 ≤ LIM; decide)) ev_nil) (repr_ok pure_three (fn_three t.ob t.of t.os (by have := t.zb; omega) (by have := t.zf; omega) (by have := t.zs; omega)))) (ev_v rfl) ?_)
    show (if (D.tup [enc b, enc f, enc s]).beq (.tup [enc b, enc f, enc s]) then some false else none) = some false
    rw [D.beq_refl, if_pos rfl]
  · rw [if_neg (by decide), sq_nil]
end K21
end
section
set_option Elab.async false
set_option autoImplicit false
set_option maxRecDepth 100000
set_option linter.all false
/-! N26: the law. -/
namespace K21
open Ev
variable {k : Nat} {n : Nat} {sc : D} {is : List Int}
theorem turn_ok (hk : 206 ≤ k) (hI : Is is) {h : Mem} {c : Nat} (e : h[n]? = some (stB is c)) (hc : c + 300 < 2 ^ 60) (o2 o3 o4 o5 o6 o7 o8 o9 o10 o11 o12 o13 o14 o15 o16 o17 o18 o19 : Option D) :
    ∃ (p3 p6 p7 p8 p9 p10 p11 p12 p13 p14 p15 p16 p17 : Option D) (h' : Mem) (c' : Nat), evSs (prog.cx k (callF prog k)) b_law_0 (LF sc n o2 o3 o4 o5 o6 o7 o8 o9 o10 o11 o12 o13 o14 o15 o16 o17 o18 o19) h = .nx (LF sc n o2 p3 o4 o5 p6 p7 p8 p9 p10 p11 p12 p13 p14 p15 p16 p17 o18 o19) h' ∧ h'[n]? = some (stB is c') ∧ c' ≤ c + 200 := by
  obtain ⟨b, f, s, sg, c1, ob, of, os, zb, zf, zs, x1, x2, ea⟩ := turn_a (sc := sc) hk hI e (by omega) o2 o3 o4 o5 o6 o7 o8 o9 o10 o11 o12 o13 o14 o15 o16 o17 o18 o19
  have t : Three b f s := ⟨ob, of, os, zb, zf, zs⟩
  have hn := get_lt e
  have e1 : (h.set n (stB is c1))[n]? = some (stB is c1) := set_get hn
  generalize h.set n (stB is c1) = hA at ea e1
  have hnA := get_lt e1
  obtain ⟨tl, eb⟩ := turn_b (k := k) (n := n) (sc := sc) (b := b) (f := f) (s := s) hk (by omega) (by have := dp_sz f; omega) (by have := dp_sz s; omega) (h := hA) o2 o4 o5 (some sg) (some (.rep (.tup [enc b, enc f, enc s]))) o10 o11 o12 o13 o14 o15 o16 o17 o18 o19
  have hN : (hA ++ .box (.lst (mgC b f s)) :: tl)[hA.length]? = some (.box (.lst (mgC b f s))) := by
    rw [List.getElem?_append_right (Nat.le_refl _), Nat.sub_self]
    rfl
  have e2 : (hA ++ .box (.lst (mgC b f s)) :: tl)[n]? = some (stB is c1) := by rw [app_get hnA]; exact e1
  generalize hA ++ .box (.lst (mgC b f s)) :: tl = hB at eb hN e2
  have ec := turn_c (k := k) (n := n) (sc := sc) hk t (h := hB) (N := hA.length) hN o2 o4 o5 (some sg) (some (.rep (.tup [enc b, enc f, enc s]))) o12 o13 o14 o15 o16 o17 o18 o19
  obtain ⟨cs, hD, c2, lc, e3, y1, y2, ed⟩ := turn_d (sc := sc) hk t hI hN e2 (by omega) (by omega) o2 o4 o5 (some sg) (some (.rep (.tup [enc b, enc f, enc s]))) o12 o13 o14 o15 o16 o17 o18 o19
  obtain ⟨p16, p17, er⟩ := turn_rows (n := n) (sc := sc) hk t (h := hD) o2 o4 o5 (some sg) (some (enc f)) (some (enc s)) (some (.rep (.tup [enc b, enc f, enc s]))) (some (.lst (mgC b f s))) (some (due b f s)) (some (.tup (strD cs))) (some (enc (mg (chL cs) b f s [] 0).1)) o15 o16 o17 o18 o19
  obtain ⟨p15, ee⟩ := turn_e (n := n) (sc := sc) hk t (h := hD) cs lc o2 o4 o5 (some sg) (some (.lst (mgC b f s))) (some (due b f s)) (some (enc (mg (chL cs) b f s [] 0).1)) (some (.lst ((lvs b).map fun x => .tup (pD x.1)))) o15 p16 p17 o18 o19
  refine ⟨some (enc b), some sg, some (enc f), some (enc s), some (.rep (.tup [enc b, enc f, enc s])), some (.lst (mgC b f s)), some (due b f s), some (.tup (strD cs)), some (enc (mg (chL cs) b f s [] 0).1), some (.lst ((lvs b).map fun x => .tup (pD x.1))), p15, p16, p17, hD, c2, ?_, e3, by omega⟩
  exact (ea _).trans ((eb _).trans ((ec _).trans ((ed _).trans (sq_nx er ee))))
theorem law_loop (hk : 206 ≤ k) (hI : Is is) : ∀ (m : Nat) (i : Int) (h : Mem) (c : Nat) (o2 o3 o4 o5 o6 o7 o8 o9 o10 o11 o12 o13 o14 o15 o16 o17 o18 o19 : Option D), h[n]? = some (stB is c) → c + 400 * m < 2 ^ 59 →
    ∃ (p2 p3 p6 p7 p8 p9 p10 p11 p12 p13 p14 p15 p16 p17 : Option D) (h' : Mem) (c' : Nat), forL (evSs (prog.cx k (callF prog k)) b_law_0) (.nm 2) (rngL i 1 m) (LF sc n o2 o3 o4 o5 o6 o7 o8 o9 o10 o11 o12 o13 o14 o15 o16 o17 o18 o19) h = .nx (LF sc n p2 p3 o4 o5 p6 p7 p8 p9 p10 p11 p12 p13 p14 p15 p16 p17 o18 o19) h' ∧ h'[n]? = some (stB is c') ∧ c' ≤ c + 200 * m := by
  intro m
  induction m with
  | zero =>
    intro i h c o2 o3 o4 o5 o6 o7 o8 o9 o10 o11 o12 o13 o14 o15 o16 o17 o18 o19 e _
    exact ⟨o2, o3, o6, o7, o8, o9, o10, o11, o12, o13, o14, o15, o16, o17, h, c, rfl, e, by omega⟩
  | succ m ih =>
    intro i h c o2 o3 o4 o5 o6 o7 o8 o9 o10 o11 o12 o13 o14 o15 o16 o17 o18 o19 e hc
    obtain ⟨p3, p6, p7, p8, p9, p10, p11, p12, p13, p14, p15, p16, p17, h1, c1, e1, g1, b1⟩ := turn_ok (sc := sc) hk hI e (by omega) (some (.int i)) o3 o4 o5 o6 o7 o8 o9 o10 o11 o12 o13 o14 o15 o16 o17 o18 o19
    obtain ⟨q2, q3, q6, q7, q8, q9, q10, q11, q12, q13, q14, q15, q16, q17, h2, c2, e2, g2, b2⟩ := ih (i + 1) h1 c1 (some (.int i)) p3 o4 o5 p6 p7 p8 p9 p10 p11 p12 p13 p14 p15 p16 p17 o18 o19 g1 (by omega)
    exact ⟨q2, q3, q6, q7, q8, q9, q10, q11, q12, q13, q14, q15, q16, q17, h2, c2, by rw [rngL, forL_nx rfl e1, e2], g2, by omega⟩
/-! ### the last comparison -/
abbrev LA : Doc := .mk [97] []
abbrev LB : Doc := .mk [98] []
theorem wide_mg (x y : Doc) (hx : 1 < sz x) (hy : 1 < sz y) : mg c0 (.mk [102] [LA, LB]) (.mk [102] [x, LB]) (.mk [102] [LA, y]) [] 0 = (.mk [102] [x, y], []) := by
  have zA : sz LA = 1 := by decide
  have zB : sz LB = 1 := by decide
  have xA : ¬ x = LA := fun z => by rw [z, zA] at hx; omega
  have yB : ¬ y = LB := fun z => by rw [z, zB] at hy; omega
  rw [mg, if_neg, if_neg, if_neg]
  · have m : ml [102] (Doc.mk [102] [x, LB]).lb (Doc.mk [102] [LA, y]).lb = some [102] := by
      show ml [102] [102] [102] = some [102]
      decide
    rw [m]
    dsimp only [Doc.ks]
    rw [mgs, mg_bfb, mgs, mg_bbs, mgs]
    · rfl
    all_goals (intros; simp_all)
  · rintro (z | z) <;> exact z rfl
  · intro z
    injection z with z1 z2
    injection z2 with z3 z4
    exact xA z3
  · rintro (z | z)
    · injection z with z1 z2
      injection z2 with z3 z4
      exact xA z3
    · injection z with z1 z2
      injection z2 with z3 z4
      injection z4 with z5 z6
      exact yB z5
theorem ex_good {k n : Nat} (h1 : 1 ≤ n) (h2 : n ≤ k) (h3 : n ≤ 300) : okd (ex k n) = true ∧ sz (ex k n) = n ∧ dp (ex k n) ≤ 9 :=
  ⟨ex_ok k n, ex_sz k n h1 h2, ex_dp 7 k n h1 h2 (by omega)⟩
theorem wide_ok {x y : Doc} (ox : okd x = true) (oy : okd y = true) : okd (.mk [102] [x, y]) = true := by
  have l : lab [102] = true := by decide
  rw [okd, okds, okds, okds, ox, oy, l]
  rfl
theorem wide_sz {x y : Doc} : sz (.mk [102] [x, y]) = 1 + sz x + sz y := by
  rw [sz, szs, szs, szs]
  omega
theorem wide_dp {x y : Doc} {m : Nat} (hx : dp x ≤ m) (hy : dp y ≤ m) : dp (.mk [102] [x, y]) ≤ m + 1 := by
  rw [dp, dps, dps, dps]
  omega
theorem enc2 {x y : Doc} : enc (.mk [102] [x, y]) = .tup [.str [102], enc x, enc y] := by rw [enc, encs, encs, encs]
theorem law_ok (hk : 206 ≤ k) (ns : List Int) (hn : ns.length ≤ 63) : ∃ h1, callF prog (k + 1) i_law [.scr (ns.map .int)] [] = .ok (.bl true) h1 := by
  obtain ⟨k1, hk1⟩ := at_level (show 1 ≤ k by omega)
  obtain ⟨is, i1, i2, e0⟩ := law_stream_ok k1 [] ns hn
  rw [← hk1] at e0
  have hI : Is is := ⟨i1, i2⟩
  have l2 : 2 ≤ LIM := by decide
  have l3 : 3 ≤ LIM := by decide
  have l1 : 1 ≤ LIM := by decide
  have t0 : evS (prog.cx k (callF prog k)) s_law_0 [some (.scr (ns.map .int)), none, none, none, none, none, none, none, none, none, none, none, none, none, none, none, none, none, none, none] [] = .nx (LF (.scr (ns.map .int)) 0 none none none none none none none none none none none none none none none none none none) [stB is 0] := by
    simp only [LF, s_law_0, e0, l2, evSs, evS, evE, evL, evT, evTA, evTO, evF, evSrc, evO, evAnd, evOr, asgT, asgTs, cx_glob, cx_call, shal_int, shal_str, shal_tup, shal_lst, shal_non, shal_bl, bin_addi, bin_subi, bin_addt, bin_addl, bin_adds, bin_mod, bin_div, cmp_lt, cmp_le, cmp_gt, cmp_ge, cmp_eqi, cmp_nei, cmp_eqs, cmp_nes, cmp_ins, cmp_nins, cmp_isn, cmp_isns, item_tup, item_lst, bi_lens, bi_lent, bi_lenl, bi_int, bi_intb, bi_abs, bi_max2, bi_tuplel, bi_tuplet, itD, slice, seqD, pure_non, pure_bl, pure_int, pure_str, pure_tup, pure_lst, pures_nil, pures_cons, startF, List.replicate, List.length_cons, List.length_nil, List.set_cons_zero, List.set_cons_succ, List.getElem?_cons_zero, List.getElem?_cons_succ, List.getElem?_nil, Nat.zero_add, Nat.reduceAdd, Nat.reduceSub, Nat.reduceLT, Nat.reduceLeDiff, if_true, Bool.not_true, Bool.not_false, List.map_cons, List.map_nil, List.cons_append, List.nil_append, reduceIte, and_self, and_true, true_and, decide_true, decide_false, Bool.true_and, Bool.and_true, Bool.false_and, Bool.and_false, fin_non, fin_bl, fin_int, fin_str, finX_same', gt_iff_lt, Nat.lt_add_one, Bool.false_eq_true]
    rfl
  obtain ⟨p2, p3, p6, p7, p8, p9, p10, p11, p12, p13, p14, p15, p16, p17, h1, c1, e1, g1, b1⟩ := law_loop (n := 0) (sc := .scr (ns.map .int)) hk hI 6 0 [stB is 0] 0 none none none none none none none none none none none none none none none none none none rfl (by omega)
  have ea : evL (prog.cx k (callF prog k)) (.cons (.c (.int 6)) .nil) (LF (.scr (ns.map .int)) 0 none none none none none none none none none none none none none none none none none none) [stB is 0] = .ok [.int ((6 : Nat) : Int)] [stB is 0] := ev_cons (ev_c rfl) ev_nil
  have t1 := (evS_for (b := b_law_0) (t := .nm 2) (evSrc_rng ea (rng_len (n := 6) (by decide)))).trans e1
  obtain ⟨r, hr, e3⟩ := nx_ok (k := k) (by omega) hI g1 (by omega) (show 0 < 2 by decide)
  have hE : ∀ (m : Nat) (h : Mem), 1 ≤ m → m ≤ 200 → callF prog k i_law_exact [.int (m : Int)] h = .ok (enc (ex k m)) h := fun m h a b => law_exact_ok k m h a (by omega) (by omega)
  have t2 : ∀ h, evS (prog.cx k (callF prog k)) s_law_2 (LF (.scr (ns.map .int)) 0 p2 p3 none none p6 p7 p8 p9 p10 p11 p12 p13 p14 p15 p16 p17 none none) h = .nx (LF (.scr (ns.map .int)) 0 p2 (some (enc (.mk [102] [LA, LB]))) none none p6 p7 p8 p9 p10 p11 p12 p13 p14 p15 p16 p17 none none) h := fun h => by
    have eq : enc (.mk [102] [LA, LB]) = .tup [.str [102], .tup [.str [97]], .tup [.str [98]]] := by simp only [enc, encs]
    simp only [LF, s_law_2, eq, l1, l3, evSs, evS, evE, evL, evT, evTA, evTO, evF, evSrc, evO, evAnd, evOr, asgT, asgTs, cx_glob, cx_call, shal_int, shal_str, shal_tup, shal_lst, shal_non, shal_bl, bin_addi, bin_subi, bin_addt, bin_addl, bin_adds, bin_mod, bin_div, cmp_lt, cmp_le, cmp_gt, cmp_ge, cmp_eqi, cmp_nei, cmp_eqs, cmp_nes, cmp_ins, cmp_nins, cmp_isn, cmp_isns, item_tup, item_lst, bi_lens, bi_lent, bi_lenl, bi_int, bi_intb, bi_abs, bi_max2, bi_tuplel, bi_tuplet, itD, slice, seqD, pure_non, pure_bl, pure_int, pure_str, pure_tup, pure_lst, pures_nil, pures_cons, startF, List.replicate, List.length_cons, List.length_nil, List.set_cons_zero, List.set_cons_succ, List.getElem?_cons_zero, List.getElem?_cons_succ, List.getElem?_nil, Nat.zero_add, Nat.reduceAdd, Nat.reduceSub, Nat.reduceLT, Nat.reduceLeDiff, if_true, Bool.not_true, Bool.not_false, List.map_cons, List.map_nil, List.cons_append, List.nil_append, reduceIte, and_self, and_true, true_and, decide_true, decide_false, Bool.true_and, Bool.and_true, Bool.false_and, Bool.and_false, fin_non, fin_bl, fin_int, fin_str, finX_same', gt_iff_lt, Nat.lt_add_one, Bool.false_eq_true]
  have er : (150 : Int) + (r : Int) = ((150 + r : Nat) : Int) := by omega
  have e3' : callF prog k i_law_next [.loc 0, .int 2] h1 = .ok (.int (r : Int)) (h1.set 0 (stB is (c1 + 1))) := e3
  have t3 : evS (prog.cx k (callF prog k)) s_law_3 (LF (.scr (ns.map .int)) 0 p2 (some (enc (.mk [102] [LA, LB]))) none none p6 p7 p8 p9 p10 p11 p12 p13 p14 p15 p16 p17 none none) h1 = .nx (LF (.scr (ns.map .int)) 0 p2 (some (enc (.mk [102] [LA, LB]))) (some (.int ((150 + r : Nat) : Int))) none p6 p7 p8 p9 p10 p11 p12 p13 p14 p15 p16 p17 none none) (h1.set 0 (stB is (c1 + 1))) := by
    simp only [LF, s_law_3, e3', er, evSs, evS, evE, evL, evT, evTA, evTO, evF, evSrc, evO, evAnd, evOr, asgT, asgTs, cx_glob, cx_call, shal_int, shal_str, shal_tup, shal_lst, shal_non, shal_bl, bin_addi, bin_subi, bin_addt, bin_addl, bin_adds, bin_mod, bin_div, cmp_lt, cmp_le, cmp_gt, cmp_ge, cmp_eqi, cmp_nei, cmp_eqs, cmp_nes, cmp_ins, cmp_nins, cmp_isn, cmp_isns, item_tup, item_lst, bi_lens, bi_lent, bi_lenl, bi_int, bi_intb, bi_abs, bi_max2, bi_tuplel, bi_tuplet, itD, slice, seqD, pure_non, pure_bl, pure_int, pure_str, pure_tup, pure_lst, pures_nil, pures_cons, startF, List.replicate, List.length_cons, List.length_nil, List.set_cons_zero, List.set_cons_succ, List.getElem?_cons_zero, List.getElem?_cons_succ, List.getElem?_nil, Nat.zero_add, Nat.reduceAdd, Nat.reduceSub, Nat.reduceLT, Nat.reduceLeDiff, if_true, Bool.not_true, Bool.not_false, List.map_cons, List.map_nil, List.cons_append, List.nil_append, reduceIte, and_self, and_true, true_and, decide_true, decide_false, Bool.true_and, Bool.and_true, Bool.false_and, Bool.and_false, fin_non, fin_bl, fin_int, fin_str, finX_same', gt_iff_lt, Nat.lt_add_one, Bool.false_eq_true]
  generalize h1.set 0 (stB is (c1 + 1)) = h2 at t3
  obtain ⟨o149, z149, d149⟩ := ex_good (k := k) (n := 149) (by decide) (by omega) (by decide)
  obtain ⟨om, zm, dm⟩ := ex_good (k := k) (n := 150 + r) (by omega) (by omega) (by omega)
  have okA : okd LA = true := by decide
  have okB : okd LB = true := by decide
  have zA : sz LA = 1 := by decide
  have zB : sz LB = 1 := by decide
  have dA : dp LA ≤ 9 := by decide
  have dB : dp LB ≤ 9 := by decide
  have gb : Good (.mk [102] [LA, LB]) := ⟨wide_ok okA okB, by rw [wide_sz, zA, zB]; decide, Nat.le_trans (wide_dp dA dB) (by decide)⟩
  have gf : Good (.mk [102] [ex k 149, LB]) := ⟨wide_ok o149 okB, by rw [wide_sz, z149, zB]; decide, Nat.le_trans (wide_dp d149 dB) (by decide)⟩
  have gs : Good (.mk [102] [LA, ex k (150 + r)]) := ⟨wide_ok okA om, by rw [wide_sz, zm, zA]; omega, Nat.le_trans (wide_dp dA dm) (by decide)⟩
  have wm := wide_mg (ex k 149) (ex k (150 + r)) (by omega) (by omega)
  have w1 : mgC (.mk [102] [LA, LB]) (.mk [102] [ex k 149, LB]) (.mk [102] [LA, ex k (150 + r)]) = [] := by
    show (mg c0 _ _ _ _ _).2 = _
    rw [wm]
  have w2 : mgD (.mk [102] [LA, LB]) (.mk [102] [ex k 149, LB]) (.mk [102] [LA, ex k (150 + r)]) = .mk [102] [ex k 149, ex k (150 + r)] := by
    show (mg c0 _ _ _ _ _).1 = _
    rw [wm]
  have wz : sz (Doc.mk [102] [ex k 149, ex k (150 + r)]) = 300 + r := by rw [wide_sz, z149, zm]; omega
  have x149 := hE 149 h2 (by decide) (by decide)
  have xm := hE (150 + r) h2 (by omega) (by omega)
  have x150 := hE 150 h2 (by decide) (by decide)
  have lA : ∀ σ, evE (prog.cx k (callF prog k)) (.tup (.cons (.c (.str [97])) .nil)) σ h2 = .ok (enc LA) h2 := fun σ => by
    rw [show enc LA = .tup [.str [97]] from by rw [enc, encs]]
    exact ev_tup (ev_cons (ev_c rfl) ev_nil) l1
  have lB : ∀ σ, evE (prog.cx k (callF prog k)) (.tup (.cons (.c (.str [98])) .nil)) σ h2 = .ok (enc LB) h2 := fun σ => by
    rw [show enc LB = .tup [.str [98]] from by rw [enc, encs]]
    exact ev_tup (ev_cons (ev_c rfl) ev_nil) l1
  have tF : ∀ σ a b (x y : Doc), evE (prog.cx k (callF prog k)) a σ h2 = .ok (enc x) h2 → evE (prog.cx k (callF prog k)) b σ h2 = .ok (enc y) h2 → evE (prog.cx k (callF prog k)) (.tup (.cons (.c (.str [102])) (.cons a (.cons b .nil)))) σ h2 = .ok (enc (.mk [102] [x, y])) h2 := fun σ a b x y ha hb => by
    rw [enc2]
    exact ev_tup (ev_cons (ev_c rfl) (ev_cons ha (ev_cons hb ev_nil))) l3
  have e149 : ∀ σ, evE (prog.cx k (callF prog k)) (.call 20 (.cons (.c (.int 149)) .nil)) σ h2 = .ok (enc (ex k 149)) h2 := fun σ => evE_callx (ev_cons (ev_c rfl) ev_nil) x149
  have e150 : ∀ σ, evE (prog.cx k (callF prog k)) (.call 20 (.cons (.c (.int 150)) .nil)) σ h2 = .ok (enc (ex k 150)) h2 := fun σ => evE_callx (ev_cons (ev_c rfl) ev_nil) x150
  have em : ∀ σ : Fr, σ[4]? = some (some (.int ((150 + r : Nat) : Int))) → evE (prog.cx k (callF prog k)) (.call 20 (.cons (.v 4) .nil)) σ h2 = .ok (enc (ex k (150 + r))) h2 := fun σ q => evE_callx (ev_cons (ev_v q) ev_nil) xm
  -- what is told, and due
  obtain ⟨td, tp, tg, tT, tD⟩ : ∃ td : D, td.pure = true ∧ Fn (.lst [td]) 900000 60 ∧ callF prog k i_law_told [.int 1, enc (.mk [102] [LA, LB]), enc (.mk [102] [ex k 149, LB]), enc (.mk [102] [LA, ex k (150 + r)]), .tup []] h2 = .ok td h2 ∧
      ∀ σ : Fr, σ[4]? = some (some (.int ((150 + r : Nat) : Int))) → evE (prog.cx k (callF prog k)) (.ite (.e (.cmp .gt (.v 4) (.c (.int 150)))) (.c (.str [108, 97, 114, 103, 101])) (.tup (.cons (.c (.str [116, 111, 108, 100])) (.cons (.tup (.cons (.c (.str [102])) (.cons (.call 20 (.cons (.c (.int 149)) .nil)) (.cons (.call 20 (.cons (.c (.int 150)) .nil)) .nil)))) .nil)))) σ h2 = .ok td h2 := by
    have : r = 0 ∨ r = 1 := by omega
    rcases this with z | z
    · subst z
      have T := T1 (k := k) (h := h2) (by omega) gb gf gs (.tup []) (by rw [w2, wz]; decide)
      rw [due_nil w1, w2] at T
      have fnw : Fn (enc (.mk [102] [ex k 149, ex k (150 + 0)])) 160000 51 := fn_enc (wide_ok o149 om) (by rw [wz]; decide) (Nat.le_trans (wide_dp d149 dm) (by decide))
      refine ⟨_, by simp [enc_pure], fn_mono (lst_fn (n := 1) (Nat.le_refl 1) (fun x hx => by rw [List.mem_singleton] at hx; subst hx; exact fn_told fnw (by decide))) (by decide) (by decide), T, fun σ q => ?_⟩
      rw [evE, evT_e (ev_cmp (ev_v q) (ev_c rfl) cmp_gt), show decide ((150 : Int) < ((150 + 0 : Nat) : Int)) = false by decide]
      exact K21.p2 (ev_c rfl) (tF _ _ _ _ _ (e149 _) (e150 _))
    · subst z
      have T := T1L (k := k) (h := h2) (by omega) gb gf gs (.tup []) w1 (by rw [w2, wz]; decide)
      refine ⟨_, rfl, fn_mono (lst_fn (n := 1) (Nat.le_refl 1) (fun x hx => by rw [List.mem_singleton] at hx; subst hx; exact fn_str LW (by decide))) (by decide) (by decide), T, fun σ q => ?_⟩
      rw [evE, evT_e (ev_cmp (ev_v q) (ev_c rfl) cmp_gt), show decide ((150 : Int) < ((150 + 1 : Nat) : Int)) = true by decide]
      exact ev_c rfl
  have t4 : evS (prog.cx k (callF prog k)) s_law_4 (LF (.scr (ns.map .int)) 0 p2 (some (enc (.mk [102] [LA, LB]))) (some (.int ((150 + r : Nat) : Int))) none p6 p7 p8 p9 p10 p11 p12 p13 p14 p15 p16 p17 none none) h2 = .nx (LF (.scr (ns.map .int)) 0 p2 (some (enc (.mk [102] [LA, LB]))) (some (.int ((150 + r : Nat) : Int))) (some (.lst [td])) p6 p7 p8 p9 p10 p11 p12 p13 p14 p15 p16 p17 none none) h2 :=
    evS_asg (ev_lst (ev_cons (evE_callx (l5 (ev_c rfl) (ev_v rfl) (tF _ _ _ _ _ (e149 _) (lB _)) (tF _ _ _ _ _ (lA _) (em _ rfl)) t0l) tT) ev_nil) l1) rfl
  have cS : callF prog k i_law_same [.lst [td], .lst [td]] h2 = .ok (.bl true) h2 := same_pure (by omega) (by simp [tp]) tg
  have t5 : evS (prog.cx k (callF prog k)) s_law_5 (LF (.scr (ns.map .int)) 0 p2 (some (enc (.mk [102] [LA, LB]))) (some (.int ((150 + r : Nat) : Int))) (some (.lst [td])) p6 p7 p8 p9 p10 p11 p12 p13 p14 p15 p16 p17 none none) h2 = .rt (.bl true) h2 :=
    ev_ret (evE_callx (ev_cons (ev_v rfl) (ev_cons (ev_lst (ev_cons (tD _ rfl) ev_nil) l1) ev_nil)) cS)
  refine ⟨h2, ?_⟩
  rw [callF_out d_law rfl ⟨rfl, by decide⟩, d_law]
  exact st_nx t0 (st_nx t1 (st_nx (t2 _) (st_nx t3 (st_nx t4 (st_rt t5 rfl)))))
end K21
end
section
set_option Elab.async false
set_option autoImplicit false
set_option maxRecDepth 100000
/-! the end -/
namespace K21
theorem holds : PySem.Challenge.rw_recastform_k21_whole_merges.Holds := by
  refine ends (k := 220) ⟨rfl, by decide, by decide⟩ fun ns hn => ?_
  exact law_ok (k := 219) (by decide) ns hn
end K21
end
theorem PySem.Challenge.cw_recastform_k21_whole_merges_holds : PySem.Challenge.rw_recastform_k21_whole_merges.Holds := by
  exact K21.holds
