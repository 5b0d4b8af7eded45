import PyProof.Rows.All
import Wide.All
import OpenK.AllK
import Wide.FinOn
import HandS.ForMost
import HandS.ForExc
import HandS.CallSlots
import HandS.TupAny
import HandS.TupMul
import HandS.Wide
import HandS.Zip
import HandS.IsInst
import HandS.Walk
import HandS.Flow
import HandS.Style
import HandS.Lambda
import HandS.HeadHook1
import HandS.Deep
import HandS.SortInts
import KE.DataMinMax
import KE.KDictDisplayH
import KE.KDictLaw
import KE.KeyNested
import KE.KDictKeyed
import KE.GoesZip
import KE.GoesMore
import KE.KTurns
import KE.GoesEnum
import HandS.ExcIs
import HandS.ExcField
import HandS.HeadHook4
import HandS.HeadWalk
import HandS.Head0
import HandS.Head1
import HandS.Head2
import HandS.HeadEnd
import HandS.HeadHook2
import HandS.HeadHook3
import PySem.Challenge.RW_staywhole_k02_whole_tables_turned
set_option Elab.async false
set_option linter.all false
set_option maxRecDepth 100000
set_option maxHeartbeats 0
/-! Mi: a small machine over plain data. Part A: the machine. -/
namespace Mi
open PySem L2

/-- data -/
inductive D where
  | non | bl (b : Bool) | int (i : Int) | str (x : Str) | tup (ds : List D) | lst (ds : List D) | scr (ns : List Int) | fn (k : Nat) | obj (n : Nat) | dic (ks vs : List D)
  deriving Inhabited
/-- a slot: unknown; a value that is never changed any more; a list of its own; a list of lists of its own -/
inductive Sl where
  | un | va (d : D) | ow (d : D) | dp (rs : List (List D))
  deriving Inhabited
/-- an exception: its class by number, what it bears -/
structure Ev where
  c : Nat
  fs : List D
structure Ob where
  c : Nat
  fs : List (Str × Sl)
structure Ms where
  sl : List Sl
  ob : List Ob
def Ms.put (s : Ms) (i : Nat) (x : Sl) : Ms := ⟨s.sl.set i x, s.ob⟩
inductive R (α : Type) where
  | ok (a : α) | ex (e : Ev) (s : Ms) | no
def R.bnd {α β : Type} (r : R α) (f : α → R β) : R β := match r with
  | .ok a => f a
  | .ex e s => .ex e s
  | .no => .no
inductive Rc where
  | ok (d : D) (own : Bool) (outs : List Sl) (ob : List Ob) | ex (e : Ev) (ob : List Ob) | no
/-- how calls go: which parameters a def stores anew; its run; how many turns a while has -/
structure Fh where
  asg : Nat → List Bool
  run : Nat → List Sl → List Ob → Rc
  run2 : Nat → List Sl → List Ob → Rc
  deep : Bool
  wf : Nat
def noRun : Nat → List Sl → List Ob → Rc := fun _ _ _ => .no
/-- two levels lower -/
def Fh.low (F : Fh) : Fh := ⟨F.asg, F.run2, noRun, false, F.wf⟩

inductive BOp where | add | sub | mul | fdiv | mod | pow
inductive COp where | eq | ne | lt | le | gt | ge | is | isn | inn | nin
  deriving DecidableEq
inductive Bi where | len | abs | int | min2 | max2 | all | any | tuple | list | max1 | min1 | sum1 | str1
inductive Ty where | int | bool | str | tuple | list

/-- what a clause of a word def tells of an exception -/
inductive Wo where
  | isa (w : Str) | con (w : Str) | lim (n : Int) (w : Str) | many (p : Str)
  deriving DecidableEq
/-- a word def: its clauses by class; the word behind a call that ends well (none: what the call gives) -/
structure Wdf where
  cl : List (Nat × Wo)
  all : Option Wo
  w0 : Option Str
  deriving DecidableEq
inductive Tg where
  | one (i : Nat) | many (is : List Nat)
def tgs : Tg → List Nat
  | .one i => [i]
  | .many is => is
mutual
inductive Ex where
  | nm (i : Nat) | ct (d : D) | gl (k : Nat) (i : Int) | om
  | bin (op : BOp) (a b : Ex) | neg (a : Ex)
  | cmp (op : COp) (a b : Ex) | cmp2 (op op' : COp) (a b c : Ex)
  | band (a b : Ex) | bor (a b : Ex) | bnot (a : Ex) | ite (c a b : Ex)
  | tup (es : Exs) | lst (es : Exs)
  | idx (a i : Ex) | slc (a lo hi : Ex)
  | call (k : Nat) (es : Exs) | bi (f : Bi) (es : Exs) | isi (t : Ty) (a : Ex)
  | comp (e : Ex) (tg : Tg) (it : It) (c : Ex) (own : List Nat)
  | comp2 (e : Ex) (tg : Tg) (it : It) (tg2 : Tg) (it2 : It) (own : List Nat)
  | word (k : Nat) (wd : Wdf) (e : Ex)
  | rev (a : Ex) | gf (k : Nat) | calv (i : Nat) (ks : List Nat) (es : Exs)
  | bad | dct0 | dct1 (a b : Ex)
inductive Exs where
  | nil | cons (e : Ex) (es : Exs)
inductive It where
  | seq (e : Ex) | rng1 (a : Ex) | rng2 (a b : Ex) | zip (a b : Ex) | enu (a : Ex)
end
/-- where a value goes: a name; a place of a list of its own; of a list of such -/
inductive Lv where
  | nm (i : Nat) (fresh : Bool) | ix (i : Nat) (k : Ex) | ix2 (i : Nat) (j k : Ex) | kx (i j : Nat)
mutual
inductive Sm where
  | asg (l : Lv) (e : Ex) | asg2 (l l' : Lv) (a b : Ex) | asg3 (i j l : Nat) (fi fj fl : Bool) (a b c : Ex) | unp (is : List Nat) (e : Ex) | mat (i : Nat) (c : Int) (n own : Nat)
  | app (i : Nat) (e : Ex) | exp (e : Ex)
  | ret (fresh : Bool) (e : Ex) | retN
  | ifs (c : Ex) (a b : Sms) | fors (tg : Tg) (it : It) (b : Sms) | whl (c : Ex) (b : Sms) | pas | brk | cnt | rai (c : Nat) | bad
inductive Sms where
  | nil | cons (s : Sm) (r : Sms)
end
structure FnI where
  np : Nat
  n : Nat
  asg : List Bool
  body : Sms

/-! ### what operations give -/
mutual
def D.py : D → Option PyData
  | .non => some .none
  | .bl b => some (.bool b)
  | .int i => some (.int i)
  | .str x => some (.str x)
  | .tup ds => (D.pys ds).map .tuple
  | .lst ds => (D.pys ds).map .list
  | _ => none
def D.pys : List D → Option (List PyData)
  | [] => some []
  | d :: ds => match d.py, D.pys ds with
    | some x, some xs => some (x :: xs)
    | _, _ => none
end
/-- a == b -/
def eqD (a b : D) : Option Bool := match a.py, b.py with
  | some x, some y => if SeqAt.shaped x && SeqAt.shaped y then some (PyData.eqv x y) else none
  | _, _ => none
def mulOk (i j : Int) : Bool := decide (i.natAbs.log2 + j.natAbs.log2 < 1000000)
def divOk (j : Int) : Bool := decide (0 < j) && decide (j.natAbs.log2 < 9000)
def powOk (i j : Int) : Bool := decide (0 ≤ j) && decide (j ≤ 1000000) && decide (i.natAbs < 2 ^ 64)
def mulSeq (ds : List D) (k : Int) : List D := (List.replicate k.toNat ds).flatten
def addD : D → D → Option D
  | .int i, .int j => some (.int (i + j))
  | .str x, .str y => if x.length + y.length ≤ sizeLine then some (.str (x ++ y)) else none
  | .tup x, .tup y => if x.length + y.length ≤ sizeLine then some (.tup (x ++ y)) else none
  | .lst x, .lst y => if x.length + y.length ≤ sizeLine then some (.lst (x ++ y)) else none
  | _, _ => none
def subD : D → D → Option D
  | .int i, .int j => some (.int (i - j))
  | _, _ => none
def mulD : D → D → Option D
  | .int i, .int j => if mulOk i j then some (.int (i * j)) else none
  | .lst x, .int k => if decide (-(2 ^ 63) ≤ k) && decide (k < 2 ^ 63) && decide (x.length * k.toNat ≤ sizeLine) then some (.lst (mulSeq x k)) else none
  | .tup x, .int k => if !x.isEmpty && decide (2 ≤ k) && decide (k ≤ 1000) && decide (x.length ≤ 1000) then some (.tup (mulSeq x k)) else none
  | _, _ => none
def fdivD : D → D → Option D
  | .int i, .int j => if divOk j then some (.int (i / j)) else none
  | _, _ => none
def modD : D → D → Option D
  | .int i, .int j => if 0 < j then some (.int (i % j)) else none
  | _, _ => none
def powD : D → D → Option D
  | .int i, .int j => if powOk i j then some (.int (i ^ j.toNat)) else none
  | _, _ => none
def opB : BOp → D → D → Option D
  | .add => addD | .sub => subD | .mul => mulD | .fdiv => fdivD | .mod => modD | .pow => powD
def isD (a b : D) : Option Bool := match b, a with
  | .non, .non => some true
  | .non, .bl _ => some false
  | .non, .int _ => some false
  | .non, .str _ => some false
  | .non, .tup _ => some false
  | .non, .lst _ => some false
  | .bl b, .bl c => some (b == c)
  | _, _ => none
def intsD : List D → Option (List Int)
  | [] => some []
  | .int i :: ds => (intsD ds).map (i :: ·)
  | _ => none
/-! dicts whose keys are tuples -/
mutual
def keq : D → D → Bool
  | .non, .non => true
  | .int i, .int j => i == j
  | .str x, .str y => decide (x = y)
  | .tup a, .tup b => keqs a b
  | _, _ => false
def keqs : List D → List D → Bool
  | [], [] => true
  | a :: as, b :: bs => keq a b && keqs as bs
  | _, _ => false
end
/-- a key, nested at most n deep -/
def isKey : Nat → D → Bool
  | _, .non => true
  | _, .int _ => true
  | _, .str _ => true
  | n + 1, .tup ds => ds.all (isKey n)
  | _, _ => false
def keyD : D → Bool
  | .tup ds => isKey 8 (.tup ds)
  | _ => false
def dHas (ks : List D) (x : D) : Bool := ks.any fun k => keq k x
def dGet : List D → List D → D → Option D
  | k :: ks, v :: vs, x => if keq k x then some v else dGet ks vs x
  | _, _, _ => none
def dSet : List D → List D → D → D → List D
  | k :: ks, v :: vs, x, y => (if keq k x then y else v) :: dSet ks vs x y
  | _, vs, _, _ => vs
def dPut (ks vs : List D) (x y : D) : D := if dHas ks x then .dic ks (dSet ks vs x y) else .dic (ks ++ [x]) (vs ++ [y])
/-- x in y -/
def inD (x y : D) : Option Bool := match y with
  | .lst ys => (match x.py, D.pys ys with
    | some d, some ds => if SeqAt.shaped d && SeqAt.shaped (.list ds) then some (ds.any fun z => PyData.eqv z d) else none
    | _, _ => none)
  | .tup ys => (match x with
    | .int i => (intsD ys).map fun ns => ns.any (· == i)
    | _ => none)
  | .dic ks _ => if keyD x then some (dHas ks x) else none
  | _ => none
def cmpD (f : Int → Int → Bool) : D → D → Option Bool
  | .int i, .int j => some (f i j)
  | _, _ => none
def opC : COp → D → D → Option Bool
  | .eq => eqD
  | .ne => fun a b => (eqD a b).map (!·)
  | .lt => cmpD fun i j => decide (i < j)
  | .le => cmpD fun i j => decide (i ≤ j)
  | .gt => cmpD fun i j => decide (j < i)
  | .ge => cmpD fun i j => decide (j ≤ i)
  | .is => isD
  | .isn => fun a b => (isD a b).map (!·)
  | .inn => inD
  | .nin => fun a b => (inD a b).map (!·)
def isiD : Ty → D → Option Bool
  | .int, .int _ => some true
  | .int, .bl _ => some true
  | .int, .non => some false
  | .int, .str _ => some false
  | .int, .tup _ => some false
  | .int, .lst _ => some false
  | .bool, .bl _ => some true
  | .bool, .int _ => some false
  | .bool, .non => some false
  | .bool, .str _ => some false
  | .bool, .tup _ => some false
  | .bool, .lst _ => some false
  | .str, .str _ => some true
  | .str, .bl _ => some false
  | .str, .int _ => some false
  | .str, .non => some false
  | .str, .tup _ => some false
  | .str, .lst _ => some false
  | .tuple, .tup _ => some true
  | .tuple, .bl _ => some false
  | .tuple, .int _ => some false
  | .tuple, .non => some false
  | .tuple, .str _ => some false
  | .tuple, .lst _ => some false
  | .list, .lst _ => some true
  | .list, .bl _ => some false
  | .list, .int _ => some false
  | .list, .non => some false
  | .list, .str _ => some false
  | .list, .tup _ => some false
  | _, _ => none
def bools : List D → Option (List Bool)
  | [] => some []
  | .bl b :: ds => (bools ds).map (b :: ·)
  | _ => none
def strI (i : Int) : Str := ((toString i : String) : Str)
def bestI (f : Int → Int → Int) : List Int → Option D
  | [] => none
  | n :: ns => some (.int (ns.foldl f n))
def opF : Bi → List D → Option D
  | .len, [.lst ds] => some (.int ds.length)
  | .len, [.tup ds] => some (.int ds.length)
  | .len, [.scr ns] => some (.int ns.length)
  | .len, [.str x] => if x.length ≤ sizeLine then some (.int x.length) else none
  | .abs, [.int i] => some (.int (if i < 0 then -i else i))
  | .int, [.int i] => some (.int i)
  | .min2, [.int i, .int j] => some (.int (if j < i then j else i))
  | .max2, [.int i, .int j] => some (.int (if j > i then j else i))
  | .all, [.lst ds] => (bools ds).map fun bs => .bl (bs.all id)
  | .any, [.lst ds] => (bools ds).map fun bs => .bl (bs.any id)
  | .tuple, [.lst ds] => some (.tup ds)
  | .tuple, [.tup ds] => some (.tup ds)
  | .list, [.lst ds] => some (.lst ds)
  | .list, [.tup ds] => some (.lst ds)
  | .max1, [.lst ds] => (intsD ds).bind (bestI max)
  | .max1, [.tup ds] => (intsD ds).bind (bestI max)
  | .min1, [.lst ds] => (intsD ds).bind (bestI min)
  | .min1, [.tup ds] => (intsD ds).bind (bestI min)
  | .sum1, [.lst ds] => (intsD ds).map fun ns => .int ns.sum
  | .str1, [.int i] => if i.natAbs.log2 < 1920 then some (.str (strI i)) else none
  | _, _ => none
def idxD : D → D → Option D
  | .tup ds, .int i => L2.atI ds i
  | .lst ds, .int i => L2.atI ds i
  | .scr ns, .int i => (L2.atI ns i).map .int
  | _, _ => none
def cutD (ds : List D) (lo hi : Option Int) : List D :=
  List.take (HT.sIx ds.length ds.length hi - HT.sIx ds.length 0 lo) (List.drop (HT.sIx ds.length 0 lo) ds)
def slcD : D → Option Int → Option Int → Option D
  | .tup ds, lo, hi => some (.tup (cutD ds lo hi))
  | .lst ds, lo, hi => some (.lst (cutD ds lo hi))
  | _, _, _ => none

def revD : D → Option D
  | .tup ds => some (.tup ds.reverse)
  | .lst ds => some (.lst ds.reverse)
  | _ => none

/-! ### operands -/
inductive Od where
  | sl (i : Nat) | dd (d : D)
def dr (s : Ms) : Od → Option D
  | .dd d => some d
  | .sl i => match s.sl[i]? with
    | some (.va d) => some d
    | some (.ow d) => some d
    | _ => none
def drs (s : Ms) : List Od → Option (List D)
  | [] => some []
  | o :: os => match dr s o, drs s os with
    | some d, some ds => some (d :: ds)
    | _, _ => none
def isSet (s : Ms) (i : Nat) : Bool := match s.sl[i]? with
  | some (.va _) => true
  | some (.ow _) => true
  | _ => false
def opd (m : Ex) (r : R (D × Ms)) (s : Ms) : R (Od × Ms) := match m with
  | .nm i => if isSet s i then .ok (.sl i, s) else .no
  | _ => r.bnd fun p => .ok (.dd p.1, p.2)
def lift (r : Option D) (s : Ms) : R (D × Ms) := match r with
  | some d => .ok (d, s)
  | none => .no
/-- an operation upon operands -/
def op1 (f : D → Option D) (x : Od) (s : Ms) : R (D × Ms) := match dr s x with
  | some d => lift (f d) s
  | none => .no
def op2 (f : D → D → Option D) (x y : Od) (s : Ms) : R (D × Ms) := match dr s x, dr s y with
  | some d, some e => lift (f d e) s
  | _, _ => .no
/-- a name as a value: what it held of its own is not changed any more -/
def rdN (i : Nat) (s : Ms) : R (D × Ms) := match s.sl[i]? with
  | some (.va d) => .ok (d, s)
  | some (.ow d) => .ok (d, s.put i (.va d))
  | some (.dp rs) => .ok (.lst (rs.map .lst), s.put i (.va (.lst (rs.map .lst))))
  | _ => .no
def lend : List Bool → List Od → Ms → Option (List Sl × Ms)
  | _, [], s => some ([], s)
  | fs, .dd d :: os, s => (lend fs.tail os s).map fun p => (.va d :: p.1, p.2)
  | fs, .sl i :: os, s => match s.sl[i]? with
    | some (.va d) => (lend fs.tail os s).map fun p => (.va d :: p.1, p.2)
    | some (.ow d) => if fs.headD false then (lend fs.tail os (s.put i (.va d))).map fun p => (.va d :: p.1, p.2)
      else (lend fs.tail os (s.put i .un)).map fun p => (.ow d :: p.1, p.2)
    | _ => none
def back : List Od → List Sl → List Sl → Ms → Ms
  | .sl i :: os, .ow _ :: ps, q :: qs, s => back os ps qs (s.put i q)
  | _ :: os, _ :: ps, _ :: qs, s => back os ps qs s
  | _, _, _, s => s
/-- a call: what it gives, whether a list that it gives is new and its own -/
def calF (F : Fh) (k : Nat) (os : List Od) (s : Ms) : R ((D × Bool) × Ms) := match lend (F.asg k) os s with
  | some (ps, s1) => match F.run k ps s1.ob with
    | .ok d o qs ob => if qs.length == ps.length then .ok ((d, o), back os ps qs ⟨s1.sl, ob⟩) else .no
    | .ex e ob => .ex e ⟨s1.sl, ob⟩
    | .no => .no
  | none => .no
def cal (F : Fh) (k : Nat) (os : List Od) (s : Ms) : R (D × Ms) := (calF F k os s).bnd fun p => .ok (p.1.1, p.2)
def setAll : List Nat → List D → Ms → Option Ms
  | [], [], s => some s
  | i :: is, d :: ds, s => setAll is ds (s.put i (.va d))
  | _, _, _ => none
def bindT : Tg → D → Ms → Option Ms
  | .one i, d, s => some (s.put i (.va d))
  | .many is, .tup ds, s => setAll is ds s
  | _, _, _ => none
def wipeM (own : List Nat) (s : Ms) : Ms := own.foldr (fun i s => s.put i .un) s
/-- the names of a block's own as they were ahead of it -/
def rest (own : List Nat) (s0 s : Ms) : Ms := own.foldr (fun i s => s.put i (s0.sl.getD i .un)) s
def noEx {α : Type} (r : R α) : R α := match r with
  | .ex _ _ => .no
  | r => r
def ownOk (own : List Nat) (s : Ms) : Bool := own.all fun i => match s.sl[i]? with
  | some .un => true
  | some (.va _) => true
  | _ => false
/-- a comprehension's turns: an item gives a value or none -/
def compL (f : D → Ms → R (Option D × Ms)) : List D → Ms → R (List D × Ms)
  | [], s => .ok ([], s)
  | x :: xs, s => (noEx (f x s)).bnd fun p => (compL f xs p.2).bnd fun q => .ok (p.1.toList ++ q.1, q.2)
def compL2 (f : D → Ms → R (List D × Ms)) : List D → Ms → R (List D × Ms)
  | [], s => .ok ([], s)
  | x :: xs, s => (noEx (f x s)).bnd fun p => (compL2 f xs p.2).bnd fun q => .ok (p.1 ++ q.1, q.2)
/-- a comprehension's test, or none -/
def condR (c : Ex) (r : R (D × Ms)) (s : Ms) : R (Bool × Ms) := match c with
  | .om => .ok (true, s)
  | _ => r.bnd fun t => match t.1 with
    | .bl b => .ok (b, t.2)
    | _ => .no
def rngOk (i : Int) : Bool := decide (-(2 ^ 62) ≤ i) && decide (i < 2 ^ 62)
def rngD (i j : Int) : List D := (List.range (j - i).toNat).map fun n : Nat => D.int (i + n)
def seqD : D → Option (List D)
  | .lst ds => some ds
  | .tup ds => some ds
  | _ => none
def zipS (x y : D) : Option (List D × List D) := match seqD x, seqD y with
  | some xs, some ys => some (xs, ys)
  | _, _ => none
def lstD : D → Option (List D)
  | .lst ds => some ds
  | .tup ds => some ds
  | _ => none
def zipD : List D → List D → List D
  | x :: xs, y :: ys => .tup [x, y] :: zipD xs ys
  | _, _ => []
def enuD : Nat → List D → List D
  | _, [] => []
  | n, x :: xs => .tup [.int n, x] :: enuD (n + 1) xs

def chkT (r : R (D × Ms)) (f : Bool → Ms → R (D × Ms)) : R (D × Ms) := r.bnd fun p => match p.1 with
  | .bl b => f b p.2
  | _ => .no
def asInt? : D → Option Int
  | .int i => some i
  | _ => none

/-- a part of a slice, or none -/
def evP (m : Ex) (r : R (D × Ms)) (s : Ms) : R (Option Int × Ms) := match m with
  | .om => .ok (none, s)
  | _ => r.bnd fun p => match p.1 with
    | .int i => .ok (some i, p.2)
    | _ => .no
/-- what a word def tells -/
def woR : Wo → List D → Option Str
  | .isa w, [] => some w
  | .con w, _ => some w
  | .lim n w, [.int i] => some (if i = n then w else "else")
  | .many p, [.int i] => if i.natAbs.log2 < 1920 ∧ p.length + (strI i).length ≤ sizeLine then some (p ++ strI i) else none
  | _, _ => none
def wordOf (wd : Wdf) (ev : Ev) : Option Str := match wd.cl.lookup ev.c with
  | some o => woR o ev.fs
  | none => match wd.all with
    | some o => woR o ev.fs
    | none => none
def wordR (wd : Wdf) (r : R (D × Ms)) : R (D × Ms) := match r with
  | .ok p => .ok (match wd.w0 with
    | some w => .str w
    | none => p.1, p.2)
  | .ex ev s => match wordOf wd ev with
    | some w => .ok (.str w, s)
    | none => .no
  | .no => .no
/-! what each construct does, by what its parts do -/
abbrev Xe := Ms → R (D × Ms)
def xBin (op : BOp) (a b : Ex) (ra rb : Xe) (s : Ms) : R (D × Ms) := (opd a (ra s) s).bnd fun p => (opd b (rb p.2) p.2).bnd fun q => op2 (opB op) p.1 q.1 q.2
def xNeg (ra : Xe) (s : Ms) : R (D × Ms) := (ra s).bnd fun p => match p.1 with
    | .int i => .ok (.int (-i), p.2)
    | _ => .no
def xCmp (op : COp) (a b : Ex) (ra rb : Xe) (s : Ms) : R (D × Ms) := (opd a (ra s) s).bnd fun p => (opd b (rb p.2) p.2).bnd fun q => op2 (fun x y => (opC op x y).map .bl) p.1 q.1 q.2
def xCmp2 (op op' : COp) (a c : Ex) (ra rb rc : Xe) (s : Ms) : R (D × Ms) := (opd a (ra s) s).bnd fun p => (rb p.2).bnd fun q => chkT (op2 (fun x y => (opC op x y).map .bl) p.1 (.dd q.1) q.2) fun t s' =>
      if t then (opd c (rc s') s').bnd fun r => op2 (fun x y => (opC op' x y).map .bl) (.dd q.1) r.1 r.2 else .ok (.bl false, s')
def xAnd (ra rb : Xe) (s : Ms) : R (D × Ms) := chkT (ra s) fun t s' => if t then rb s' else .ok (.bl false, s')
def xOr (ra rb : Xe) (s : Ms) : R (D × Ms) := chkT (ra s) fun t s' => if t then .ok (.bl true, s') else rb s'
def xNot (ra : Xe) (s : Ms) : R (D × Ms) := chkT (ra s) fun t s' => .ok (.bl (!t), s')
def xIte (rc ra rb : Xe) (s : Ms) : R (D × Ms) := chkT (rc s) fun t s' => if t then ra s' else rb s'
def xTup (rs : Ms → R (List D × Ms)) (s : Ms) : R (D × Ms) := (rs s).bnd fun p => if p.1.length ≤ sizeLine then .ok (.tup p.1, p.2) else .no
def xLst (rs : Ms → R (List D × Ms)) (s : Ms) : R (D × Ms) := (rs s).bnd fun p => if p.1.length ≤ sizeLine then .ok (.lst p.1, p.2) else .no
def xIdx (a : Ex) (ra ri : Xe) (s : Ms) : R (D × Ms) := (opd a (ra s) s).bnd fun p => (ri p.2).bnd fun q => op2 idxD p.1 (.dd q.1) q.2
def xSlc (a lo hi : Ex) (ra rl rh : Xe) (s : Ms) : R (D × Ms) := (opd a (ra s) s).bnd fun p => (evP lo (rl p.2) p.2).bnd fun q => (evP hi (rh q.2) q.2).bnd fun r => op1 (fun d => slcD d q.1 r.1) p.1 r.2
def xCall (F : Fh) (k : Nat) (rs : Ms → R (List Od × Ms)) (s : Ms) : R (D × Ms) := (rs s).bnd fun p => cal F k p.1 p.2
def xBi (f : Bi) (rs : Ms → R (List Od × Ms)) (s : Ms) : R (D × Ms) := (rs s).bnd fun p => match drs p.2 p.1 with
    | some ds => lift (opF f ds) p.2
    | none => .no
def xIsi (t : Ty) (a : Ex) (ra : Xe) (s : Ms) : R (D × Ms) := (opd a (ra s) s).bnd fun p => op1 (fun d => (isiD t d).map .bl) p.1 p.2
def xComp (tg : Tg) (c : Ex) (own : List Nat) (ri : Ms → R (List D × Ms)) (rc re : Xe) (s : Ms) : R (D × Ms) := (ri s).bnd fun p => (compL (fun x s1 => match bindT tg x (wipeM own s1) with
      | some s2 => (condR c (rc s2) s2).bnd fun t => if t.1 then (re t.2).bnd fun y => .ok (some y.1, y.2) else .ok (none, t.2)
      | none => .no) p.1 p.2).bnd fun q => if decide (q.1.length ≤ sizeLine) && ownOk own p.2 then .ok (.lst q.1, rest own p.2 q.2) else .no
def xComp2 (tg tg2 : Tg) (own : List Nat) (ri ri2 : Ms → R (List D × Ms)) (re : Xe) (s : Ms) : R (D × Ms) := (ri s).bnd fun p => (compL2 (fun x s1 => match bindT tg x (wipeM own s1) with
      | some s2 => (ri2 s2).bnd fun r => compL (fun x2 s3 => match bindT tg2 x2 (wipeM (tgs tg2) s3) with
        | some s4 => (re s4).bnd fun y => .ok (some y.1, y.2)
        | none => .no) r.1 r.2
      | none => .no) p.1 p.2).bnd fun q => if decide (q.1.length ≤ sizeLine) && ownOk own p.2 then .ok (.lst q.1, rest own p.2 q.2) else .no
def xRev (a : Ex) (ra : Xe) (s : Ms) : R (D × Ms) := (opd a (ra s) s).bnd fun p => op1 revD p.1 p.2
/-- a call of what a name holds -/
def xCalv (F : Fh) (i : Nat) (ks : List Nat) (rs : Ms → R (List Od × Ms)) (s : Ms) : R (D × Ms) := match s.sl[i]? with
  | some (.va (.fn k)) => if ks.contains k then (rs s).bnd fun p => cal F k p.1 p.2 else .no
  | _ => .no
def xDct1 (ra rb : Xe) (s : Ms) : R (D × Ms) := (ra s).bnd fun p => (rb p.2).bnd fun q => if keyD p.1 then .ok (.dic [p.1] [q.1], q.2) else .no
def xWord (F : Fh) (wd : Wdf) (re : Xe) (s : Ms) : R (D × Ms) := if F.deep then wordR wd (re s) else .no
def xCons (ra : Xe) (rs : Ms → R (List D × Ms)) (s : Ms) : R (List D × Ms) := (ra s).bnd fun p => (rs p.2).bnd fun q => .ok (p.1 :: q.1, q.2)
def xConsO (e : Ex) (ra : Xe) (rs : Ms → R (List Od × Ms)) (s : Ms) : R (List Od × Ms) := (opd e (ra s) s).bnd fun p => (rs p.2).bnd fun q => .ok (p.1 :: q.1, q.2)
def xSeq (ra : Xe) (s : Ms) : R (List D × Ms) := (ra s).bnd fun p => match seqD p.1 with
    | some ds => .ok (ds, p.2)
    | none => .no
def xRng1 (ra : Xe) (s : Ms) : R (List D × Ms) := (ra s).bnd fun p => match p.1 with
    | .int j => if rngOk j then .ok (rngD 0 j, p.2) else .no
    | _ => .no
def xRng2 (ra rb : Xe) (s : Ms) : R (List D × Ms) := (ra s).bnd fun p => (rb p.2).bnd fun q => match p.1, q.1 with
    | .int i, .int j => if rngOk i && rngOk j then .ok (rngD i j, q.2) else .no
    | _, _ => .no
def xZip (ra rb : Xe) (s : Ms) : R (List D × Ms) := (ra s).bnd fun p => (rb p.2).bnd fun q => match zipS p.1 q.1 with
    | some xy => .ok (zipD xy.1 xy.2, q.2)
    | none => .no
def xEnu (ra : Xe) (s : Ms) : R (List D × Ms) := (ra s).bnd fun p => match lstD p.1 with
    | some ds => .ok (enuD 0 ds, p.2)
    | none => .no
mutual
def evE (F : Fh) : Ex → Ms → R (D × Ms)
  | .nm i, s => rdN i s
  | .ct d, s => .ok (d, s)
  | .gl _ i, s => .ok (.int i, s)
  | .om, _ => .no
  | .bin op a b, s => xBin op a b (evE F a) (evE F b) s
  | .neg a, s => xNeg (evE F a) s
  | .cmp op a b, s => xCmp op a b (evE F a) (evE F b) s
  | .cmp2 op op' a b c, s => xCmp2 op op' a c (evE F a) (evE F b) (evE F c) s
  | .band a b, s => xAnd (evE F a) (evE F b) s
  | .bor a b, s => xOr (evE F a) (evE F b) s
  | .bnot a, s => xNot (evE F a) s
  | .ite c a b, s => xIte (evE F c) (evE F a) (evE F b) s
  | .tup es, s => xTup (evEs F es) s
  | .lst es, s => xLst (evEs F es) s
  | .idx a i, s => xIdx a (evE F a) (evE F i) s
  | .slc a lo hi, s => xSlc a lo hi (evE F a) (evE F lo) (evE F hi) s
  | .call k es, s => xCall F k (evOs F es) s
  | .bi f es, s => xBi f (evOs F es) s
  | .isi t a, s => xIsi t a (evE F a) s
  | .comp e tg it c own, s => xComp tg c own (evI F it) (evE F c) (evE F e) s
  | .comp2 e tg it tg2 it2 own, s => xComp2 tg tg2 own (evI F it) (evI F it2) (evE F e) s
  | .word _ wd e, s => xWord F wd (evE F.low e) s
  | .rev a, s => xRev a (evE F a) s
  | .gf k, s => .ok (.fn k, s)
  | .calv i ks es, s => xCalv F i ks (evOs F es) s
  | .bad, _ => .no
  | .dct0, s => .ok (.dic [] [], s)
  | .dct1 a b, s => xDct1 (evE F a) (evE F b) s
termination_by structural x => x
def evEs (F : Fh) : Exs → Ms → R (List D × Ms)
  | .nil, s => .ok ([], s)
  | .cons e es, s => xCons (evE F e) (evEs F es) s
termination_by structural x => x
def evOs (F : Fh) : Exs → Ms → R (List Od × Ms)
  | .nil, s => .ok ([], s)
  | .cons e es, s => xConsO e (evE F e) (evOs F es) s
termination_by structural x => x
def evI (F : Fh) : It → Ms → R (List D × Ms)
  | .seq e, s => xSeq (evE F e) s
  | .rng1 a, s => xRng1 (evE F a) s
  | .rng2 a b, s => xRng2 (evE F a) (evE F b) s
  | .zip a b, s => xZip (evE F a) (evE F b) s
  | .enu a, s => xEnu (evE F a) s
termination_by structural x => x
end

inductive Out where
  | nx (s : Ms) | rt (d : D) (own : Bool) (s : Ms) | bk (s : Ms) | ct (s : Ms) | ex (e : Ev) (s : Ms) | no
def R.out {α : Type} (r : R α) (f : α → Out) : Out := match r with
  | .ok a => f a
  | .ex e s => .ex e s
  | .no => .no
def ownS : D → Sl
  | .lst ds => .ow (.lst ds)
  | .dic ks vs => .ow (.dic ks vs)
  | d => .va d
def isLst : D → Bool
  | .lst _ => true
  | .dic _ _ => true
  | _ => false
def putL (s : Ms) (i : Nat) (fresh : Bool) (d : D) : Ms := s.put i (if fresh then ownS d else .va d)
/-- an expression whose list is new -/
def isFr : Ex → Bool
  | .lst _ | .comp .. | .comp2 .. | .call .. | .bin .. | .slc .. | .dct0 | .dct1 .. => true
  | .bi .list _ => true
  | _ => false
def setI {α : Type} (xs : List α) (j : Int) (x : α) : Option (List α) := (L2.ixN xs.length j).map fun n => xs.set n x
def forL (f : D → Ms → Out) : List D → Ms → Out
  | [], s => .nx s
  | x :: xs, s => match f x s with
    | .nx s' => forL f xs s'
    | .ct s' => forL f xs s'
    | .bk s' => .nx s'
    | o => o
def whlN (c : Ms → R (D × Ms)) (b : Ms → Out) : Nat → Ms → Out
  | 0, _ => .no
  | n + 1, s => match c s with
    | .ok (.bl true, s1) => (match b s1 with
      | .nx s' => whlN c b n s'
      | .ct s' => whlN c b n s'
      | .bk s' => .nx s'
      | o => o)
    | .ok (.bl false, s1) => .nx s1
    | .ex e s1 => .ex e s1
    | _ => .no
/-- with a list of its own, where it is new -/
def evR (F : Fh) (fresh : Bool) (e : Ex) (s : Ms) : R (D × Ms) := if fresh then
    (if isFr e then (match e with
      | .call k es => (evOs F es s).bnd fun p => (calF F k p.1 p.2).bnd fun q => if q.1.2 || !isLst q.1.1 then .ok (q.1.1, q.2) else .no
      | e => evE F e s) else .no)
  else evE F e s
/-- an index that changes nothing -/
def evC : Ex → Ms → Option Int
  | .ct (.int x), _ => some x
  | .nm i, s => match s.sl[i]? with
    | some (.va (.int x)) => some x
    | _ => none
  | .idx (.nm i) k, s => (evC k s).bind fun y => match s.sl[i]? with
    | some (.va a) => (idxD a (.int y)).bind asInt?
    | _ => none
  | .bin .add a b, s => (evC a s).bind fun x => (evC b s).bind fun y => some (x + y)
  | .bin .sub a b, s => (evC a s).bind fun x => (evC b s).bind fun y => some (x - y)
  | _, _ => none
def hasS (s : Ms) (i : Nat) : Bool := match s.sl[i]? with
  | some (.ow (.lst _)) => true
  | _ => false
def stL : Lv → D → Ms → Option Ms
  | .nm i _, d, s => some (s.put i (.va d))
  | .ix i k, d, s => match evC k s, s.sl[i]? with
    | some j, some (.ow (.lst ds)) => (setI ds j d).map fun ds' => s.put i (.ow (.lst ds'))
    | _, _ => none
  | .ix2 i j k, d, s => match evC j s, evC k s, s.sl[i]? with
    | some x, some y, some (.dp rs) => if decide (0 ≤ x) && decide (x < rs.length) then (setI (rs.getD x.toNat []) y d).map fun r' => s.put i (.dp (rs.set x.toNat r')) else none
    | _, _, _ => none
  | .kx i j, d, s => match s.sl[j]?, s.sl[i]? with
    | some (.va k), some (.ow (.dic ks vs)) => if keyD k && decide (ks.length < sizeLine) then some (s.put i (.ow (dPut ks vs k d))) else none
    | _, _ => none
def ofO (o : Option Ms) : Out := match o with
  | some s => .nx s
  | none => .no
def yAsgN (F : Fh) (i : Nat) (fr : Bool) (e : Ex) (s : Ms) : Out := (evR F fr e s).out fun p => .nx (putL p.2 i fr p.1)
def yAsg (F : Fh) (l : Lv) (e : Ex) (s : Ms) : Out := (evE F e s).out fun p => ofO (stL l p.1 p.2)
def yAsg2N (F : Fh) (i j : Nat) (fi fj : Bool) (a b : Ex) (s : Ms) : Out := (evR F fi a s).out fun p => (evR F fj b p.2).out fun q => if i == j then .no else .nx (putL (putL q.2 i fi p.1) j fj q.1)
def yAsg2 (F : Fh) (l l' : Lv) (a b : Ex) (s : Ms) : Out := (evE F a s).out fun p => (evE F b p.2).out fun q => match stL l p.1 q.2 with
    | some u => ofO (stL l' q.1 u)
    | none => .no
def yAsg3 (F : Fh) (i j l : Nat) (fi fj fl : Bool) (a b c : Ex) (s : Ms) : Out := (evR F fi a s).out fun p => (evR F fj b p.2).out fun q => (evR F fl c q.2).out fun r => if i == j || i == l || j == l then .no else .nx (putL (putL (putL r.2 i fi p.1) j fj q.1) l fl r.1)
def yUnp (F : Fh) (is : List Nat) (e : Ex) (s : Ms) : Out := (evE F e s).out fun p => ofO (bindT (.many is) p.1 p.2)
def yMat (i : Nat) (c : Int) (n o : Nat) (s : Ms) : Out := match s.sl[n]? with
    | some (.va (.int m)) => if decide (0 ≤ m) && decide (m ≤ 1000) && ownOk [o] s && decide (o ≠ n) then .nx (s.put i (.dp (List.replicate m.toNat (List.replicate m.toNat (.int c))))) else .no
    | _ => .no
def yApp (F : Fh) (i : Nat) (e : Ex) (s : Ms) : Out := if hasS s i then ((evE F e s).out fun p => match p.2.sl[i]? with
    | some (.ow (.lst ds)) => if ds.length < sizeLine then .nx (p.2.put i (.ow (.lst (ds ++ [p.1])))) else .no
    | _ => .no) else .no
def yExp (F : Fh) (e : Ex) (s : Ms) : Out := (evE F e s).out fun p => .nx p.2
def yRet (F : Fh) (fr : Bool) (e : Ex) (s : Ms) : Out := (evR F fr e s).out fun p => .rt p.1 fr p.2
def yIfs (F : Fh) (c : Ex) (ra rb : Ms → Out) (s : Ms) : Out := (evE F c s).out fun p => match p.1 with
    | .bl true => ra p.2
    | .bl false => rb p.2
    | _ => .no
def yFors (F : Fh) (tg : Tg) (it : It) (rb : Ms → Out) (s : Ms) : Out := (evI F it s).out fun p => forL (fun x s1 => match bindT tg x s1 with
    | some s2 => rb s2
    | none => .no) p.1 p.2
def yWhl (F : Fh) (c : Ex) (rb : Ms → Out) (s : Ms) : Out := whlN (fun s1 => evE F c s1) rb F.wf s
def yCons (ra rb : Ms → Out) (s : Ms) : Out := match ra s with
    | .nx s' => rb s'
    | o => o
def nmL : Lv → Option (Nat × Bool)
  | .nm i f => some (i, f)
  | _ => none
def yAsgL (F : Fh) (l : Lv) (e : Ex) (s : Ms) : Out := match l with
  | .nm i fr => yAsgN F i fr e s
  | _ => yAsg F l e s
def yAsg2L (F : Fh) (l l' : Lv) (a b : Ex) (s : Ms) : Out := match l, l' with
  | .nm i fi, .nm j fj => yAsg2N F i j fi fj a b s
  | _, _ => yAsg2 F l l' a b s
mutual
def evS (F : Fh) : Sm → Ms → Out
  | .asg l e, s => yAsgL F l e s
  | .asg2 l l' a b, s => yAsg2L F l l' a b s
  | .asg3 i j l fi fj fl a b c, s => yAsg3 F i j l fi fj fl a b c s
  | .unp is e, s => yUnp F is e s
  | .mat i c n o, s => yMat i c n o s
  | .app i e, s => yApp F i e s
  | .exp e, s => yExp F e s
  | .ret fr e, s => yRet F fr e s
  | .retN, s => .rt .non false s
  | .ifs c a b, s => yIfs F c (evSs F a) (evSs F b) s
  | .fors tg it b, s => yFors F tg it (evSs F b) s
  | .whl c b, s => yWhl F c (evSs F b) s
  | .pas, s => .nx s
  | .brk, s => .bk s
  | .cnt, s => .ct s
  | .rai c, s => .ex ⟨c, []⟩ s
  | .bad, _ => .no
termination_by structural x => x
def evSs (F : Fh) : Sms → Ms → Out
  | .nil, s => .nx s
  | .cons a r, s => yCons (evS F a) (evSs F r) s
termination_by structural x => x
end
/-- what is handed back of the parameters: nothing of those that the def stores anew -/
def outsF : List Bool → List Sl → List Sl
  | true :: fs, _ :: ss => .un :: outsF fs ss
  | _ :: fs, s :: ss => s :: outsF fs ss
  | [], ss => ss
  | _, [] => []
def runF (F : Fh) (f : FnI) (ps : List Sl) (ob : List Ob) : Rc := if ps.length == f.np then
    (match evSs F f.body ⟨ps ++ List.replicate (f.n - f.np) .un, ob⟩ with
    | .nx s => .ok .non false (outsF f.asg (s.sl.take f.np)) s.ob
    | .rt d o s => .ok d o (outsF f.asg (s.sl.take f.np)) s.ob
    | .ex e s => .ex e s.ob
    | _ => .no)
  else .no
/-- the runs at a level, one lower, two lower -/
def callT (Γ : List FnI) (wf : Nat) : Nat → (Nat → List Sl → List Ob → Rc) × (Nat → List Sl → List Ob → Rc) × (Nat → List Sl → List Ob → Rc)
  | 0 => (noRun, noRun, noRun)
  | n + 1 => (fun k ps ob => match Γ[k]? with
    | some f => runF ⟨fun k => (Γ[k]?.map FnI.asg).getD [], (callT Γ wf n).1, (callT Γ wf n).2.2, decide (2 ≤ n), wf⟩ f ps ob
    | none => .no, (callT Γ wf n).1, (callT Γ wf n).2.1)
def callM (Γ : List FnI) (wf n : Nat) : Nat → List Sl → List Ob → Rc := (callT Γ wf n).1
def callL (Γ : List FnI) (wf n : Nat) : Nat → List Sl → List Ob → Rc := (callT Γ wf n).2.2
end Mi
/-! Part K: dicts whose keys are tuples (of numbers, texts, None, tuples) in the abstract heap. -/
namespace Mi
open PySem PySem.Spec PyProof.Rows L2
/-- an entry: its key, where the key stands, its value -/
abbrev Ent := NestedKey × Addr × V
def EntR (p : Ent) (q : NestedKey × Addr × Value) : Prop := p.1 = q.1 ∧ p.2.1 = q.2.1 ∧ RelV p.2.2 q.2.2
def dctP (P : Program) (w : World) (d : Addr) (xs : List Ent) (h : Heap) : Prop := xs.length ≤ sizeLine ∧ (d == sysModules) = false ∧
  ∃ ys, Paired EntR xs ys ∧ ∃ o es ep, h.get? d = some o ∧ o.ExactDict ∧ o.data = .dict es ep ∧ es.toList = ys.map (entryOfKey (nestedKind P w)) ∧ (ys.map (·.1)).Nodup
def dctO (P : Program) (w : World) (d : Addr) (xs : List Ent) : HO := .ext (dctP P w d xs)
section
variable {P : Program} {w : World} {H : Hp} {h : Heap} {d a : Addr} {xs : List Ent}
theorem dctO_ok (x : dctP P w d xs h) : ObjOk P w H h d (dctO P w d xs) := by
  refine ⟨x, ?_, fun h1 h2 p k => ?_⟩
  · obtain ⟨_, _, _, _, o, _, _, e, _⟩ := x
    exact ⟨o, e⟩
  · obtain ⟨a, b, ys, r, o, es, ep, e, t⟩ := p
    exact ⟨a, b, ys, r, o, es, ep, k _ e, t⟩
theorem dctO_lst {us : List V} : dctO P w d xs ≠ .lst us := fun z => by cases z
theorem dctO_tup {us : List V} : dctO P w d xs ≠ .tup us := fun z => by cases z
theorem dctO_tbl {ps : Array Value} : dctO P w d xs ≠ .tbl ps := fun z => by cases z
theorem dctO_code {c : Addr} {q : Str} : dctO P w d xs ≠ LamX.CodeO c q := fun z => by
  have z' : HO.ext _ = HO.ext _ := z
  injection z' with z'
  let ob : Obj := { cls := .none, data := .fields #[.none, .str q 0] }
  let hp : Heap := { objs := Array.replicate (c + 1) ob }
  have hg : ∀ a o, hp.get? a = some o → o = ob := fun a o e => by
    unfold Heap.get? at e
    have e2 : hp.objs[a]? = if a < c + 1 then some ob else none := by
      show (Array.replicate (c + 1) ob)[a]? = _
      rw [Array.getElem?_replicate]
    rw [e2] at e
    by_cases l : a < c + 1
    · rw [if_pos l] at e
      exact (Option.some.inj e).symm
    · rw [if_neg l] at e
      cases e
  have hc : hp.get? c = some ob := by
    unfold Heap.get?
    have e2 : hp.objs[c]? = some ob := by
      show (Array.replicate (c + 1) ob)[c]? = _
      rw [Array.getElem?_replicate, if_pos (Nat.lt_succ_self c)]
    rw [e2]
  have h1 := congrFun z' hp
  have h2 : dctP P w d xs hp := h1.mpr ⟨ob, _, _, hc, rfl, rfl⟩
  obtain ⟨_, _, ys, _, o, es, ep, e, _, hd, _⟩ := h2
  rw [hg _ _ e] at hd
  cases hd
mutual
inductive KeyV (H : Hp) : NestedKey → V → Prop
  | non : KeyV H .none .non
  | num (i : Int) : KeyV H (.num i) (.int i)
  | text (x : Str) : KeyV H (.text x) (.str x)
  | tup {a : Addr} {vs : List V} {ks : List NestedKey} : H a = some (.tup vs) → KeyVs H ks vs → KeyV H (.tup ks) (.ref a)
inductive KeyVs (H : Hp) : List NestedKey → List V → Prop
  | nil : KeyVs H [] []
  | cons {k : NestedKey} {v : V} {ks : List NestedKey} {vs : List V} : KeyV H k v → KeyVs H ks vs → KeyVs H (k :: ks) (v :: vs)
end
mutual
theorem KeyV.is (ok : HOk P w H h) : ∀ {k : NestedKey} {v : V} {u : Value}, KeyV H k v → RelV v u → NestedIs h k u
  | _, _, u, .non, r => by
    cases (show u = Value.none from r)
    exact .none
  | _, _, u, .num i, r => by
    obtain ⟨t, rfl⟩ := (show ∃ t, u = Value.int i t from r)
    exact .int i t
  | _, _, u, .text x, r => by
    obtain ⟨t, rfl⟩ := (show ∃ t, u = Value.str x t from r)
    exact .text x t
  | _, _, u, .tup (a := a) (vs := vs) e t, r => by
    cases (show u = Value.ref a from r)
    obtain ⟨_, its, rv, o, h1, h2, n, h3⟩ := (show ObjOk P w H h a (.tup vs) from ok a _ e)
    exact .tup h1 h2 h3 (by simpa using t.are ok rv)
theorem KeyVs.are (ok : HOk P w H h) : ∀ {ks : List NestedKey} {vs : List V} {us : List Value}, KeyVs H ks vs → Vals vs us → NestedAll h ks us
  | _, _, _, .nil, r => by cases r; exact .nil
  | _, _, _, .cons k t, r => by
    cases r with
    | cons r1 r2 => exact .cons (k.is ok r1) (t.are ok r2)
end
mutual
theorem KeyV.mono {H' : Hp} (k : ∀ a vs, H a = some (.tup vs) → H' a = some (.tup vs)) : ∀ {n : NestedKey} {v : V}, KeyV H n v → KeyV H' n v
  | _, _, .non => .non
  | _, _, .num i => .num i
  | _, _, .text x => .text x
  | _, _, .tup e t => .tup (k _ _ e) (t.mono k)
theorem KeyVs.mono {H' : Hp} (k : ∀ a vs, H a = some (.tup vs) → H' a = some (.tup vs)) : ∀ {ns : List NestedKey} {vs : List V}, KeyVs H ns vs → KeyVs H' ns vs
  | _, _, .nil => .nil
  | _, _, .cons a t => .cons (a.mono k) (t.mono k)
end
structure KeyOk (H : Hp) (k : NestedKey) (a : Addr) : Prop where
  v : KeyV H k (.ref a)
  d : k.depth ≤ 8
theorem KeyOk.is {k : NestedKey} (x : KeyOk H k a) (ok : HOk P w H h) : (nestedKind P w).is h k a := ⟨x.v.is ok rfl, x.d⟩
def KeysOk (H : Hp) (xs : List Ent) : Prop := ∀ x ∈ xs, KeyOk H x.1 x.2.1
theorem ents_is (ok : HOk P w H h) : ∀ {xs : List Ent} {ys : List (NestedKey × Addr × Value)}, Paired EntR xs ys → KeysOk H xs → ∀ y ∈ ys, (nestedKind P w).is h y.1 y.2.1
  | _, _, .nil, _, y, hy => by cases hy
  | x :: xs, y :: ys, .cons r t, k, z, hz => by
    rcases List.mem_cons.mp hz with rfl | hz
    · obtain ⟨e1, e2, _⟩ := r
      rw [← e1, ← e2]
      exact (k x (by simp)).is ok
    · exact ents_is ok t (fun x hx => k x (by simp [hx])) z hz
theorem dct_of (ok : HOk P w H h) (e : H d = some (dctO P w d xs)) (k : KeysOk H xs) : xs.length ≤ sizeLine ∧ (d == sysModules) = false ∧ ∃ ys, Paired EntR xs ys ∧ h.DictOfH (nestedKind P w) d ys := by
  obtain ⟨⟨z, y, ys, r, o, es, ep, h1, h2, h3, h4, h5⟩, _, _⟩ := (show ObjOk P w H h d (dctO P w d xs) from ok d _ e)
  exact ⟨z, y, ys, r, o, es, ep, h1, h2, h3, h4, ents_is ok r k, h5⟩
end
/-! ### what is looked up, what is stored -/
def valE (xs : List Ent) (k : NestedKey) : Option V := (xs.find? fun x => decide (x.1 = k)).map (·.2.2)
def setE (k : NestedKey) (v : V) (x : Ent) : Ent := if x.1 = k then (x.1, x.2.1, v) else x
def putE (xs : List Ent) (k : NestedKey) (a : Addr) (v : V) : List Ent := if (valE xs k).isSome then xs.map (setE k v) else xs ++ [(k, a, v)]
theorem valE_rel {k : NestedKey} : ∀ {xs : List Ent} {ys : List (NestedKey × Addr × Value)}, Paired EntR xs ys → (valE xs k = none ∧ atKey ys k = none) ∨ ∃ v b u, valE xs k = some v ∧ atKey ys k = some (b, u) ∧ RelV v u
  | _, _, .nil => .inl ⟨rfl, rfl⟩
  | x :: xs, y :: ys, .cons r t => by
    obtain ⟨e1, e2, e3⟩ := r
    by_cases h : x.1 = k
    · refine .inr ⟨x.2.2, y.2.1, y.2.2, ?_, ?_, e3⟩
      · simp [valE, h]
      · have : y.1 = k := e1 ▸ h
        simp [atKey, this]
    · have h' : ¬ y.1 = k := fun z => h (e1.trans z)
      have ex : valE (x :: xs) k = valE xs k := by simp [valE, h]
      have ey : atKey (y :: ys) k = atKey ys k := by simp [atKey, h']
      rw [ex, ey]
      exact valE_rel t
theorem valE_some {k : NestedKey} {xs : List Ent} {ys : List (NestedKey × Addr × Value)} (r : Paired EntR xs ys) : (valE xs k).isSome = (atKey ys k).isSome := by
  rcases valE_rel (k := k) r with ⟨a, b⟩ | ⟨v, b, u, a, c, _⟩
  · rw [a, b]; rfl
  · rw [a, c]; rfl
theorem paired_app {α β : Type} {R : α → β → Prop} : ∀ {xs xs' : List α} {ys ys' : List β}, Paired R xs ys → Paired R xs' ys' → Paired R (xs ++ xs') (ys ++ ys')
  | _, _, _, _, .nil, h => h
  | _, _, _, _, .cons a t, h => .cons a (paired_app t h)
theorem set_rel {k : NestedKey} {v : V} {u : Value} (rv : RelV v u) : ∀ {xs : List Ent} {ys : List (NestedKey × Addr × Value)}, Paired EntR xs ys → Paired EntR (xs.map (setE k v)) (ys.map (putAt k u))
  | _, _, .nil => .nil
  | x :: xs, y :: ys, .cons r t => by
    refine .cons ?_ (set_rel rv t)
    obtain ⟨e1, e2, e3⟩ := r
    unfold setE putAt
    by_cases h : x.1 = k
    · rw [if_pos h, if_pos (e1 ▸ h)]
      exact ⟨e1, e2, rv⟩
    · rw [if_neg h, if_neg fun z => h (e1.trans z)]
      exact ⟨e1, e2, e3⟩
theorem put_rel {k : NestedKey} {a : Addr} {v : V} {u : Value} (rv : RelV v u) {xs : List Ent} {ys : List (NestedKey × Addr × Value)} (r : Paired EntR xs ys) : Paired EntR (putE xs k a v) (storedH ys k a u) := by
  unfold putE storedH
  rw [valE_some r]
  split
  · exact set_rel rv r
  · exact paired_app r (.cons ⟨rfl, rfl, rv⟩ .nil)
theorem putE_len (xs : List Ent) (k : NestedKey) (a : Addr) (v : V) : (putE xs k a v).length ≤ xs.length + 1 := by
  unfold putE
  split <;> simp
theorem putE_keys {H : Hp} {xs : List Ent} {k : NestedKey} {a : Addr} {v : V} (h : KeysOk H xs) (hk : KeyOk H k a) : KeysOk H (putE xs k a v) := by
  intro x hx
  unfold putE at hx
  split at hx
  · obtain ⟨y, hy, rfl⟩ := List.mem_map.mp hx
    unfold setE
    split
    · exact h y hy
    · exact h y hy
  · rcases List.mem_append.mp hx with z | z
    · exact h x z
    · simp at z; subst z; exact hk
/-! ### rules -/
section
variable {X : Cx}
theorem room_k {A : Around} (hu : A.units + 65 < cLine) : (nestedKind X.prog X.w).room A.in1 := by
  show A.units + 1 + 8 < cLine
  omega
def rKin (X : Cx) (f : Bool → Bool) : R2 := fun x y H Q => ∃ (a d : Addr) (k : NestedKey) (xs : List Ent), x = .ref a ∧ y = .ref d ∧ H d = some (dctO X.prog X.w d xs) ∧ KeysOk H xs ∧ KeyOk H k a ∧ Q (.bl (f (valE xs k).isSome)) H
theorem op_inK (hu : X.A.units + 65 < cLine) : OpR X (compareOp .In) (rKin X fun b => b) := by
  intro pins s σ H x y v u Q I rx ry h
  obtain ⟨a, d, k, xs, rfl, rfl, e, ks, hk, q⟩ := h
  cases (show v = Value.ref a from rx)
  cases (show u = Value.ref d from ry)
  obtain ⟨z, hd, ys, r, dd⟩ := dct_of I.hok e ks
  refine in_keyed (knd := nestedKind X.prog X.w) (room_k hu) (hk.is I.hok) hd ⟨ys, dd, rfl⟩ ?_
  refine ⟨.bl (valE xs k).isSome, H, I.tok _, ?_, q⟩
  show Value.bool _ = Value.bool _
  rw [valueAt_pairsH, Option.isSome_map, valE_some r]
theorem op_ninK (hu : X.A.units + 65 < cLine) : OpR X (compareOp .NotIn) (rKin X fun b => !b) := by
  intro pins s σ H x y v u Q I rx ry h
  obtain ⟨a, d, k, xs, rfl, rfl, e, ks, hk, q⟩ := h
  cases (show v = Value.ref a from rx)
  cases (show u = Value.ref d from ry)
  obtain ⟨z, hd, ys, r, dd⟩ := dct_of I.hok e ks
  refine notIn_keyed (knd := nestedKind X.prog X.w) (room_k hu) (hk.is I.hok) hd ⟨ys, dd, rfl⟩ ?_
  refine ⟨.bl (!(valE xs k).isSome), H, I.tok _, ?_, q⟩
  show Value.bool _ = Value.bool _
  rw [valueAt_pairsH, Option.isSome_map, valE_some r]
def rKget (X : Cx) : R2 := fun x y H Q => ∃ (a d : Addr) (k : NestedKey) (xs : List Ent) (v : V), x = .ref d ∧ y = .ref a ∧ H d = some (dctO X.prog X.w d xs) ∧ KeysOk H xs ∧ KeyOk H k a ∧ valE xs k = some v ∧ Q v H
theorem op_getK (hu : X.A.units + 65 < cLine) : OpR X getItem (rKget X) := by
  intro pins s σ H x y v u Q I rx ry h
  obtain ⟨a, d, k, xs, z, rfl, rfl, e, ks, hk, hz, q⟩ := h
  cases (show v = Value.ref d from rx)
  cases (show u = Value.ref a from ry)
  obtain ⟨_, hd, ys, r, dd⟩ := dct_of I.hok e ks
  rcases valE_rel (k := k) r with ⟨n, _⟩ | ⟨v', b, u', e1, e2, e3⟩
  · rw [n] at hz; cases hz
  · rw [e1] at hz; cases hz
    refine getItem_keyed (knd := nestedKind X.prog X.w) (v := u') (room_k hu) (hk.is I.hok) ⟨ys, dd, rfl⟩ (by rw [valueAt_pairsH, e2]; rfl) ?_
    exact ⟨z, H, I.tok _, e3, q⟩
def rKput (X : Cx) : TSet := fun o i v H Q => ∃ (a d : Addr) (k : NestedKey) (xs : List Ent), o = .ref d ∧ i = .ref a ∧ H d = some (dctO X.prog X.w d xs) ∧ KeysOk H xs ∧ KeyOk H k a ∧ xs.length < sizeLine ∧ Q (upd H d (dctO X.prog X.w d (putE xs k a v)))
theorem set_K (hu : X.A.units + 65 < cLine) : PSet X (rKput X) := by
  intro pins s σ H o i v ov iv u Q I ro ri rv h
  obtain ⟨a, d, k, xs, rfl, rfl, e, ks, hk, hl, q⟩ := h
  cases (show ov = Value.ref d from ro)
  cases (show iv = Value.ref a from ri)
  obtain ⟨z, hd, ys, r, dd⟩ := dct_of I.hok e ks
  refine wpAny_setItem_heap (hsz := by rw [← Paired.length r]; exact z) (room_k hu) (hk.is I.hok) dd fun h' dd' hs => ?_
  obtain ⟨ob, es, ep, hq, h2, h3, h4, _, h5⟩ := dd'
  refine ⟨_, d_write I (by rw [e]; exact True.intro) hs ⟨ob, hq⟩ (dctO_ok ⟨?_, hd, _, put_rel rv r, ob, es, ep, hq, h2, h3, h4, h5⟩), q⟩
  have := putE_len xs k a v
  omega
/-! displays -/
theorem dict_pairsK {prog : Program} {w : World} {A : Around} {E : Value → Shared → Prop} {s : Shared} {knd : HeapKind prog w NestedKey} {env : Env} {keys : List (Option Expr)} {values : List Expr} {pos : Pos} {pairs : List (Sem Value × Sem Value)} {Q : Value → Shared → Prop} (hu : knd.room A)
    (hshape : (evalEachOpt keys env).zip ((evalEach values env).map fun v => do let x ← v; standAt pos; pure x) = pairs.map fun p => (some p.1, p.2)) (h0 : pairs ≠ []) (hlen : pairs.length ≤ 15)
    (h : wpAny (model prog w) A (evalPairs pairs) (fun vs s₁ => ∃ ps, CarriesH knd s₁.heap vs ps ∧ s₁.heap.DictOfH knd s.heap.objs.size [] ∧
      ∀ h' tk, h'.DictOfH knd s.heap.objs.size (storedAllH [] ps) → Heap.SameBut s.heap.objs.size s₁.heap h' → Q (.ref s.heap.objs.size) { s₁ with heap := h', toks := tk }) E
      { s with heap := s.heap.push { cls := .type "dict", data := .dict #[] } }) :
    wpAny (model prog w) A (eval (.Dict keys values pos) env) Q E s := by
  rw [arm_eval_Dict, hshape, dictDisplay_pairs pairs h0 (by omega)]
  exact wpAny_bind (wpAny_standAt (wpAny_bind (wpAny_subDictH (knd := knd) (Q := fun d s' => wpAny (model prog w) A (pure (Value.ref d)) Q E s') hu hlen
    (wpAny_mono h (fun vs s₁ h₁ => by obtain ⟨ps, hc, hm, hq⟩ := h₁; exact ⟨ps, hc, hm, fun h' tk a b => wpAny_pure (hq h' tk a b)⟩) fun _ _ e => e))))
theorem dct_empty {P : Program} {w : World} {H : Hp} (h : Heap) (hb : sysModules < h.objs.size) : ObjOk P w H (h.push { cls := .type "dict", data := .dict #[] }) h.objs.size (dctO P w h.objs.size []) :=
  dctO_ok ⟨Nat.zero_le _, beq_eq_false_iff_ne.mpr (Ne.symm (Nat.ne_of_lt hb)), [], .nil, _, #[], 0, Heap.get?_push_size _ rfl, ⟨rfl, rfl, rfl⟩, rfl, rfl, List.nodup_nil⟩
def tNewK (X : Cx) : TE := fun _ H Q => ∀ p, H p = none → Q (.ref p) (upd H p (dctO X.prog X.w p []))
theorem pe_newK {pos : Pos} : PE X (.Dict [] [] pos) (tNewK X) := ⟨fun pins s σ H Q I h =>
  wpAny_Dict_empty ⟨.ref s.heap.objs.size, _, I.laid (a := s.heap.objs.size) (o := dctO X.prog X.w s.heap.objs.size []) (t' := s.toks) (fun _ _ q => Heap.get?_push_of_some _ q) (Nat.le_refl _) (dct_empty s.heap I.big), rfl, h _ (I.hok.fresh (Nat.le_refl _))⟩⟩
def tDisp1 (X : Cx) (tk tv : TE) : TE := fun σ H Q => ∀ p, H p = none → tk σ (upd H p (dctO X.prog X.w p [])) fun x H1 => tv σ H1 fun y H2 => H2 p = some (dctO X.prog X.w p []) ∧ ∃ (k : NestedKey) (a : Addr), x = .ref a ∧ KeyOk H2 k a ∧ Q (.ref p) (upd H2 p (dctO X.prog X.w p [(k, a, y)]))
theorem pe_disp1 {k v : Expr} {pos : Pos} {tk tv : TE} (hu : X.A.units + 65 < cLine) (hk : PE X k tk) (hv : PE X v tv) : PE X (.Dict [some k] [v] pos) (tDisp1 X tk tv) := by
  refine ⟨fun pins s σ H Q I q => ?_⟩
  have hn := I.hok.fresh (Nat.le_refl s.heap.objs.size)
  have I1 := I.laid (a := s.heap.objs.size) (o := dctO X.prog X.w s.heap.objs.size []) (h' := s.heap.push { cls := .type "dict", data := .dict #[] }) (t' := s.toks) (fun _ _ q => Heap.get?_push_of_some _ q) (Nat.le_refl _) (dct_empty s.heap I.big)
  refine dict_pairsK (knd := nestedKind X.prog X.w) (pairs := pairTrees [some k] [v] X.env pos) (show X.A.units + 8 < cLine by omega) (zip_pairTrees _ _ _ _ rfl rfl) (fun z => by cases z) (by show 1 ≤ 15; omega) ?_
  refine pairTrees_cons_walk (thn (hk.run pins _ σ _ _ I1 (q _ hn)) fun u s1 ⟨x, H1, I1', rx, q1⟩ => thn (hv.run pins s1 σ H1 _ I1' q1) fun w2 s2 ⟨y, H2, I2, ry, e, kk, a, e1, hk', q2⟩ => pairTrees_nil_walk ?_)
  subst e1
  cases (show u = Value.ref a from rx)
  obtain ⟨z, hd, ys, r, dd⟩ := dct_of I2.hok e (fun _ hx => by cases hx)
  cases r
  refine ⟨[(kk, a, w2)], ⟨rfl, rfl, hk'.is I2.hok, True.intro⟩, dd, fun h' tk dd' hs => ⟨.ref s.heap.objs.size, _, ?_, rfl, q2⟩⟩
  obtain ⟨ob, es, ep, hq, h2, h3, h4, _, h5⟩ := dd'
  refine d_write I2 (by rw [e]; exact True.intro) hs ⟨ob, hq⟩ (dctO_ok ⟨by show 1 ≤ sizeLine; decide, hd, [(kk, a, w2)], .cons ⟨rfl, rfl, ry⟩ .nil, ob, es, ep, hq, h2, h3, ?_, ?_⟩)
  · exact h4
  · simp
end
end Mi
/-! Part B: how data lie in the abstract heap; operations upon values. -/
namespace Mi
open PySem PySem.Spec PyProof.Rows L2

/-- what stands once and for all: the written part, where defs and classes stand, the tables of code objects -/
structure En where
  P : Program
  w : World
  K : PySem.W.Frag
  mg : Str → Option Value
  base : Heap
  fa : Nat → Addr
  ca : Nat → Addr
  T : List (Addr × Str)
/-- what never changes: tuples and lists that are not changed any more; the instances by number -/
structure Wd where
  I : Hp
  om : List Addr
  nt : ∀ a ps, I a ≠ some (.tbl ps)
structure Wd.Le (w w' : Wd) : Prop where
  sub : ∀ a o, w.I a = some o → w'.I a = some o
  om : ∃ l, w'.om = w.om ++ l
theorem Wd.Le.refl (w : Wd) : w.Le w := ⟨fun _ _ h => h, [], by simp⟩
theorem Wd.Le.trans {a b c : Wd} (x : a.Le b) (y : b.Le c) : a.Le c := by
  obtain ⟨l, h⟩ := x.om
  obtain ⟨l', h'⟩ := y.om
  exact ⟨fun p o q => y.sub p o (x.sub p o q), l ++ l', by rw [h', h, List.append_assoc]⟩

variable {e : En}
mutual
def nkD : D → Option NestedKey
  | .non => some .none
  | .int i => some (.num i)
  | .str x => some (.text x)
  | .tup ds => (nkDs ds).map .tup
  | _ => none
def nkDs : List D → Option (List NestedKey)
  | [] => some []
  | d :: ds => match nkD d, nkDs ds with
    | some k, some ks => some (k :: ks)
    | _, _ => none
end
/-- a key and its entry -/
def EntD (k : D) (x : Ent) : Prop := nkD k = some x.1 ∧ keyD k = true
def kRef (x : Ent) : V := .ref x.2.1
def kVal (x : Ent) : V := x.2.2
mutual
inductive Rp (e : En) (w : Wd) : D → V → Prop
  | non : Rp e w .non .non
  | bl (b : Bool) : Rp e w (.bl b) (.bl b)
  | int (i : Int) : Rp e w (.int i) (.int i)
  | str (x : Str) : Rp e w (.str x) (.str x)
  | tup {a : Addr} {ws : List V} {ds : List D} : w.I a = some (.tup ws) → Rps e w ds ws → Rp e w (.tup ds) (.ref a)
  | lst {a : Addr} {ws : List V} {ds : List D} : w.I a = some (.lst ws) → Rps e w ds ws → Rp e w (.lst ds) (.ref a)
  | scr {a : Addr} {ns : List Int} : SqL e.K w.I a (ns.map V.int) → Rp e w (.scr ns) (.ref a)
  | fn (k : Nat) : Rp e w (.fn k) (.ref (e.fa k))
  | obj {n : Nat} {a : Addr} : w.om[n]? = some a → Rp e w (.obj n) (.ref a)
  | dic {d : Addr} {xs : List Ent} {ks vs : List D} : w.I d = some (dctO e.P e.w d xs) → Rps e w ks (xs.map kRef) → Rps e w vs (xs.map kVal) → Paired EntD ks xs → Rp e w (.dic ks vs) (.ref d)
inductive Rps (e : En) (w : Wd) : List D → List V → Prop
  | nil : Rps e w [] []
  | cons {d : D} {v : V} {ds : List D} {vs : List V} : Rp e w d v → Rps e w ds vs → Rps e w (d :: ds) (v :: vs)
end
theorem SqL.sub {K : PySem.W.Frag} {I I' : Hp} {a : Addr} {xs : List V} (h : SqL K I a xs) (s : ∀ b o, I b = some o → I' b = some o) : SqL K I' a xs := by
  rcases h with (h | ⟨o, h⟩) | h
  · exact .inl (.inl (s _ _ h))
  · exact .inl (.inr ⟨o, s _ _ h⟩)
  · exact .inr h
mutual
theorem Rp.mono {w w' : Wd} (l : w.Le w') : ∀ {d : D} {v : V}, Rp e w d v → Rp e w' d v
  | _, _, .non => .non
  | _, _, .bl b => .bl b
  | _, _, .int i => .int i
  | _, _, .str x => .str x
  | _, _, .tup h r => .tup (l.sub _ _ h) (r.mono l)
  | _, _, .lst h r => .lst (l.sub _ _ h) (r.mono l)
  | _, _, .scr h => .scr (SqL.sub h l.sub)
  | _, _, .fn k => .fn k
  | _, _, .obj h => .obj (by
      obtain ⟨m, q⟩ := l.om
      rw [q, List.getElem?_append_left (List.getElem?_eq_some_iff.mp h).1]
      exact h)
  | _, _, .dic h r1 r2 p => .dic (l.sub _ _ h) (r1.mono l) (r2.mono l) p
theorem Rps.mono {w w' : Wd} (l : w.Le w') : ∀ {ds : List D} {vs : List V}, Rps e w ds vs → Rps e w' ds vs
  | _, _, .nil => .nil
  | _, _, .cons r t => .cons (r.mono l) (t.mono l)
end
theorem Rps.length {w : Wd} : ∀ {ds : List D} {vs : List V}, Rps e w ds vs → ds.length = vs.length
  | _, _, .nil => rfl
  | _, _, .cons _ t => by simp [t.length]
theorem Rps.append {w : Wd} : ∀ {ds ds' : List D} {vs vs' : List V}, Rps e w ds vs → Rps e w ds' vs' → Rps e w (ds ++ ds') (vs ++ vs')
  | _, _, _, _, .nil, h => h
  | _, _, _, _, .cons r t, h => .cons r (t.append h)
theorem Rps.get {w : Wd} : ∀ {ds : List D} {vs : List V} {i : Nat} {d : D}, Rps e w ds vs → ds[i]? = some d → ∃ v, vs[i]? = some v ∧ Rp e w d v
  | _, _, _, _, .nil, h => by simp at h
  | _, _, 0, _, .cons r _, h => by simp at h; subst h; exact ⟨_, rfl, r⟩
  | _, _, i + 1, _, .cons _ t, h => by
    obtain ⟨v, h1, h2⟩ := t.get (i := i) (by simpa using h)
    exact ⟨v, by simpa using h1, h2⟩
theorem Rps.getV {w : Wd} : ∀ {ds : List D} {vs : List V} {i : Nat} {v : V}, Rps e w ds vs → vs[i]? = some v → ∃ d, ds[i]? = some d ∧ Rp e w d v
  | _, _, _, _, .nil, h => by simp at h
  | _, _, 0, _, .cons r _, h => by simp at h; subst h; exact ⟨_, rfl, r⟩
  | _, _, i + 1, _, .cons _ t, h => by
    obtain ⟨v, h1, h2⟩ := t.getV (i := i) (by simpa using h)
    exact ⟨v, by simpa using h1, h2⟩
theorem Rps.set {w : Wd} {x : D} {v : V} (r : Rp e w x v) : ∀ {ds : List D} {vs : List V} (i : Nat), Rps e w ds vs → Rps e w (ds.set i x) (vs.set i v)
  | _, _, _, .nil => .nil
  | _, _, 0, .cons _ t => .cons r t
  | _, _, i + 1, .cons q t => .cons q (t.set r i)
theorem Rps.take {w : Wd} : ∀ {ds : List D} {vs : List V} (n : Nat), Rps e w ds vs → Rps e w (ds.take n) (vs.take n)
  | _, _, 0, _ => .nil
  | _, _, _ + 1, .nil => .nil
  | _, _, n + 1, .cons r t => .cons r (t.take n)
theorem Rps.drop {w : Wd} : ∀ {ds : List D} {vs : List V} (n : Nat), Rps e w ds vs → Rps e w (ds.drop n) (vs.drop n)
  | _, _, 0, r => r
  | _, _, _ + 1, .nil => .nil
  | _, _, n + 1, .cons _ t => t.drop n
theorem Rps.cut {w : Wd} {ds : List D} {vs : List V} (r : Rps e w ds vs) (lo hi : Option Int) : Rps e w (cutD ds lo hi) (cutV vs lo hi) := by
  unfold cutD cutV
  rw [r.length]
  exact (r.drop _).take _
theorem Rps.rep {w : Wd} {ds : List D} {vs : List V} (r : Rps e w ds vs) : ∀ n : Nat, Rps e w (List.replicate n ds).flatten (List.replicate n vs).flatten
  | 0 => .nil
  | n + 1 => by
    rw [List.replicate_succ, List.replicate_succ, List.flatten_cons, List.flatten_cons]
    exact r.append (r.rep n)
theorem Rps.bools {w : Wd} : ∀ {ds : List D} {vs : List V} {bs : List Bool}, Rps e w ds vs → bools ds = some bs → vs = bs.map V.bl
  | _, _, bs, .nil, h => by cases h; rfl
  | .bl b :: ds, _, bs, .cons r t, h => by
    simp only [Mi.bools, Option.map_eq_some_iff] at h
    obtain ⟨cs, h1, rfl⟩ := h
    cases r
    rw [t.bools h1]; rfl
  | .non :: _, _, _, .cons _ _, h => by simp [Mi.bools] at h
  | .int _ :: _, _, _, .cons _ _, h => by simp [Mi.bools] at h
  | .str _ :: _, _, _, .cons _ _, h => by simp [Mi.bools] at h
  | .tup _ :: _, _, _, .cons _ _, h => by simp [Mi.bools] at h
  | .lst _ :: _, _, _, .cons _ _, h => by simp [Mi.bools] at h
  | .scr _ :: _, _, _, .cons _ _, h => by simp [Mi.bools] at h
  | .fn _ :: _, _, _, .cons _ _, h => by simp [Mi.bools] at h
  | .obj _ :: _, _, _, .cons _ _, h => by simp [Mi.bools] at h
  | .dic _ _ :: _, _, _, .cons _ _, h => by simp [Mi.bools] at h

/-- what stands of its own: a list, a dict -/
inductive OwR (e : En) (w : Wd) (H : Hp) : D → V → Prop
  | lst {a : Addr} {ds : List D} {ws : List V} : H a = some (.lst ws) → Rps e w ds ws → OwR e w H (.lst ds) (.ref a)
  | dic {d : Addr} {xs : List Ent} {ks vs : List D} : H d = some (dctO e.P e.w d xs) → Rps e w ks (xs.map kRef) → Rps e w vs (xs.map kVal) → Paired EntD ks xs → OwR e w H (.dic ks vs) (.ref d)
/-- read in a heap: what never changes, or what stands of its own -/
def Rb (e : En) (w : Wd) (H : Hp) (d : D) (v : V) : Prop := Rp e w d v ∨ OwR e w H d v
theorem Rb.lst {w : Wd} {H : Hp} {ds : List D} {v : V} (s : ∀ a o, w.I a = some o → H a = some o) (r : Rb e w H (.lst ds) v) : ∃ a ws, v = .ref a ∧ H a = some (.lst ws) ∧ Rps e w ds ws := by
  rcases r with r | r <;> cases r
  · rename_i h r
    exact ⟨_, _, rfl, s _ _ h, r⟩
  · rename_i h r
    exact ⟨_, _, rfl, h, r⟩
theorem Rb.tup {w : Wd} {H : Hp} {ds : List D} {v : V} (s : ∀ a o, w.I a = some o → H a = some o) (r : Rb e w H (.tup ds) v) : ∃ a ws, v = .ref a ∧ w.I a = some (.tup ws) ∧ H a = some (.tup ws) ∧ Rps e w ds ws := by
  rcases r with r | r <;> cases r
  rename_i h r
  exact ⟨_, _, rfl, h, s _ _ h, r⟩
theorem Rb.dic {w : Wd} {H : Hp} {ks vs : List D} {v : V} (s : ∀ a o, w.I a = some o → H a = some o) (r : Rb e w H (.dic ks vs) v) : ∃ d xs, v = .ref d ∧ H d = some (dctO e.P e.w d xs) ∧ Rps e w ks (xs.map kRef) ∧ Rps e w vs (xs.map kVal) ∧ Paired EntD ks xs := by
  rcases r with r | r
  · cases r with
    | dic h r1 r2 p => exact ⟨_, _, rfl, s _ _ h, r1, r2, p⟩
  · cases r with
    | dic h r1 r2 p => exact ⟨_, _, rfl, h, r1, r2, p⟩
theorem Rb.int {w : Wd} {H : Hp} {i : Int} {v : V} (r : Rb e w H (.int i) v) : v = .int i := by
  rcases r with r | r <;> cases r
  rfl
theorem Rb.bl {w : Wd} {H : Hp} {b : Bool} {v : V} (r : Rb e w H (.bl b) v) : v = .bl b := by
  rcases r with r | r <;> cases r
  rfl
theorem Rb.str {w : Wd} {H : Hp} {x : Str} {v : V} (r : Rb e w H (.str x) v) : v = .str x := by
  rcases r with r | r <;> cases r
  rfl
theorem Rb.non {w : Wd} {H : Hp} {v : V} (r : Rb e w H .non v) : v = .non := by
  rcases r with r | r <;> cases r
  rfl
theorem Rb.scr {w : Wd} {H : Hp} {ns : List Int} {v : V} (s : ∀ a o, w.I a = some o → H a = some o) (r : Rb e w H (.scr ns) v) : ∃ a, v = .ref a ∧ SqL e.K H a (ns.map V.int) := by
  rcases r with r | r <;> cases r
  rename_i h
  exact ⟨_, rfl, SqL.sub h s⟩
/-- what an operation gives: a value that is no list, or a list that stands; a new list or tuple -/
inductive Fin (e : En) (w : Wd) (H : Hp) : D → V → Hp → Prop
  | id {d : D} {v : V} : Rp e w d v → isLst d = false → Fin e w H d v H
  | lst {ds : List D} {ws : List V} {p : Addr} : H p = none → Rps e w ds ws → Fin e w H (.lst ds) (.ref p) (upd H p (.lst ws))
  | tup {ds : List D} {ws : List V} {p : Addr} : H p = none → Rps e w ds ws → Fin e w H (.tup ds) (.ref p) (upd H p (.tup ws))
  | dic {ks vs : List D} {xs : List Ent} {p : Addr} : H p = none → Rps e w ks (xs.map kRef) → Rps e w vs (xs.map kVal) → Paired EntD ks xs → Fin e w H (.dic ks vs) (.ref p) (upd H p (dctO e.P e.w p xs))
def FinG (e : En) (w : Wd) (H : Hp) (d : D) (v : V) (H' : Hp) : Prop := Fin e w H d v H' ∨ (H' = H ∧ Rp e w d v)

/-! ### data as PyData -/
mutual
theorem Rp.dp {w : Wd} {H : Hp} (s : ∀ a o, w.I a = some o → H a = some o) : ∀ {d : D} {v : V} {x : PyData}, Rp e w d v → d.py = some x → Dp e.K H v x
  | _, _, _, .non, h => by cases h; exact .non
  | _, _, _, .bl b, h => by cases h; exact .bl b
  | _, _, _, .int i, h => by cases h; exact .int i
  | _, _, _, .str x, h => by cases h; exact .str x
  | _, _, _, .tup q r, h => by
    simp only [D.py, Option.map_eq_some_iff] at h
    obtain ⟨xs, h1, rfl⟩ := h
    exact .tup (SqT.of (s _ _ q)) (r.dps s h1)
  | _, _, _, .lst q r, h => by
    simp only [D.py, Option.map_eq_some_iff] at h
    obtain ⟨xs, h1, rfl⟩ := h
    exact .lst (SqL.of (s _ _ q)) (r.dps s h1)
  | _, _, _, .scr _, h => by simp [D.py] at h
  | _, _, _, .fn _, h => by simp [D.py] at h
  | _, _, _, .obj _, h => by simp [D.py] at h
  | _, _, _, .dic _ _ _ _, h => by simp [D.py] at h
theorem Rps.dps {w : Wd} {H : Hp} (s : ∀ a o, w.I a = some o → H a = some o) : ∀ {ds : List D} {vs : List V} {xs : List PyData}, Rps e w ds vs → D.pys ds = some xs → DpAll e.K H vs xs
  | _, _, _, .nil, h => by cases h; exact .nil
  | d :: ds, _, _, .cons r t, h => by
    simp only [D.pys] at h
    cases h1 : d.py with
    | none => rw [h1] at h; simp at h
    | some x =>
      cases h2 : D.pys ds with
      | none => rw [h1, h2] at h; simp at h
      | some xs =>
        rw [h1, h2] at h
        cases h
        exact .cons (r.dp s h1) (t.dps s h2)
end
theorem Rb.dp {w : Wd} {H : Hp} (s : ∀ a o, w.I a = some o → H a = some o) {d : D} {v : V} {x : PyData} (r : Rb e w H d v) (h : d.py = some x) : Dp e.K H v x := by
  rcases r with r | r
  · exact r.dp s h
  · cases r with
    | lst q r =>
      simp only [D.py, Option.map_eq_some_iff] at h
      obtain ⟨xs, h1, rfl⟩ := h
      exact .lst (SqL.of q) (r.dps s h1)
    | dic => simp [D.py] at h
/-! ### keys -/
mutual
theorem Rp.key {w : Wd} {H : Hp} (s : ∀ a o, w.I a = some o → H a = some o) : ∀ {d : D} {v : V} {k : NestedKey}, Rp e w d v → nkD d = some k → KeyV H k v
  | _, _, _, .non, h => by cases h; exact .non
  | _, _, _, .bl b, h => by simp [nkD] at h
  | _, _, _, .int i, h => by cases h; exact .num i
  | _, _, _, .str x, h => by cases h; exact .text x
  | _, _, _, .tup q r, h => by
    simp only [nkD, Option.map_eq_some_iff] at h
    obtain ⟨ks, h1, rfl⟩ := h
    exact .tup (s _ _ q) (r.keys s h1)
  | _, _, _, .lst _ _, h => by simp [nkD] at h
  | _, _, _, .scr _, h => by simp [nkD] at h
  | _, _, _, .fn _, h => by simp [nkD] at h
  | _, _, _, .obj _, h => by simp [nkD] at h
  | _, _, _, .dic _ _ _ _, h => by simp [nkD] at h
theorem Rps.keys {w : Wd} {H : Hp} (s : ∀ a o, w.I a = some o → H a = some o) : ∀ {ds : List D} {vs : List V} {ks : List NestedKey}, Rps e w ds vs → nkDs ds = some ks → KeyVs H ks vs
  | _, _, _, .nil, h => by cases h; exact .nil
  | d :: ds, _, _, .cons r t, h => by
    simp only [nkDs] at h
    cases h1 : nkD d with
    | none => rw [h1] at h; simp at h
    | some x =>
      cases h2 : nkDs ds with
      | none => rw [h1, h2] at h; simp at h
      | some xs =>
        rw [h1, h2] at h
        cases h
        exact .cons (r.key s h1) (t.keys s h2)
end
theorem nks_of {n : Nat} : ∀ {ds : List D}, (∀ d ∈ ds, ∃ k, nkD d = some k ∧ k.depth ≤ n) → ∃ ks, nkDs ds = some ks ∧ NestedKey.depthAll ks ≤ n
  | [], _ => ⟨[], rfl, by simp [NestedKey.depthAll]⟩
  | d :: ds, h => by
    obtain ⟨k, h1, h2⟩ := h d (by simp)
    obtain ⟨ks, h3, h4⟩ := nks_of (ds := ds) fun x hx => h x (by simp [hx])
    exact ⟨k :: ks, by simp [nkDs, h1, h3], by simp [NestedKey.depthAll]; omega⟩
theorem isKey_nk : ∀ (n : Nat) (d : D), isKey n d = true → ∃ k, nkD d = some k ∧ k.depth ≤ n
  | n, .non, _ => ⟨.none, rfl, by simp [NestedKey.depth]⟩
  | n, .int i, _ => ⟨.num i, rfl, by simp [NestedKey.depth]⟩
  | n, .str x, _ => ⟨.text x, rfl, by simp [NestedKey.depth]⟩
  | 0, .tup ds, h => by simp [isKey] at h
  | n + 1, .tup ds, h => by
    simp only [isKey, List.all_eq_true] at h
    obtain ⟨ks, h1, h2⟩ := nks_of fun d hd => isKey_nk n d (h d hd)
    exact ⟨.tup ks, by simp [nkD, h1], by simp [NestedKey.depth]; omega⟩
  | n, .bl _, h => by cases n <;> simp [isKey] at h
  | n, .lst _, h => by cases n <;> simp [isKey] at h
  | n, .scr _, h => by cases n <;> simp [isKey] at h
  | n, .fn _, h => by cases n <;> simp [isKey] at h
  | n, .obj _, h => by cases n <;> simp [isKey] at h
  | n, .dic _ _, h => by cases n <;> simp [isKey] at h
mutual
theorem keq_nk : ∀ {a b : D} {x y : NestedKey}, nkD a = some x → nkD b = some y → keq a b = NestedKey.beq x y
  | .non, b, x, y, h1, h2 => by
    cases h1
    cases b <;> simp only [nkD, Option.some.injEq, Option.map_eq_some_iff, reduceCtorEq] at h2 <;> first | (subst h2; simp [keq, NestedKey.beq]; done) | (obtain ⟨_, _, rfl⟩ := h2; simp [keq, NestedKey.beq])
  | .int i, b, x, y, h1, h2 => by
    cases h1
    cases b <;> simp only [nkD, Option.some.injEq, Option.map_eq_some_iff, reduceCtorEq] at h2 <;> first | (subst h2; simp [keq, NestedKey.beq]; done) | (subst h2; simp only [keq, NestedKey.beq]; rw [Bool.eq_iff_iff]; simp; done) | (obtain ⟨_, _, rfl⟩ := h2; simp [keq, NestedKey.beq])
  | .str i, b, x, y, h1, h2 => by
    cases h1
    cases b <;> simp only [nkD, Option.some.injEq, Option.map_eq_some_iff, reduceCtorEq] at h2 <;> first | (subst h2; simp [keq, NestedKey.beq]; done) | (obtain ⟨_, _, rfl⟩ := h2; simp [keq, NestedKey.beq])
  | .tup as, b, x, y, h1, h2 => by
    simp only [nkD, Option.map_eq_some_iff] at h1
    obtain ⟨xs, h1, rfl⟩ := h1
    cases b <;> simp only [nkD, Option.some.injEq, Option.map_eq_some_iff, reduceCtorEq] at h2 <;> first | (subst h2; simp [keq, NestedKey.beq]; done) | (obtain ⟨ys, h2, rfl⟩ := h2; simp only [keq, NestedKey.beq]; exact keqs_nk h1 h2)
  | .bl _, _, _, _, h1, _ => by simp [nkD] at h1
  | .lst _, _, _, _, h1, _ => by simp [nkD] at h1
  | .scr _, _, _, _, h1, _ => by simp [nkD] at h1
  | .fn _, _, _, _, h1, _ => by simp [nkD] at h1
  | .obj _, _, _, _, h1, _ => by simp [nkD] at h1
  | .dic _ _, _, _, _, h1, _ => by simp [nkD] at h1
theorem keqs_nk : ∀ {as bs : List D} {xs ys : List NestedKey}, nkDs as = some xs → nkDs bs = some ys → keqs as bs = NestedKey.beqAll xs ys
  | [], [], _, _, h1, h2 => by cases h1; cases h2; rfl
  | [], b :: bs, _, _, h1, h2 => by
    cases h1
    simp only [nkDs] at h2
    split at h2 <;> cases h2
    simp [keqs, NestedKey.beqAll]
  | a :: as, [], _, _, h1, h2 => by
    cases h2
    simp only [nkDs] at h1
    split at h1 <;> cases h1
    simp [keqs, NestedKey.beqAll]
  | a :: as, b :: bs, _, _, h1, h2 => by
    simp only [nkDs] at h1 h2
    cases p1 : nkD a with
    | none => rw [p1] at h1; cases h1
    | some x =>
    cases p2 : nkDs as with
    | none => rw [p1, p2] at h1; cases h1
    | some xs =>
    cases q1 : nkD b with
    | none => rw [q1] at h2; cases h2
    | some y =>
    cases q2 : nkDs bs with
    | none => rw [q1, q2] at h2; cases h2
    | some ys =>
    rw [p1, p2] at h1
    rw [q1, q2] at h2
    cases h1
    cases h2
    simp only [keqs, NestedKey.beqAll]
    rw [keq_nk p1 q1, keqs_nk p2 q2]
end
theorem keq_dec {a b : D} {x y : NestedKey} (h1 : nkD a = some x) (h2 : nkD b = some y) : keq a b = decide (x = y) := by
  rw [keq_nk h1 h2, NestedKey.decide_eq]
theorem keyD_nk {d : D} (h : keyD d = true) : ∃ k, nkD d = some k ∧ k.depth ≤ 8 ∧ ∃ ds, d = .tup ds := by
  cases d <;> first | (simp [keyD] at h; done) | skip
  obtain ⟨k, h1, h2⟩ := isKey_nk 8 _ h
  exact ⟨k, h1, h2, _, rfl⟩
theorem Rb.keyOk {w : Wd} {H : Hp} (s : ∀ a o, w.I a = some o → H a = some o) {d : D} {v : V} (r : Rb e w H d v) (h : keyD d = true) : ∃ a k, v = .ref a ∧ nkD d = some k ∧ KeyOk H k a := by
  obtain ⟨k, h1, h2, ds, rfl⟩ := keyD_nk h
  obtain ⟨a, ws, rfl, h3, h4, h5⟩ := r.tup s
  exact ⟨a, k, rfl, h1, Rp.key s (.tup h3 h5) h1, h2⟩
theorem ents_ok {w : Wd} {H : Hp} (s : ∀ a o, w.I a = some o → H a = some o) : ∀ {ks : List D} {xs : List Ent}, Rps e w ks (xs.map kRef) → Paired EntD ks xs → KeysOk H xs
  | _, [], _, _, x, hx => by cases hx
  | _, y :: ys, .cons r t, .cons p q, x, hx => by
    rcases List.mem_cons.mp hx with rfl | hx
    · obtain ⟨k, h1, h2, _⟩ := keyD_nk p.2
      rw [p.1] at h1
      cases h1
      exact ⟨Rp.key s r p.1, h2⟩
    · exact ents_ok s t q x hx
theorem has_val {x : D} {k : NestedKey} (hx : nkD x = some k) : ∀ {ks : List D} {xs : List Ent}, Paired EntD ks xs → dHas ks x = (valE xs k).isSome
  | _, _, .nil => rfl
  | d :: ks, y :: xs, .cons p t => by
    have ih := has_val hx t
    unfold dHas valE at ih ⊢
    rw [List.any_cons, List.find?_cons, keq_dec p.1 hx, ih]
    by_cases h : y.1 = k <;> simp [h]
theorem set_paired {k : NestedKey} {v : V} : ∀ {ks : List D} {xs : List Ent}, Paired EntD ks xs → Paired EntD ks (xs.map (setE k v))
  | _, _, .nil => .nil
  | _, y :: xs, .cons p t => by
    refine .cons ?_ (set_paired t)
    unfold setE
    split
    · exact p
    · exact p
theorem set_refs {k : NestedKey} {v : V} (xs : List Ent) : (xs.map (setE k v)).map kRef = xs.map kRef := by
  rw [List.map_map]
  refine List.map_congr_left fun x _ => ?_
  show kRef (setE k v x) = kRef x
  unfold setE kRef
  split <;> rfl
theorem set_vals {w : Wd} {x y : D} {k : NestedKey} {v : V} (hx : nkD x = some k) (ry : Rp e w y v) : ∀ {ks vs : List D} {xs : List Ent}, Paired EntD ks xs → Rps e w vs (xs.map kVal) → Rps e w (dSet ks vs x y) ((xs.map (setE k v)).map kVal)
  | _, _, _, .nil, .nil => .nil
  | d :: ks, u :: vs, z :: xs, .cons p t, .cons r q => by
    have ih := set_vals hx ry t q
    refine Rps.cons ?_ ih
    rw [keq_dec p.1 hx]
    unfold setE kVal
    by_cases h : z.1 = k
    · simp only [h, decide_true, if_true]; exact ry
    · simp only [h, decide_false, if_false]; exact r
theorem put_ents {w : Wd} {x y : D} {k : NestedKey} {a : Addr} {v : V} (hx : nkD x = some k) (hk : keyD x = true) (rx : Rp e w x (.ref a)) (ry : Rp e w y v) {ks vs : List D} {xs : List Ent} (p : Paired EntD ks xs) (r1 : Rps e w ks (xs.map kRef)) (r2 : Rps e w vs (xs.map kVal)) :
    ∃ ks' vs', dPut ks vs x y = .dic ks' vs' ∧ Rps e w ks' ((putE xs k a v).map kRef) ∧ Rps e w vs' ((putE xs k a v).map kVal) ∧ Paired EntD ks' (putE xs k a v) := by
  unfold dPut putE
  rw [has_val hx p]
  by_cases h : (valE xs k).isSome = true
  · rw [if_pos h, if_pos h]
    exact ⟨_, _, rfl, by rw [set_refs]; exact r1, set_vals hx ry p r2, set_paired p⟩
  · rw [if_neg h, if_neg h]
    refine ⟨_, _, rfl, ?_, ?_, paired_app p (.cons ⟨hx, hk⟩ .nil)⟩
    · rw [List.map_append]; exact r1.append (.cons rx .nil)
    · rw [List.map_append]; exact r2.append (.cons ry .nil)
theorem get_val {w : Wd} {x : D} {k : NestedKey} (hx : nkD x = some k) : ∀ {ks vs : List D} {xs : List Ent} {y : D}, Paired EntD ks xs → Rps e w vs (xs.map kVal) → dGet ks vs x = some y → ∃ v, valE xs k = some v ∧ Rp e w y v
  | _, _, _, _, .nil, .nil, h => by cases h
  | d :: ks, u :: vs, z :: xs, y, .cons p t, .cons r q, h => by
    unfold dGet at h
    rw [keq_dec p.1 hx] at h
    by_cases g : z.1 = k
    · simp only [g, decide_true, if_true, Option.some.injEq] at h
      subst h
      exact ⟨kVal z, by simp [valE, g, kVal], r⟩
    · simp only [g, decide_false] at h
      obtain ⟨v, h1, h2⟩ := get_val hx t q h
      exact ⟨v, by simpa [valE, g] using h1, h2⟩

/-! ### operators -/
def pyB : BOp → Operator
  | .add => .Add | .sub => .Sub | .mul => .Mult | .fdiv => .FloorDiv | .mod => .Mod | .pow => .Pow
def pyC : COp → CmpOp
  | .eq => .Eq | .ne => .NotEq | .lt => .Lt | .le => .LtE | .gt => .Gt | .ge => .GtE | .is => .Is | .isn => .IsNot | .inn => .In | .nin => .NotIn
/-- two values as data, what f gives of them -/
def r2 (e : En) (f : D → D → Option D) : R2 := fun x y H Q => ∃ w a b d, (∀ p o, w.I p = some o → H p = some o) ∧ Rb e w H a x ∧ Rb e w H b y ∧ f a b = some d ∧ ∀ v H', Fin e w H d v H' → Q v H'
/-- .. that may be an elder list -/
def r2G (e : En) (f : D → D → Option D) : R2 := fun x y H Q => ∃ w a b d, (∀ p o, w.I p = some o → H p = some o) ∧ Rb e w H a x ∧ Rb e w H b y ∧ f a b = some d ∧ ∀ v H', FinG e w H d v H' → Q v H'
variable {X : Cx}
theorem OpR.imp {f : Value → Value → Sem Value} {r r' : R2} (h : OpR X f r) (i : ∀ x y H Q, r' x y H Q → r x y H Q) : OpR X f r' := fun pins s σ H x y v u Q I rx ry q => h pins s σ H x y v u Q I rx ry (i x y H Q q)
end Mi
/-! Part B2: operations upon values keep to the machine. -/
namespace Mi
open PySem PySem.Spec PyProof.Rows L2
variable {e : En} {X : Cx}
theorem FinG.of {w : Wd} {H : Hp} {d : D} {v : V} (r : Rp e w d v) : FinG e w H d v H := .inr ⟨rfl, r⟩
theorem o_add (hK : X.K = e.K) : OpR X (binaryOp .Add) (r2 e (opB .add)) := by
  refine OpR.imp ((op_add.or op_add_str).or (op_catA.or op_cat)) ?_
  rintro x y H Q ⟨w, a, b, d, s, ra, rb, h, q⟩
  have h : addD a b = some d := h
  unfold addD at h
  split at h
  · cases h; exact .inl (.inl ⟨_, _, ra.int, rb.int, q _ _ (.id (.int _) rfl)⟩)
  · split at h <;> cases h
    refine .inl (.inr ⟨_, _, ra.str, rb.str, by assumption, q _ _ (.id (.str _) rfl)⟩)
  · split at h <;> cases h
    rename_i hl
    obtain ⟨p, ws, rfl, hp, hH, r1⟩ := ra.tup s
    obtain ⟨p', ws', rfl, hp', hH', r2⟩ := rb.tup s
    refine .inr (.inl ⟨p, p', ws, ws', rfl, rfl, hK ▸ SqT.of hH, hK ▸ SqT.of hH', by rw [← r1.length, ← r2.length]; exact hl, fun z => ?_, fun _ z => ?_, fun _ _ t ht => q _ _ (.tup ht (r1.append r2))⟩)
    · subst z
      have z := r1.length
      simp at z
      subst z
      exact q _ _ (.id (.tup hp' r2) rfl)
    · subst z
      have z := r2.length
      simp at z
      subst z
      rw [List.append_nil] at q
      exact q _ _ (.id (.tup hp r1) rfl)
  · split at h <;> cases h
    rename_i hl
    obtain ⟨p, ws, rfl, hH, r1⟩ := ra.lst s
    obtain ⟨p', ws', rfl, hH', r2⟩ := rb.lst s
    exact .inr (.inr ⟨p, p', ws, ws', rfl, rfl, hH, hH', by rw [← r1.length, ← r2.length]; exact hl, fun t ht => q _ _ (.lst ht (r1.append r2))⟩)
  · cases h
theorem o_sub : OpR X (binaryOp .Sub) (r2 e (opB .sub)) := by
  refine OpR.imp op_sub ?_
  rintro x y H Q ⟨w, a, b, d, s, ra, rb, h, q⟩
  have h : subD a b = some d := h
  unfold subD at h
  split at h <;> cases h
  exact ⟨_, _, ra.int, rb.int, q _ _ (.id (.int _) rfl)⟩
theorem mulOk_ok {i j : Int} (h : mulOk i j = true) : CMulW i j := of_decide_eq_true (p := i.natAbs.log2 + j.natAbs.log2 < 1000000) h
theorem o_mul (hK : X.K = e.K) : OpR X (binaryOp .Mult) (r2 e (opB .mul)) := by
  refine OpR.imp ((op_mulW.or op_rep).or op_repT) ?_
  rintro x y H Q ⟨w, a, b, d, s, ra, rb, h, q⟩
  have h : mulD a b = some d := h
  unfold mulD at h
  split at h
  · split at h
    · cases h
      exact .inl (.inl ⟨_, _, ra.int, rb.int, mulOk_ok (by assumption), q _ _ (.id (.int _) rfl)⟩)
    · cases h
  · split at h
    · cases h
      rename_i hl
      simp only [Bool.and_eq_true, decide_eq_true_eq] at hl
      obtain ⟨p, ws, rfl, hH, r1⟩ := ra.lst s
      exact .inl (.inr ⟨p, _, ws, rfl, rb.int, hH, hl.1.1, hl.1.2, by rw [← r1.length]; exact hl.2, fun t ht => q _ _ (.lst ht (r1.rep _))⟩)
    · cases h
  · split at h
    · cases h
      rename_i hl
      simp only [Bool.and_eq_true, decide_eq_true_eq] at hl
      obtain ⟨p, ws, rfl, hp, hH, r1⟩ := ra.tup s
      refine .inr ⟨p, _, ws, rfl, rb.int, hK ▸ SqT.of hH, fun z => ?_, hl.1.1.2, hl.1.2, by rw [← r1.length]; exact hl.2, fun t ht => q _ _ (.tup ht (r1.rep _))⟩
      subst z
      have z := r1.length
      simp at z
      have hl := hl.1.1.1
      rw [z] at hl
      simp at hl
    · cases h
  · cases h
theorem divOk_ok {j : Int} (h : divOk j = true) (i : Int) : CDivW i j := by
  unfold divOk at h
  simp only [Bool.and_eq_true, decide_eq_true_eq] at h
  exact h
theorem o_fdiv : OpR X (binaryOp .FloorDiv) (r2 e (opB .fdiv)) := by
  refine OpR.imp op_fdivW ?_
  rintro x y H Q ⟨w, a, b, d, s, ra, rb, h, q⟩
  have h : fdivD a b = some d := h
  unfold fdivD at h
  split at h
  · split at h
    · cases h
      exact ⟨_, _, ra.int, rb.int, divOk_ok (by assumption) _, q _ _ (.id (.int _) rfl)⟩
    · cases h
  · cases h
theorem o_mod : OpR X (binaryOp .Mod) (r2 e (opB .mod)) := by
  refine OpR.imp op_mod ?_
  rintro x y H Q ⟨w, a, b, d, s, ra, rb, h, q⟩
  have h : modD a b = some d := h
  unfold modD at h
  split at h
  · split at h
    · cases h
      exact ⟨_, _, ra.int, rb.int, by assumption, q _ _ (.id (.int _) rfl)⟩
    · cases h
  · cases h
theorem o_pow : OpR X (binaryOp .Pow) (r2 e (opB .pow)) := by
  refine OpR.imp op_pow ?_
  rintro x y H Q ⟨w, a, b, d, s, ra, rb, h, q⟩
  have h : powD a b = some d := h
  unfold powD at h
  split at h
  · split at h
    · cases h
      rename_i hl
      unfold powOk at hl
      simp only [Bool.and_eq_true, decide_eq_true_eq] at hl
      exact ⟨_, _, ra.int, rb.int, ⟨hl.1.1, hl.1.2, hl.2⟩, q _ _ (.id (.int _) rfl)⟩
    · cases h
  · cases h
theorem o_bin (hK : X.K = e.K) : ∀ op, OpR X (binaryOp (pyB op)) (r2 e (opB op))
  | .add => o_add hK
  | .sub => o_sub
  | .mul => o_mul hK
  | .fdiv => o_fdiv
  | .mod => o_mod
  | .pow => o_pow

/-! ### comparisons -/
def rC (e : En) (op : COp) : R2 := r2 e fun x y => (opC op x y).map .bl
theorem Fin.bl' {w : Wd} {H : Hp} {b : Bool} {Q : V → Hp → Prop} (q : ∀ v H', Fin e w H (.bl b) v H' → Q v H') : Q (.bl b) H := q _ _ (.id (.bl _) rfl)
theorem map_bl {o : Option Bool} {d : D} (h : o.map D.bl = some d) : ∃ b, o = some b ∧ d = .bl b := by
  cases o with
  | none => simp at h
  | some b => exact ⟨b, rfl, by simpa using h.symm⟩
theorem map_not {o : Option Bool} {d : Bool} (h : o.map (!·) = some d) : ∃ b, o = some b ∧ d = !b := by
  cases o with
  | none => simp at h
  | some b => exact ⟨b, rfl, by simpa using h.symm⟩
theorem eqD_some {a b : D} {t : Bool} (h : eqD a b = some t) : ∃ x y, a.py = some x ∧ b.py = some y ∧ SeqAt.shaped x = true ∧ SeqAt.shaped y = true ∧ t = PyData.eqv x y := by
  unfold eqD at h
  split at h
  · rename_i x y h1 h2
    split at h
    · cases h
      rename_i hs
      simp only [Bool.and_eq_true] at hs
      exact ⟨x, y, h1, h2, hs.1, hs.2, rfl⟩
    · cases h
  · cases h
theorem o_eq (hK : X.K = e.K) (hu : X.A.units + 64 < cLine) : OpR X (compareOp .Eq) (rC e .eq) := by
  refine OpR.imp (op_eqD hu) ?_
  rintro x y H Q ⟨w, a, b, d, s, ra, rb, h, q⟩
  obtain ⟨t, h5, rfl⟩ := map_bl h
  obtain ⟨p, r, h1, h2, h3, h4, rfl⟩ := eqD_some h5
  exact ⟨p, r, hK ▸ ra.dp s h1, hK ▸ rb.dp s h2, h3, h4, Fin.bl' q⟩
theorem o_ne (hK : X.K = e.K) (hu : X.A.units + 64 < cLine) : OpR X (compareOp .NotEq) (rC e .ne) := by
  refine OpR.imp (op_neD hu) ?_
  rintro x y H Q ⟨w, a, b, d, s, ra, rb, h, q⟩
  obtain ⟨t, h1, rfl⟩ := map_bl h
  obtain ⟨u, h6, rfl⟩ := map_not h1
  obtain ⟨p, r, g1, g2, g3, g4, rfl⟩ := eqD_some h6
  exact ⟨p, r, hK ▸ ra.dp s g1, hK ▸ rb.dp s g2, g3, g4, Fin.bl' q⟩
theorem o_cmp {op : CmpOp} {f : Int → Int → Bool} (h : OpR X (compareOp op) (rI0 fun i j => .bl (f i j))) : OpR X (compareOp op) (r2 e fun x y => (cmpD f x y).map .bl) := by
  refine OpR.imp h ?_
  rintro x y H Q ⟨w, a, b, d, s, ra, rb, h, q⟩
  obtain ⟨t, h1, rfl⟩ := map_bl h
  unfold cmpD at h1
  split at h1 <;> cases h1
  exact ⟨_, _, ra.int, rb.int, Fin.bl' q⟩
def isNon : D → Bool
  | .non => true
  | _ => false
theorem Rb.kind {w : Wd} {H : Hp} {d : D} {v : V} (r : Rb e w H d v) : decide (v = V.non) = isNon d := by
  rcases r with r | r
  · cases r <;> rfl
  · cases r <;> rfl
theorem o_is : OpR X (compareOp .Is) (rC e .is) := by
  refine OpR.imp (op_isN.or op_isBl) ?_
  rintro x y H Q ⟨w, a, b, d, s, ra, rb, h, q⟩
  obtain ⟨t, h1, rfl⟩ := map_bl h
  have h1 : isD a b = some t := h1
  have kd := ra.kind
  unfold isD at h1
  split at h1 <;> cases h1
  all_goals first
    | (refine .inl ⟨rb.non, ?_⟩; rw [kd]; exact Fin.bl' q)
    | (refine .inr ⟨_, _, ra.bl, rb.bl, ?_⟩; rename_i u v; have z : decide (v = u) = (u == v) := by cases u <;> cases v <;> rfl
       rw [z]; exact Fin.bl' q)
theorem o_isn : OpR X (compareOp .IsNot) (rC e .isn) := by
  refine OpR.imp (op_notN.or op_notBl) ?_
  rintro x y H Q ⟨w, a, b, d, s, ra, rb, h, q⟩
  obtain ⟨t, h1, rfl⟩ := map_bl h
  obtain ⟨u, h2, rfl⟩ := map_not h1
  have kd := ra.kind
  unfold isD at h2
  split at h2 <;> cases h2
  all_goals first
    | (refine .inl ⟨rb.non, ?_⟩; rw [kd]; exact Fin.bl' q)
    | (refine .inr ⟨_, _, ra.bl, rb.bl, ?_⟩; rename_i u v; have z : decide (v = u) = (u == v) := by cases u <;> cases v <;> rfl
       rw [z]; exact Fin.bl' q)
theorem Rps.ints {w : Wd} : ∀ {ds : List D} {vs : List V} {ns : List Int}, Rps e w ds vs → intsD ds = some ns → vs = ns.map V.int
  | _, _, ns, .nil, h => by cases h; rfl
  | .int b :: ds, _, ns, .cons r t, h => by
    simp only [Mi.intsD, Option.map_eq_some_iff] at h
    obtain ⟨cs, h1, rfl⟩ := h
    cases r
    rw [t.ints h1]; rfl
  | .non :: _, _, _, .cons _ _, h => by simp [Mi.intsD] at h
  | .bl _ :: _, _, _, .cons _ _, h => by simp [Mi.intsD] at h
  | .str _ :: _, _, _, .cons _ _, h => by simp [Mi.intsD] at h
  | .tup _ :: _, _, _, .cons _ _, h => by simp [Mi.intsD] at h
  | .lst _ :: _, _, _, .cons _ _, h => by simp [Mi.intsD] at h
  | .scr _ :: _, _, _, .cons _ _, h => by simp [Mi.intsD] at h
  | .fn _ :: _, _, _, .cons _ _, h => by simp [Mi.intsD] at h
  | .obj _ :: _, _, _, .cons _ _, h => by simp [Mi.intsD] at h
  | .dic _ _ :: _, _, _, .cons _ _, h => by simp [Mi.intsD] at h
theorem inV_ints (i : Int) : ∀ ns : List Int, inV (.int i) (ns.map V.int) = ns.any (· == i)
  | [] => rfl
  | n :: ns => by
    have := inV_ints i ns
    unfold inV at this ⊢
    rw [List.map_cons, List.any_cons, List.any_cons, this]
    rfl
theorem flat_ints (ns : List Int) : (ns.map V.int).all flatV = true := by
  rw [List.all_map]
  exact List.all_eq_true.mpr fun _ _ => rfl
/-- x in y: what stands behind it -/
theorem inD_some {w : Wd} {H : Hp} {x y : V} {a b : D} {t : Bool} (s : ∀ p o, w.I p = some o → H p = some o) (ra : Rb e w H a x) (rb : Rb e w H b y) (h : inD a b = some t) :
    (∃ d ds, Dp e.K H x d ∧ Dp e.K H y (.list ds) ∧ SeqAt.shaped d = true ∧ SeqAt.shaped (.list ds) = true ∧ t = ds.any fun z => PyData.eqv z d) ∨ (∃ p xs, y = .ref p ∧ SqT e.K H p xs ∧ flatV x = true ∧ xs.all flatV = true ∧ t = inV x xs) ∨
    (∃ (a d : Addr) (k : NestedKey) (xs : List Ent), x = .ref a ∧ y = .ref d ∧ H d = some (dctO e.P e.w d xs) ∧ KeysOk H xs ∧ KeyOk H k a ∧ t = (valE xs k).isSome) := by
  unfold inD at h
  split at h
  · rename_i ys
    split at h
    · rename_i d ds h1 h2
      split at h
      · cases h
        rename_i hs
        simp only [Bool.and_eq_true] at hs
        exact .inl ⟨d, ds, ra.dp s h1, rb.dp s (by simp [D.py, h2]), hs.1, hs.2, rfl⟩
      · cases h
    · cases h
  · rename_i ys
    split at h
    · simp only [Option.map_eq_some_iff] at h
      obtain ⟨ns, h1, rfl⟩ := h
      obtain ⟨p, ws, rfl, _, hH, r1⟩ := rb.tup s
      cases r1.ints h1
      cases ra.int
      exact .inr (.inl ⟨p, _, rfl, SqT.of hH, rfl, flat_ints ns, (inV_ints _ ns).symm⟩)
    · cases h
  · split at h
    · rename_i hk
      cases h
      obtain ⟨d, xs, rfl, hd, r1, r2, p⟩ := rb.dic s
      obtain ⟨a, k, rfl, h1, h2⟩ := ra.keyOk s hk
      exact .inr (.inr ⟨a, d, k, xs, rfl, rfl, hd, ents_ok s r1 p, h2, has_val h1 p⟩)
    · cases h
  · cases h
theorem o_in (hK : X.K = e.K) (hP : X.prog = e.P) (hw : X.w = e.w) (hu : X.A.units + 65 < cLine) : OpR X (compareOp .In) (rC e .inn) := by
  refine OpR.imp ((op_inD hu).or (op_in_seq.or (op_inK hu))) ?_
  rintro x y H Q ⟨w, a, b, d, s, ra, rb, h, q⟩
  obtain ⟨t, h1, rfl⟩ := map_bl h
  rcases inD_some s ra rb h1 with ⟨d, ds, a1, a2, a3, a4, rfl⟩ | ⟨p, xs, a1, a2, a3, a4, rfl⟩ | ⟨a, d, k, xs, a1, a2, a3, a4, a5, rfl⟩
  · exact .inl ⟨d, ds, hK ▸ a1, hK ▸ a2, a3, a4, Fin.bl' q⟩
  · exact .inr (.inl ⟨p, xs, a1, .inr (hK ▸ a2), a3, a4, Fin.bl' q⟩)
  · exact .inr (.inr ⟨a, d, k, xs, a1, a2, by rw [hP, hw]; exact a3, a4, a5, Fin.bl' q⟩)
theorem o_nin (hK : X.K = e.K) (hP : X.prog = e.P) (hw : X.w = e.w) (hu : X.A.units + 65 < cLine) : OpR X (compareOp .NotIn) (rC e .nin) := by
  refine OpR.imp ((op_notInD hu).or (op_notIn_seq.or (op_ninK hu))) ?_
  rintro x y H Q ⟨w, a, b, d, s, ra, rb, h, q⟩
  obtain ⟨t, h1, rfl⟩ := map_bl h
  obtain ⟨u, h6, rfl⟩ := map_not h1
  rcases inD_some s ra rb h6 with ⟨d, ds, a1, a2, a3, a4, rfl⟩ | ⟨p, xs, a1, a2, a3, a4, rfl⟩ | ⟨a, d, k, xs, a1, a2, a3, a4, a5, rfl⟩
  · exact .inl ⟨d, ds, hK ▸ a1, hK ▸ a2, a3, a4, Fin.bl' q⟩
  · exact .inr (.inl ⟨p, xs, a1, .inr (hK ▸ a2), a3, a4, Fin.bl' q⟩)
  · exact .inr (.inr ⟨a, d, k, xs, a1, a2, by rw [hP, hw]; exact a3, a4, a5, Fin.bl' q⟩)
theorem o_cmpC (hK : X.K = e.K) (hP : X.prog = e.P) (hw : X.w = e.w) (hu : X.A.units + 65 < cLine) : ∀ op, OpR X (compareOp (pyC op)) (rC e op)
  | .eq => o_eq hK (by omega)
  | .ne => o_ne hK (by omega)
  | .lt => o_cmp op_lt
  | .le => o_cmp op_le
  | .gt => o_cmp op_gt
  | .ge => o_cmp op_ge
  | .is => o_is
  | .isn => o_isn
  | .inn => o_in hK hP hw hu
  | .nin => o_nin hK hP hw hu
end Mi
/-! Part B3: built-in functions, places, slices upon values. -/
namespace Mi
open PySem PySem.Spec PyProof.Rows L2
variable {e : En} {X : Cx}
inductive Rbs (e : En) (w : Wd) (H : Hp) : List D → List V → Prop
  | nil : Rbs e w H [] []
  | cons {d : D} {v : V} {ds : List D} {vs : List V} : Rb e w H d v → Rbs e w H ds vs → Rbs e w H (d :: ds) (v :: vs)
def rF (e : En) (f : Bi) : List V → Hp → VK → Prop := fun vs H Q => ∃ w ds d, (∀ p o, w.I p = some o → H p = some o) ∧ Rbs e w H ds vs ∧ opF f ds = some d ∧ ∀ v H', Fin e w H d v H' → Q v H'
theorem CallR.imp {f : Value} {r r' : List V → Hp → VK → Prop} (h : CallR X f r) (i : ∀ xs H Q, r' xs H Q → r xs H Q) : CallR X f r' := fun pins s σ H xs us Q I r q => h pins s σ H xs us Q I r (i xs H Q q)
theorem CallR.or {f : Value} {r r' : List V → Hp → VK → Prop} (h : CallR X f r) (h' : CallR X f r') : CallR X f (fun xs H Q => r xs H Q ∨ r' xs H Q) := fun pins s σ H xs us Q I rr q => q.elim (fun q => h pins s σ H xs us Q I rr q) fun q => h' pins s σ H xs us Q I rr q
theorem Rbs.one {w : Wd} {H : Hp} {d : D} {vs : List V} (r : Rbs e w H [d] vs) : ∃ v, vs = [v] ∧ Rb e w H d v := by
  cases r with
  | cons r t => cases t; exact ⟨_, rfl, r⟩
theorem Rbs.two {w : Wd} {H : Hp} {d d' : D} {vs : List V} (r : Rbs e w H [d, d'] vs) : ∃ v v', vs = [v, v'] ∧ Rb e w H d v ∧ Rb e w H d' v' := by
  cases r with
  | cons r t =>
    cases t with
    | cons r' t' => cases t'; exact ⟨_, _, rfl, r, r'⟩
theorem f_len (hK : X.K = e.K) : CallR X (.builtin "len") (rF e .len) := by
  refine CallR.imp (call_len_seq.or call_len_str) ?_
  rintro vs H Q ⟨w, ds, d, s, rs, h, q⟩
  have h : opF .len ds = some d := h
  unfold opF at h
  split at h <;> try (first | contradiction | cases h)
  · obtain ⟨v, rfl, r⟩ := rs.one
    obtain ⟨a, ws, rfl, hH, r1⟩ := r.lst s
    exact .inl ⟨a, ws, rfl, .inl (SqL.of hH), by rw [← r1.length]; exact q _ _ (.id (.int _) rfl)⟩
  · obtain ⟨v, rfl, r⟩ := rs.one
    obtain ⟨a, ws, rfl, _, hH, r1⟩ := r.tup s
    exact .inl ⟨a, ws, rfl, .inr (SqT.of hH), by rw [← r1.length]; exact q _ _ (.id (.int _) rfl)⟩
  · obtain ⟨v, rfl, r⟩ := rs.one
    obtain ⟨a, rfl, hs⟩ := r.scr s
    exact .inl ⟨a, _, rfl, .inl (hK ▸ hs), by rw [List.length_map]; exact q _ _ (.id (.int _) rfl)⟩
  · split at h <;> cases h
    obtain ⟨v, rfl, r⟩ := rs.one
    cases r.str
    exact .inr ⟨_, rfl, by assumption, q _ _ (.id (.int _) rfl)⟩
theorem f_abs : CallR X (.builtin "abs") (rF e .abs) := by
  refine CallR.imp call_abs ?_
  rintro vs H Q ⟨w, ds, d, s, rs, h, q⟩
  unfold opF at h
  split at h <;> try (first | contradiction | cases h)
  obtain ⟨v, rfl, r⟩ := rs.one
  cases r.int
  exact ⟨_, rfl, q _ _ (.id (.int _) rfl)⟩
theorem f_int : CallR X (.type "int") (rF e .int) := by
  refine CallR.imp call_int1 ?_
  rintro vs H Q ⟨w, ds, d, s, rs, h, q⟩
  unfold opF at h
  split at h <;> try (first | contradiction | cases h)
  obtain ⟨v, rfl, r⟩ := rs.one
  cases r.int
  exact .inl ⟨_, rfl, q _ _ (.id (.int _) rfl)⟩
theorem f_min2 (hc : X.calm = true) : CallR X (.builtin "min") (rF e .min2) := by
  refine CallR.imp (call_min2 hc) ?_
  rintro vs H Q ⟨w, ds, d, s, rs, h, q⟩
  unfold opF at h
  split at h <;> try (first | contradiction | cases h)
  obtain ⟨v, v', rfl, r, r'⟩ := rs.two
  cases r.int
  cases r'.int
  exact ⟨_, _, rfl, q _ _ (.id (.int _) rfl)⟩
theorem f_max2 (hc : X.calm = true) : CallR X (.builtin "max") (rF e .max2) := by
  refine CallR.imp (call_max2 hc) ?_
  rintro vs H Q ⟨w, ds, d, s, rs, h, q⟩
  unfold opF at h
  split at h <;> try (first | contradiction | cases h)
  obtain ⟨v, v', rfl, r, r'⟩ := rs.two
  cases r.int
  cases r'.int
  exact ⟨_, _, rfl, q _ _ (.id (.int _) rfl)⟩
theorem f_all (hK : X.K = e.K) (hc : X.calm = true) : CallR X (.builtin "all") (rF e .all) := by
  refine CallR.imp (cr_all hc) ?_
  rintro vs H Q ⟨w, ds, d, s, rs, h, q⟩
  unfold opF at h
  split at h <;> try (first | contradiction | cases h)
  obtain ⟨v, rfl, r⟩ := rs.one
  simp only [Option.map_eq_some_iff] at h
  obtain ⟨bs, hb, rfl⟩ := h
  obtain ⟨a, ws, rfl, hH, r1⟩ := r.lst s
  cases r1.bools hb
  exact ⟨a, bs, rfl, SqL.of hH, q _ _ (.id (.bl _) rfl)⟩
theorem f_any (hK : X.K = e.K) (hc : X.calm = true) : CallR X (.builtin "any") (rF e .any) := by
  refine CallR.imp (cr_any hc) ?_
  rintro vs H Q ⟨w, ds, d, s, rs, h, q⟩
  unfold opF at h
  split at h <;> try (first | contradiction | cases h)
  obtain ⟨v, rfl, r⟩ := rs.one
  simp only [Option.map_eq_some_iff] at h
  obtain ⟨bs, hb, rfl⟩ := h
  obtain ⟨a, ws, rfl, hH, r1⟩ := r.lst s
  cases r1.bools hb
  exact ⟨a, bs, rfl, SqL.of hH, q _ _ (.id (.bl _) rfl)⟩
theorem f_tuple (hK : X.K = e.K) : CallR X (.type "tuple") (rF e .tuple) := by
  refine CallR.imp call_tuple_of ?_
  rintro vs H Q ⟨w, ds, d, s, rs, h, q⟩
  unfold opF at h
  split at h <;> try (first | contradiction | cases h)
  · obtain ⟨v, rfl, r⟩ := rs.one
    obtain ⟨a, ws, rfl, hH, r1⟩ := r.lst s
    exact ⟨a, ws, rfl, .inl ⟨SqL.of hH, fun l hl => q _ _ (.tup hl r1)⟩⟩
  · obtain ⟨v, rfl, r⟩ := rs.one
    obtain ⟨a, ws, rfl, hI, hH, r1⟩ := r.tup s
    exact ⟨a, ws, rfl, .inr ⟨SqT.of hH, q _ _ (.id (.tup hI r1) rfl)⟩⟩
theorem f_list (hK : X.K = e.K) : CallR X (.type "list") (rF e .list) := by
  refine CallR.imp call_list_of ?_
  rintro vs H Q ⟨w, ds, d, s, rs, h, q⟩
  unfold opF at h
  split at h <;> try (first | contradiction | cases h)
  · obtain ⟨v, rfl, r⟩ := rs.one
    obtain ⟨a, ws, rfl, hH, r1⟩ := r.lst s
    exact ⟨a, ws, rfl, .inl (SqL.of hH), fun l hl => q _ _ (.lst hl r1)⟩
  · obtain ⟨v, rfl, r⟩ := rs.one
    obtain ⟨a, ws, rfl, hI, hH, r1⟩ := r.tup s
    exact ⟨a, ws, rfl, .inr (SqT.of hH), fun l hl => q _ _ (.lst hl r1)⟩
theorem foldl_best {f : Int → Int → Int} {le : Int → Int → Prop} (refl : ∀ a, le a a) (tr : ∀ a b c, le a b → le b c → le a c) (h1 : ∀ a b, le a (f a b)) (h2 : ∀ a b, le b (f a b)) (h3 : ∀ a b, f a b = a ∨ f a b = b) : ∀ (ns : List Int) (n : Int), ns.foldl f n ∈ n :: ns ∧ ∀ y ∈ n :: ns, le y (ns.foldl f n)
  | [], n => ⟨by simp, fun y hy => by simp at hy; subst hy; exact refl _⟩
  | m :: ns, n => by
    obtain ⟨a, b⟩ := foldl_best refl tr h1 h2 h3 ns (f n m)
    rw [List.foldl_cons]
    refine ⟨?_, fun y hy => ?_⟩
    · rcases List.mem_cons.mp a with a | a
      · rcases h3 n m with z | z <;> rw [a, z] <;> simp
      · exact List.mem_cons_of_mem _ (List.mem_cons_of_mem _ a)
    · rcases List.mem_cons.mp hy with rfl | hy
      · exact tr _ _ _ (h1 _ _) (b _ List.mem_cons_self)
      · rcases List.mem_cons.mp hy with rfl | hy
        · exact tr _ _ _ (h2 _ _) (b _ List.mem_cons_self)
        · exact b _ (by simp [hy])
theorem max_best (ns : List Int) (n : Int) : ns.foldl max n ∈ n :: ns ∧ ∀ y ∈ n :: ns, y ≤ ns.foldl max n := foldl_best (le := (· ≤ ·)) Int.le_refl (fun _ _ _ => Int.le_trans) Int.le_max_left Int.le_max_right (fun a b => by omega) ns n
theorem min_best (ns : List Int) (n : Int) : ns.foldl min n ∈ n :: ns ∧ ∀ y ∈ n :: ns, ns.foldl min n ≤ y := foldl_best (le := fun a b => b ≤ a) Int.le_refl (fun _ _ _ a b => Int.le_trans b a) Int.min_le_left Int.min_le_right (fun a b => by omega) ns n
theorem reads_ints {h : Heap} : ∀ {us : List Value} {ns : List Int}, IntsAre us ns → PySem.ReadsAll h us (ns.map .int) []
  | _, _, r => by
    induction r with
    | nil => exact .nil
    | cons n t _ ih => exact PySem.ReadsAll.cons (as := []) (bs := []) (.int n t) ih
theorem alike_ints (ns : List Int) : PySem.W.AlikeAll (ns.map PyData.int) := by
  refine ⟨fun x hx y hy => ?_, fun x hx => ?_⟩
  · obtain ⟨a, _, rfl⟩ := List.mem_map.mp hx
    obtain ⟨b, _, rfl⟩ := List.mem_map.mp hy
    rfl
  · obtain ⟨a, _, rfl⟩ := List.mem_map.mp hx
    simp
theorem vals_ints : ∀ {ns : List Int} {us : List Value}, Vals (ns.map V.int) us → IntsAre us ns
  | [], _, r => by cases r; exact .nil
  | n :: ns, _, r => by
    rw [List.map_cons] at r
    cases r with
    | cons a t =>
      obtain ⟨tk, rfl⟩ := a
      exact .cons n tk (vals_ints t)
theorem depth_ints (ns : List Int) : PyData.depthAll (ns.map PyData.int) ≤ 1 := by
  induction ns with
  | nil => simp [PyData.depthAll]
  | cons n ns ih => simp [PyData.depthAll, PyData.depth]; omega
theorem cr_bestT (hc : X.calm = true) (hu : X.A.units + 64 < cLine) : CallR X (.builtin "max") (fun vs H Q => ∃ (a : Addr) (n : Int) (ns : List Int), vs = [V.ref a] ∧ SqT X.K H a ((n :: ns).map V.int) ∧ Q (.int (ns.foldl max n)) H) ∧
    CallR X (.builtin "min") (fun vs H Q => ∃ (a : Addr) (n : Int) (ns : List Int), vs = [V.ref a] ∧ SqT X.K H a ((n :: ns).map V.int) ∧ Q (.int (ns.foldl min n)) H) := by
  refine ⟨?_, ?_⟩
  · intro pins s σ H vs us Q I r h
    obtain ⟨a, n, ns, rfl, hs, q⟩ := h
    obtain ⟨its, rv, hl, _⟩ := I.tuple hs
    rw [Vals.ref1 r]
    have hd := depth_ints (n :: ns)
    refine PySem.W.max_tuple_data (x := .int n) (xs := ns.map .int) (I.ok.hd hc) hl (reads_ints (vals_ints rv)) (alike_ints (n :: ns)) (by show X.A.units + 1 + PyData.depthAll ((n :: ns).map PyData.int) < cLine; omega) fun i v h' tk bs _ hr hk => ?_
    rw [PySem.W.maxD_ints] at hr
    cases hr
    exact ⟨.int _, H, I.kept hk, ⟨_, rfl⟩, q⟩
  · intro pins s σ H vs us Q I r h
    obtain ⟨a, n, ns, rfl, hs, q⟩ := h
    obtain ⟨its, rv, hl, _⟩ := I.tuple hs
    rw [Vals.ref1 r]
    have hd := depth_ints (n :: ns)
    refine PySem.W.min_tuple_data (x := .int n) (xs := ns.map .int) (I.ok.hd hc) hl (reads_ints (vals_ints rv)) (alike_ints (n :: ns)) (by show X.A.units + 1 + PyData.depthAll ((n :: ns).map PyData.int) < cLine; omega) fun i v h' tk bs _ hr hk => ?_
    rw [PySem.W.minD_ints] at hr
    cases hr
    exact ⟨.int _, H, I.kept hk, ⟨_, rfl⟩, q⟩
theorem best_some {f : Int → Int → Int} {ds : List D} {d : D} (h : (intsD ds).bind (bestI f) = some d) : ∃ n ns, intsD ds = some (n :: ns) ∧ d = .int (ns.foldl f n) := by
  cases h1 : intsD ds with
  | none => rw [h1] at h; cases h
  | some ns =>
    rw [h1] at h
    cases ns with
    | nil => cases h
    | cons n ns => cases h; exact ⟨n, ns, rfl, rfl⟩
theorem f_max1 (hK : X.K = e.K) (hc : X.calm = true) (hu : X.A.units + 64 < cLine) : CallR X (.builtin "max") (rF e .max1) := by
  refine CallR.imp ((cr_max hc).or (cr_bestT hc hu).1) ?_
  rintro vs H Q ⟨w, ds, d, s, rs, h, q⟩
  unfold opF at h
  split at h <;> try (first | contradiction | cases h; done)
  · obtain ⟨v, rfl, r⟩ := rs.one
    obtain ⟨n, ns, h1, rfl⟩ := best_some h
    obtain ⟨a, ws, rfl, hH, r1⟩ := r.lst s
    cases r1.ints h1
    obtain ⟨b1, b2⟩ := max_best ns n
    refine .inl ⟨a, n :: ns, rfl, hK ▸ SqL.of hH, by simp, fun m hm hy => ?_⟩
    have e1 := hy _ b1
    have e2 := b2 m hm
    have : m = ns.foldl max n := by omega
    rw [this]
    exact q _ _ (.id (.int _) rfl)
  · obtain ⟨v, rfl, r⟩ := rs.one
    obtain ⟨n, ns, h1, rfl⟩ := best_some h
    obtain ⟨a, ws, rfl, hI, hH, r1⟩ := r.tup s
    cases r1.ints h1
    exact .inr ⟨a, n, ns, rfl, hK ▸ SqT.of hH, q _ _ (.id (.int _) rfl)⟩
theorem f_min1 (hK : X.K = e.K) (hc : X.calm = true) (hu : X.A.units + 64 < cLine) : CallR X (.builtin "min") (rF e .min1) := by
  refine CallR.imp ((cr_min hc).or (cr_bestT hc hu).2) ?_
  rintro vs H Q ⟨w, ds, d, s, rs, h, q⟩
  unfold opF at h
  split at h <;> try (first | contradiction | cases h; done)
  · obtain ⟨v, rfl, r⟩ := rs.one
    obtain ⟨n, ns, h1, rfl⟩ := best_some h
    obtain ⟨a, ws, rfl, hH, r1⟩ := r.lst s
    cases r1.ints h1
    obtain ⟨b1, b2⟩ := min_best ns n
    refine .inl ⟨a, n :: ns, rfl, hK ▸ SqL.of hH, by simp, fun m hm hy => ?_⟩
    have e1 := hy _ b1
    have e2 := b2 m hm
    have : m = ns.foldl min n := by omega
    rw [this]
    exact q _ _ (.id (.int _) rfl)
  · obtain ⟨v, rfl, r⟩ := rs.one
    obtain ⟨n, ns, h1, rfl⟩ := best_some h
    obtain ⟨a, ws, rfl, hI, hH, r1⟩ := r.tup s
    cases r1.ints h1
    exact .inr ⟨a, n, ns, rfl, hK ▸ SqT.of hH, q _ _ (.id (.int _) rfl)⟩
theorem f_sum1 (hK : X.K = e.K) (hc : X.calm = true) : CallR X (.builtin "sum") (rF e .sum1) := by
  refine CallR.imp (cr_sum hc) ?_
  rintro vs H Q ⟨w, ds, d, s, rs, h, q⟩
  unfold opF at h
  split at h <;> try (first | contradiction | cases h; done)
  obtain ⟨v, rfl, r⟩ := rs.one
  simp only [Option.map_eq_some_iff] at h
  obtain ⟨ns, h1, rfl⟩ := h
  obtain ⟨a, ws, rfl, hH, r1⟩ := r.lst s
  cases r1.ints h1
  exact ⟨a, ns, rfl, hK ▸ SqL.of hH, q _ _ (.id (.int _) rfl)⟩
theorem f_str1 : CallR X (.type "str") (rF e .str1) := by
  refine CallR.imp call_str_int ?_
  rintro vs H Q ⟨w, ds, d, s, rs, h, q⟩
  unfold opF at h
  split at h <;> try (first | contradiction | cases h; done)
  split at h <;> cases h
  obtain ⟨v, rfl, r⟩ := rs.one
  cases r.int
  exact ⟨_, rfl, by assumption, q _ _ (.id (.str _) rfl)⟩
/-- a built-in's name and value -/
def nmF : Bi → Str
  | .len => "len" | .abs => "abs" | .int => "int" | .min2 => "min" | .max2 => "max" | .all => "all" | .any => "any" | .tuple => "tuple" | .list => "list" | .max1 => "max" | .min1 => "min" | .sum1 => "sum" | .str1 => "str"
def vaF : Bi → Value
  | .len => .builtin "len" | .abs => .builtin "abs" | .int => .type "int" | .min2 => .builtin "min" | .max2 => .builtin "max" | .all => .builtin "all" | .any => .builtin "any" | .tuple => .type "tuple" | .list => .type "list" | .max1 => .builtin "max" | .min1 => .builtin "min" | .sum1 => .builtin "sum" | .str1 => .type "str"
theorem f_bi (hK : X.K = e.K) (hc : X.calm = true) (hu : X.A.units + 64 < cLine) : ∀ f, CallR X (vaF f) (rF e f)
  | .len => f_len hK
  | .abs => f_abs
  | .int => f_int
  | .min2 => f_min2 hc
  | .max2 => f_max2 hc
  | .all => f_all hK hc
  | .any => f_any hK hc
  | .tuple => f_tuple hK
  | .list => f_list hK
  | .max1 => f_max1 hK hc hu
  | .min1 => f_min1 hK hc hu
  | .sum1 => f_sum1 hK hc
  | .str1 => f_str1
theorem f_boot : ∀ f, bootBuiltins (nmF f) = some (vaF f)
  | .len => by decide +kernel
  | .abs => by decide +kernel
  | .int => by decide +kernel
  | .min2 => by decide +kernel
  | .max2 => by decide +kernel
  | .all => by decide +kernel
  | .any => by decide +kernel
  | .tuple => by decide +kernel
  | .list => by decide +kernel
  | .max1 => by decide +kernel
  | .min1 => by decide +kernel
  | .sum1 => by decide +kernel
  | .str1 => by decide +kernel

/-! ### places -/
theorem atI_map {α β : Type} (f : α → β) (xs : List α) (i : Int) : L2.atI (xs.map f) i = (L2.atI xs i).map f := by
  unfold L2.atI
  rw [List.length_map]
  cases L2.ixN xs.length i with
  | none => rfl
  | some n => simp
theorem Rps.atI {w : Wd} {ds : List D} {vs : List V} {i : Int} {d : D} (r : Rps e w ds vs) (h : L2.atI ds i = some d) : ∃ v, L2.atI vs i = some v ∧ Rp e w d v := by
  unfold L2.atI at h ⊢
  rw [← r.length]
  cases q : L2.ixN ds.length i with
  | none => rw [q] at h; cases h
  | some n =>
    rw [q] at h
    exact r.get h
theorem IxR.or {r r' : R2} (h : IxR X r) (h' : IxR X r') : IxR X (fun x y H Q => r x y H Q ∨ r' x y H Q) := fun a b pins s σ H x y v u Q I rx ry q hs => q.elim (fun q => h a b pins s σ H x y v u Q I rx ry q hs) fun q => h' a b pins s σ H x y v u Q I rx ry q hs
theorem IxR.imp {r r' : R2} (h : IxR X r) (i : ∀ x y H Q, r' x y H Q → r x y H Q) : IxR X r' := fun a b pins s σ H x y v u Q I rx ry q hs => h a b pins s σ H x y v u Q I rx ry (i x y H Q q) hs
theorem x_idx (hK : X.K = e.K) : IxR X (r2G e idxD) := by
  refine IxR.imp (ix_list.or ix_tup) ?_
  rintro x y H Q ⟨w, a, b, d, s, ra, rb, h, q⟩
  unfold idxD at h
  split at h
  · obtain ⟨p, ws, rfl, _, hH, r1⟩ := ra.tup s
    obtain ⟨v, h1, h2⟩ := r1.atI h
    exact .inr ⟨p, ws, _, v, rfl, rb.int, SqT.of hH, h1, q _ _ (.of h2)⟩
  · obtain ⟨p, ws, rfl, hH, r1⟩ := ra.lst s
    obtain ⟨v, h1, h2⟩ := r1.atI h
    exact .inl ⟨p, ws, _, v, rfl, rb.int, SqL.of hH, h1, q _ _ (.of h2)⟩
  · obtain ⟨p, rfl, hs⟩ := ra.scr s
    simp only [Option.map_eq_some_iff] at h
    obtain ⟨n, h1, rfl⟩ := h
    exact .inl ⟨p, _, _, .int n, rfl, rb.int, hK ▸ hs, by rw [atI_map, h1]; rfl, q _ _ (.of (.int n))⟩
  · cases h
def rS (e : En) : V → Option Int → Option Int → Hp → VK → Prop := fun x lo hi H Q => ∃ w a d, (∀ p o, w.I p = some o → H p = some o) ∧ Rb e w H a x ∧ slcD a lo hi = some d ∧ ∀ v H', Fin e w H d v H' → Q v H'
theorem SlR.or {r r' : V → Option Int → Option Int → Hp → VK → Prop} (h : L2.SlR X r) (h' : L2.SlR X r') : L2.SlR X (fun x l u H Q => r x l u H Q ∨ r' x l u H Q) := fun pins s σ H x v vl vu lo hi sl Q I rx hs pl pu q => q.elim (fun q => h pins s σ H x v vl vu lo hi sl Q I rx hs pl pu q) fun q => h' pins s σ H x v vl vu lo hi sl Q I rx hs pl pu q
theorem SlR.imp {r r' : V → Option Int → Option Int → Hp → VK → Prop} (h : L2.SlR X r) (i : ∀ x l u H Q, r' x l u H Q → r x l u H Q) : L2.SlR X r' := fun pins s σ H x v vl vu lo hi sl Q I rx hs pl pu q => h pins s σ H x v vl vu lo hi sl Q I rx hs pl pu (i x lo hi H Q q)
theorem cutD_all {ds : List D} {lo hi : Option Int} (z : HT.sIx ds.length 0 lo = 0 ∧ HT.sIx ds.length ds.length hi = ds.length) : cutD ds lo hi = ds := by
  unfold cutD
  rw [z.1, z.2, List.drop_zero, Nat.sub_zero, List.take_length]
theorem x_slc (hK : X.K = e.K) : L2.SlR X (rS e) := by
  refine SlR.imp (SlR.or sl_list sl_tupA) ?_
  rintro x lo hi H Q ⟨w, a, d, s, ra, h, q⟩
  unfold slcD at h
  split at h <;> cases h
  · obtain ⟨p, ws, rfl, hI, hH, r1⟩ := ra.tup s
    refine .inr ⟨p, ws, rfl, SqT.of hH, fun z => ?_, fun _ t ht => q _ _ (.tup ht (r1.cut lo hi))⟩
    refine q _ _ (.id ?_ rfl)
    rw [cutD_all (by rw [r1.length]; exact z)]
    exact .tup hI r1
  · obtain ⟨p, ws, rfl, hH, r1⟩ := ra.lst s
    exact .inl ⟨p, ws, rfl, SqL.of hH, fun t ht => q _ _ (.lst ht (r1.cut lo hi))⟩
/-! ### isinstance -/
def tyN : Ty → String
  | .int => "int" | .bool => "bool" | .str => "str" | .tuple => "tuple" | .list => "list"
def tyS : Ty → Str
  | .int => "int" | .bool => "bool" | .str => "str" | .tuple => "tuple" | .list => "list"
def rT (e : En) (t : Ty) : List V → Hp → VK → Prop := fun vs H Q => ∃ w a d x, vs = [x, .ty (tyN t)] ∧ (∀ p o, w.I p = some o → H p = some o) ∧ Rb e w H a x ∧ (isiD t a).map D.bl = some d ∧ ∀ v H', Fin e w H d v H' → Q v H'
/-- the type of a datum -/
def tyD : D → Option String
  | .non => some "NoneType" | .bl _ => some "bool" | .int _ => some "int" | .str _ => some "str" | .tup _ => some "tuple" | .lst _ => some "list"
  | _ => none
theorem Rb.ty {w : Wd} {H : Hp} {a : D} {x : V} {T : String} (s : ∀ p o, w.I p = some o → H p = some o) (r : Rb e w H a x) (h : tyD a = some T) : TyX e.K H x (.type T) := by
  unfold tyD at h
  split at h <;> cases h
  · cases r.non; exact .base .non
  · cases r.bl; exact .base (.bl _)
  · cases r.int; exact .base (.int _)
  · cases r.str; exact .base (.str _)
  · obtain ⟨p, ws, rfl, _, hH, _⟩ := r.tup s
    exact .base (.tup hH)
  · obtain ⟨p, ws, rfl, hH, _⟩ := r.lst s
    exact .base (.lst hH)
theorem kit_isi (K : PySem.W.Frag) : ∀ (t : Ty) (a : D) (b : Bool), isiD t a = some b → ∃ T, tyD a = some T ∧ PySem.W.kitOne K (.type T) (.type (tyN t)) = some b := by
  intro t a b h
  cases t <;> cases a <;> first
    | (simp only [isiD, Option.some.injEq] at h; subst h; exact ⟨_, rfl, by with_unfolding_all rfl⟩)
    | (simp [isiD] at h)
theorem f_isi (hK : X.K = e.K) (t : Ty) : CallR X (.builtin "isinstance") (rT e t) := by
  refine CallR.imp call_isi ?_
  rintro vs H Q ⟨w, a, d, x, rfl, s, ra, h, q⟩
  obtain ⟨b, h1, rfl⟩ := map_bl h
  obtain ⟨T, h2, h3⟩ := kit_isi X.K t a b h1
  exact ⟨x, _, _, _, b, rfl, .ty _, hK ▸ ra.ty s h2, h3, Fin.bl' q⟩
end Mi
/-! Part R: sequences backwards. -/
namespace Mi
open PySem PySem.Spec PyProof.Rows L2
open PySem.SeqAt
open PySem.MeetsSeq PySem.MeetsSeq2 PySem.MeetsSeq3
section
variable {prog : Program} {w : World} {A : Around} {E : Value → Shared → Prop} {s : Shared}
theorem back_applied {sl : Addr} {vl vu vs : Value} {n : Nat} {Q : Int × Int × Nat → Shared → Prop} (hs : s.heap.IsSliceOf sl vl vu vs) (pl : IsPart vl none) (pu : IsPart vu none) (ps : IsPart vs (some (-1)))
    (h : Q (((n : Int) - 1), -1, n) s) : wpAny (model prog w) A (Builtin.Slice.sliceApplied (.ref sl) (pure (n : Int))) Q E s := by
  obtain ⟨os, hos, hcs, hds⟩ := id hs
  unfold Builtin.Slice.sliceApplied Builtin.Slice.sliceFields
  refine wpAny_bind (wpAny_bind (wpAny_field hos hds (x := vl) rfl (wpAny_bind (wpAny_field hos hds (x := vu) rfl (wpAny_bind (wpAny_field hos hds (x := vs) rfl (wpAny_pure ?_)))))))
  refine wpAny_bind (HT.slicePart_ ps ?_)
  show wpAny _ _ (if ((-1 : Int) == 0) = true then _ else _) _ _ s
  rw [if_neg (by decide)]
  refine wpAny_bind (HT.slicePart_ pl (wpAny_bind (HT.slicePart_ pu (wpAny_bind (wpAny_pure ?_)))))
  show wpAny _ _ (pure ((n : Int) - 1, (-1 : Int), Builtin.Slice.slicePlaces ((n : Int) - 1) (-1) (-1))) _ _ s
  have e : Builtin.Slice.slicePlaces ((n : Int) - 1) (-1) (-1) = n := by
    unfold Builtin.Slice.slicePlaces
    rw [if_neg (by decide)]
    by_cases h0 : n = 0
    · subst h0; rfl
    · rw [if_pos (by omega)]
      show (((n : Int) - 1 - -1 - 1) / 1 + 1).toNat = n
      rw [Int.ediv_one]
      omega
  rw [e]
  exact wpAny_pure h
theorem back_pick (xs : Array Value) : ((List.range xs.size).filterMap fun (m : Nat) => xs[(((xs.size : Int) - 1) + (m : Int) * (-1)).toNat]?).toArray = xs.toList.reverse.toArray := by
  congr 1
  refine List.ext_getElem? fun i => ?_
  have h1 : ((List.range xs.size).filterMap fun (m : Nat) => xs[(((xs.size : Int) - 1) + (m : Int) * (-1)).toNat]?) = (List.range xs.size).pmap (fun (m : Nat) (hm : m < xs.size) => xs[xs.size - 1 - m]'(by omega)) (fun m hm => List.mem_range.mp hm) := by
    have gen : ∀ l : List Nat, (hl : ∀ m ∈ l, m < xs.size) → (l.filterMap fun (m : Nat) => xs[(((xs.size : Int) - 1) + (m : Int) * (-1)).toNat]?) = l.pmap (fun (m : Nat) (hm : m < xs.size) => xs[xs.size - 1 - m]'(by omega)) hl := by
      intro l
      induction l with
      | nil => exact fun _ => rfl
      | cons a l ih =>
        intro hl
        have ha := hl a (by simp)
        have e : (((xs.size : Int) - 1) + (a : Int) * (-1)).toNat = xs.size - 1 - a := by omega
        rw [List.filterMap_cons, e, Array.getElem?_eq_getElem (by omega), List.pmap_cons]
        simp only
        rw [ih fun m hm => hl m (by simp [hm])]
    exact gen _ _
  rw [h1]
  by_cases hi : i < xs.size
  · rw [List.getElem?_eq_getElem (by simp [hi]), List.getElem?_eq_getElem (by simp [hi])]
    simp
  · rw [List.getElem?_eq_none (by simp; omega), List.getElem?_eq_none (by simp; omega)]
theorem getItem_tuple_back {t sl : Addr} {items : Array Value} {vl vu vs : Value} {Q : Value → Shared → Prop} (ht : IsTup s.heap t items) (hs : s.heap.IsSliceOf sl vl vu vs) (pl : IsPart vl none) (pu : IsPart vu none) (ps : IsPart vs (some (-1)))
    (h : Q (.ref s.heap.objs.size) { s with heap := s.heap.push { cls := .type "tuple", data := .seq items.toList.reverse.toArray } })
    (hsz : items.size ≤ sizeLine) : wpAny (model prog w) A (getItem (.ref t) (.ref sl)) Q E s := by
  have htake : sizeOk (.seq items.toList.reverse.toArray) := by
    show items.toList.reverse.toArray.size ≤ sizeLine
    rw [List.size_toArray, List.length_reverse, Array.length_toList]
    omega
  obtain ⟨os, hos, hcs, hds⟩ := id hs
  have hTs : s.TypeIs (.ref sl) "slice" := ⟨os, hos, hcs⟩
  unfold getItem
  try with_reducible refine wpAny_holding ?_
  first | refine wpAny_bind (wpAny_pure ?_) | skip
  refine wpAny_bind (wpAny_sequenceKey ht.typeIs (by decide) ?_)
  refine wpAny_bind (wpAny_callSpecial?_slot (name := Str.ofString "__getitem__") ht.typeIs PyProof.Rows.slot_tuple_getitem
    (wpAny_call_entry PyProof.Rows.slot_tuple_getitem ht.typeIs entry_tuple_getitem ?_ (args_tuple_getitem _ _)))
  show wpAny _ _ (Builtin.Tuple.tupleItemsOf (.ref t) >>= _) _ _ s
  refine wpAny_bind (tupleItemsOf_ ht ?_)
  refine wpAny_bind (wpAny_typeOf hTs ?_)
  rw [if_pos (by decide)]
  refine wpAny_bind (back_applied hs pl pu ps ?_)
  have hno : ¬ (((((items.size : Nat) : Int) - 1) == 0 && (-1 : Int) == 1 && items.size == items.size) = true) := by
    rw [Bool.and_eq_true, Bool.and_eq_true]
    rintro ⟨⟨_, q⟩, _⟩
    exact absurd q (by decide)
  show wpAny _ _ (if ((((items.size : Nat) : Int) - 1) == 0 && (-1 : Int) == 1 && items.size == items.size) = true then _ else _) _ _ s
  rw [if_neg hno, back_pick]
  first
    | exact wpAny_bind (m := Builtin.Tuple.tupleExact _) (wpAny_newObj_type (wpAny_pure ⟨_, rfl, wpAny_pure h⟩) htake)
    | exact wpAny_bind (m := Builtin.Tuple.tupleExact _) (wpAny_newObj_type (wpAny_bind (wpAny_pure (wpAny_pure ⟨_, rfl, wpAny_pure h⟩))) htake)
    | exact wpAny_bind (wpAny_bind (m := Builtin.Tuple.tupleExact _) (wpAny_newObj_type (wpAny_pure (wpAny_pure ⟨_, rfl, wpAny_pure h⟩)) htake))
    | exact wpAny_bind (wpAny_bind (m := Builtin.Tuple.tupleExact _) (wpAny_newObj_type (wpAny_pure ⟨_, rfl, wpAny_pure h⟩) htake))
end
section
variable {X : Cx}
/-- a list or a tuple backwards -/
def tRevA (K : PySem.W.Frag) (te : TE) : TE := fun σ H Q => te σ H fun x H1 => ∃ a xs, x = .ref a ∧ ((SqL K H1 a xs ∧ ∀ p, H1 p = none → Q (.ref p) (upd H1 p (.lst xs.reverse))) ∨ (SqT K H1 a xs ∧ ∀ p, H1 p = none → Q (.ref p) (upd H1 p (.tup xs.reverse))))
theorem pe_revA {e : Expr} {te : TE} {k : Nat} {p1 p2 p3 pos : Pos} (he : PE X e te) : PE X (.Subscript e (.Slice none none (some (.UnaryOp .USub (.Constant (.int 1) k p1) p2)) p3) pos) (tRevA X.K te) := by
  refine ⟨fun pins s σ H Q I h => ?_⟩
  refine Subscript_ (thn (he.run pins s σ H _ I h) fun v s1 ⟨x, H1, I1, r1, q1⟩ => ?_)
  obtain ⟨a, xs, ex, q⟩ := q1
  subst ex
  cases r1
  have hst : PO X (some (.UnaryOp .USub (.Constant (.int 1) k p1) p2)) (tPart (tUn (rU fun i => .int (-i)) (tC (.int 1)))) := po_some (pe_un un_neg pe_int)
  refine wpAny_Slice (thn (po_none.run pins s1 σ H1 (fun o H2 => o = none ∧ H2 = H1) I1 ⟨rfl, rfl⟩) fun vl s2 ⟨l, H2, I2, pl, el, e2⟩ => ?_)
  subst el e2
  refine thn (po_none.run pins s2 σ H2 (fun o H3 => o = none ∧ H3 = H2) I2 ⟨rfl, rfl⟩) fun vu s3 ⟨u, H3, I3, pu, eu, e3⟩ => ?_
  subst eu e3
  refine thn (hst.run pins s3 σ H3 (fun o H4 => o = some (-1) ∧ H4 = H3) I3 ⟨1, rfl, -1, rfl, rfl, rfl⟩) fun vs s4 ⟨o, H4, I4, ps, eo, e4⟩ => ?_
  subst eo e4
  have I5 : Inv X pins σ H4 { s4 with heap := s4.heap.push { cls := .type "slice", data := .fields #[vl, vu, vs] } } := I4.kept (t' := s4.toks) fun b ob q => Heap.get?_push_of_some _ q
  show wpAny (model X.prog X.w) X.A (subscriptTail e (.Slice none none (some (.UnaryOp .USub (.Constant (.int 1) k p1) p2)) p3) (.ref a) (.ref s4.heap.objs.size)) (EP X pins σ Q) X.xe { s4 with heap := s4.heap.push { cls := .type "slice", data := .fields #[vl, vu, vs] } }
  rcases q with ⟨hx, q⟩ | ⟨hx, q⟩
  · obtain ⟨its, r, ht, hz⟩ := I5.list hx
    have hlen := r.length
    refine tail_any (ops := [.ref a, .ref s4.heap.objs.size]) ht.isList.typeIs (PySem.slot_list_getitem.lookup) ?_ (by with_unfolding_all rfl)
    refine wpAny_getItem_list_slice ht.isList (Heap.IsSliceOf.new _ vl vu vs) pl pu ps (by decide) ?_ (by rw [List.size_toArray]; omega)
    rw [PySem.W.krv_pick]
    refine ⟨.ref _, _, I5.laid (t' := s4.toks) (o := .lst xs.reverse) (fun b ob q => Heap.get?_push_of_some _ q) (Nat.le_refl _) ?_, rfl, q _ (I5.hok.fresh (Nat.le_refl _))⟩
    exact ⟨by rw [List.length_reverse]; exact hz, _, 0, r.reverse, Heap.get?_push_size _ rfl⟩
  · obtain ⟨its, r, ht, hz⟩ := I5.tuple hx
    have hlen := r.length
    refine tail_any (ops := [.ref a, .ref s4.heap.objs.size]) ht.typeIs (PyProof.Rows.slot_tuple_getitem.lookup) ?_ (by with_unfolding_all rfl)
    refine getItem_tuple_back ht (Heap.IsSliceOf.new _ vl vu vs) pl pu ps ?_ (by rw [List.size_toArray]; omega)
    refine ⟨.ref _, _, I5.laid (t' := s4.toks) (o := .tup xs.reverse) (fun b ob q => Heap.get?_push_of_some _ q) (Nat.le_refl _) ?_, rfl, q _ (I5.hok.fresh (Nat.le_refl _))⟩
    exact ⟨by rw [List.length_reverse]; exact hz, _, r.reverse, IsTup.new _ _⟩
end
end Mi
/-! Part Z: zip of a list and a tuple, any way round. -/
namespace Mi
open PySem PySem.Spec PyProof.Rows L2
/-- true: a tuple; false: a list -/
def itC (t : Bool) : String := if t then "tuple_iterator" else "list_iterator"
def ItS (t : Bool) (h : Heap) (it l : Addr) (i : Nat) : Prop := match t with
  | true => h.IsTupleIter it l i
  | false => h.IsListIter it l i
def SqS (t : Bool) (h : Heap) (l : Addr) (xs : Array Value) : Prop := match t with
  | true => h.IsTuple l xs
  | false => h.IsList l xs
def SqB (t : Bool) (K : PySem.W.Frag) (H : Hp) (p : Addr) (xs : List V) : Prop := match t with
  | true => SqT K H p xs
  | false => SqL K H p xs
theorem ItS.keep {t : Bool} {h h' : Heap} {it l : Addr} {i : Nat} (q : ItS t h it l i) (k : ∀ o, h.get? it = some o → h'.get? it = some o) : ItS t h' it l i := by
  cases t with
  | true => exact Heap.IsTupleIter.at (h := h) q k
  | false => exact Heap.IsListIter.at (h := h) q k
theorem ItS.there {t : Bool} {h : Heap} {it l : Addr} {i : Nat} (q : ItS t h it l i) : ∃ o, h.get? it = some o ∧ ∀ v, o.data ≠ .cell v := by
  cases t with
  | true => obtain ⟨o, e, _, d⟩ := q; exact ⟨o, e, fun v z => by rw [d] at z; cases z⟩
  | false => obtain ⟨o, e, _, d⟩ := q; exact ⟨o, e, fun v z => by rw [d] at z; cases z⟩
theorem SqS.lt {t : Bool} {h : Heap} {l : Addr} {xs : Array Value} (q : SqS t h l xs) : l < h.objs.size := by
  cases t with
  | true => obtain ⟨o, e, _⟩ := q; exact Heap.lt_size e
  | false => obtain ⟨o, e, _⟩ := q; exact Heap.lt_size e
section
variable {prog : Program} {w : World} {A : Around} {E : Value → Shared → Prop} {s : Shared}
theorem drawsS (t : Bool) (hh : A.handled = none) (it l : Addr) (hne : l ≠ it) (xs : Array Value) : Draws prog w A it [it, l] xs.size (fun i v => xs[i]? = some v) (fun i h => ItS t h it l i ∧ SqS t h l xs) := by
  cases t with
  | true => exact Draws.tuple hh it l hne xs
  | false => exact Draws.list hh it l hne xs
abbrev zz1 (t : Bool) (h : Heap) (l : Addr) : Heap := h.push { cls := .type (itC t), data := .fields #[.ref l, .int 0 0] }
abbrev zz2 (t u : Bool) (h : Heap) (l m : Addr) : Heap := (zz1 t h l).push { cls := .type (itC u), data := .fields #[.ref m, .int 0 0] }
abbrev zz3 (t u : Bool) (h : Heap) (l m : Addr) : Heap := (zz2 t u h l m).push { cls := .type "tuple", data := .seq #[.ref h.objs.size, .ref (zz1 t h l).objs.size] }
abbrev zz4 (t u : Bool) (h : Heap) (l m : Addr) : Heap := (zz3 t u h l m).push { cls := .type "tuple", data := .seq #[.none, .none] }
abbrev zz5 (t u : Bool) (h : Heap) (l m : Addr) : Heap := (zz4 t u h l m).push { cls := .type "zip", data := .fields #[.none, .bool false, .bool false, .ref (zz2 t u h l m).objs.size, .ref (zz3 t u h l m).objs.size] }
theorem made_zip (t u : Bool) (l m : Addr) (xs ys : Array Value) :
    Meets (Builtin.«zip.__new__» ⟨[.type "zip", .ref l, .ref m], []⟩) (fun _ R s => SqS t s.heap l xs ∧ SqS u s.heap m ys ∧ R (.ok (.ret (.ref (zz4 t u s.heap l m).objs.size))) { s with heap := zz5 t u s.heap l m }) :=
  .of_wp fun prog w A R s h => by
    obtain ⟨hp, g, d, tk, os⟩ := s
    obtain ⟨q1, q2, h⟩ := h
    have sz := PySem.sub_zip
    cases t <;> cases u
    · have p1 : Heap.IsList (Shared.heap ⟨hp, g, d, tk, os⟩) l xs := q1
      have p2 : Heap.IsList (Shared.heap ⟨hp.push { cls := .type "list_iterator", data := .fields #[.ref l, .int 0 0] }, g, d, tk, os⟩) m ys := Heap.IsList.push q2 _
      wp_walk using wpAny_pyIter_list p1, wpAny_pyIter_list p2
      exact ⟨_, rfl, h⟩
    · have p1 : Heap.IsList (Shared.heap ⟨hp, g, d, tk, os⟩) l xs := q1
      have p2 : Heap.IsTuple (Shared.heap ⟨hp.push { cls := .type "list_iterator", data := .fields #[.ref l, .int 0 0] }, g, d, tk, os⟩) m ys := Heap.IsTuple.push q2 _
      wp_walk using wpAny_pyIter_list p1, wpAny_pyIter_tuple p2
      exact ⟨_, rfl, h⟩
    · have p1 : Heap.IsTuple (Shared.heap ⟨hp, g, d, tk, os⟩) l xs := q1
      have p2 : Heap.IsList (Shared.heap ⟨hp.push { cls := .type "tuple_iterator", data := .fields #[.ref l, .int 0 0] }, g, d, tk, os⟩) m ys := Heap.IsList.push q2 _
      wp_walk using wpAny_pyIter_tuple p1, wpAny_pyIter_list p2
      exact ⟨_, rfl, h⟩
    · have p1 : Heap.IsTuple (Shared.heap ⟨hp, g, d, tk, os⟩) l xs := q1
      have p2 : Heap.IsTuple (Shared.heap ⟨hp.push { cls := .type "tuple_iterator", data := .fields #[.ref l, .int 0 0] }, g, d, tk, os⟩) m ys := Heap.IsTuple.push q2 _
      wp_walk using wpAny_pyIter_tuple p1, wpAny_pyIter_tuple p2
      exact ⟨_, rfl, h⟩
theorem call_zipS {t u : Bool} {l m : Addr} {xs ys : Array Value} {Q : Value → Shared → Prop} (q1 : SqS t s.heap l xs) (q2 : SqS u s.heap m ys)
    (h : ∀ h', IsZip h' (s.heap.objs.size + 4) (s.heap.objs.size + 2) (s.heap.objs.size + 3) .none → IsPair h' (s.heap.objs.size + 2) (.ref s.heap.objs.size) (.ref (s.heap.objs.size + 1)) → IsPair h' (s.heap.objs.size + 3) .none .none →
      ItS t h' s.heap.objs.size l 0 → ItS u h' (s.heap.objs.size + 1) m 0 → (∀ c o, s.heap.get? c = some o → h'.get? c = some o) → Q (.ref (s.heap.objs.size + 4)) { s with heap := h' }) :
    wpAny (model prog w) A (call (.type "zip") [.ref l, .ref m]) Q E s := by
  refine callType_new F.called_zip (by decide) (F.typeCall_zip_2 _ _) (F.newCall_zip_2 _ _) (fun o => F.args_object_init_3 o _ _) F.entry_zip_new (made_zip t u l m xs ys) ⟨q1, q2, ?_⟩
  have s1 : (zz1 t s.heap l).objs.size = s.heap.objs.size + 1 := Heap.size_push ..
  have s2 : (zz2 t u s.heap l m).objs.size = s.heap.objs.size + 2 := by rw [Heap.size_push, s1]
  have s3 : (zz3 t u s.heap l m).objs.size = s.heap.objs.size + 3 := by rw [Heap.size_push, s2]
  have s4 : (zz4 t u s.heap l m).objs.size = s.heap.objs.size + 4 := by rw [Heap.size_push, s3]
  have up : ∀ {a : Heap} {o' : Obj} (c : Addr) (o : Obj), a.get? c = some o → (a.push o').get? c = some o := fun c o e => Heap.get?_push_of_some _ e
  have g5 : (zz5 t u s.heap l m).get? (zz4 t u s.heap l m).objs.size = some _ := Heap.get?_push_size _ rfl
  have g4 : (zz5 t u s.heap l m).get? (zz3 t u s.heap l m).objs.size = some _ := up _ _ (Heap.get?_push_size _ rfl)
  have g3 : (zz5 t u s.heap l m).get? (zz2 t u s.heap l m).objs.size = some _ := up _ _ (up _ _ (Heap.get?_push_size _ rfl))
  have g2 : (zz5 t u s.heap l m).get? (zz1 t s.heap l).objs.size = some _ := up _ _ (up _ _ (up _ _ (Heap.get?_push_size _ rfl)))
  have g1 : (zz5 t u s.heap l m).get? s.heap.objs.size = some _ := up _ _ (up _ _ (up _ _ (up _ _ (Heap.get?_push_size _ rfl))))
  show _ ∧ _
  rw [s2, s3, s4] at g5
  rw [s1, s2] at g3
  rw [s3] at g4
  rw [s1] at g2
  rw [s4]
  refine ⟨⟨_, g5, rfl⟩, h _ g5 g3 g4 ?_ ?_ fun c o e => up _ _ (up _ _ (up _ _ (up _ _ (up _ _ e))))⟩
  · cases t with
    | true => exact ⟨_, g1, rfl, rfl⟩
    | false => exact ⟨_, g1, rfl, rfl⟩
  · cases u with
    | true => exact ⟨_, g2, rfl, rfl⟩
    | false => exact ⟨_, g2, rfl, rfl⟩
end
/-- the two at a and b as they stand at each turn, their items in new pairs -/
def ItzS (t u : Bool) (K : PySem.W.Frag) (a b : Addr) : L2.It :=
  ⟨fun i H => ∃ (xs ys : List V) (x y : V), SqB t K H a xs ∧ SqB u K H b ys ∧ xs[i]? = some x ∧ ys[i]? = some y,
    fun i H v H' => ∃ T x y, v = .ref T ∧ H T = none ∧ H' = upd H T (.tup [x, y]) ∧ (∀ xs, SqB t K H a xs → xs[i]? = some x) ∧ ∀ ys, SqB u K H b ys → ys[i]? = some y,
    fun i H => ∃ xs ys : List V, SqB t K H a xs ∧ SqB u K H b ys ∧ ((xs.length = i ∧ i ≤ ys.length) ∨ (ys.length = i ∧ i ≤ xs.length))⟩
theorem Inv.sqB {X : Cx} {pins : List (Addr × Obj)} {σ : L2.St} {H : Hp} {s : Shared} {t : Bool} {a : Addr} {xs : List V} (I : Inv X pins σ H s) (q : SqB t X.K H a xs) : ∃ its : List Value, Vals xs its ∧ SqS t s.heap a its.toArray := by
  cases t with
  | true => obtain ⟨its, r, p, _⟩ := I.tuple q; exact ⟨its, r, p⟩
  | false => obtain ⟨its, r, p, _⟩ := I.list q; exact ⟨its, r, p.isList⟩
theorem Inv.sqB_inj {X : Cx} {pins : List (Addr × Obj)} {σ : L2.St} {H : Hp} {s : Shared} {t : Bool} {a : Addr} {xs ys : List V} (I : Inv X pins σ H s) (p : SqB t X.K H a xs) (q : SqB t X.K H a ys) : xs = ys := by
  cases t with
  | true => exact I.tuple_inj p q
  | false => exact I.list_inj p q
theorem apart_sep {z TI TO i1 i2 a b : Addr} (D : ZipApart z TI TO i1 i2 a b) : ZipSep2 z TI TO i1 i2 [i1, a] [i2, b] where
  TIz := D.TIz
  TOz := D.TOz
  TITO := D.TITO
  TIi1 := D.TIi1
  mem1 := by simp
  zf1 := by
    simp only [List.mem_cons, List.not_mem_nil, or_false]
    rintro (e | e)
    · exact D.i1z e.symm
    · exact D.l1z e.symm
  Tf1 := by
    simp only [List.mem_cons, List.not_mem_nil, or_false]
    rintro (e | e)
    · exact D.TOi1 e
    · exact D.l1TO e.symm
  TIi2 := D.TIi2
  mem2 := by simp
  zf2 := by
    simp only [List.mem_cons, List.not_mem_nil, or_false]
    rintro (e | e)
    · exact D.i2z e.symm
    · exact D.l2z e.symm
  Tf2 := by
    simp only [List.mem_cons, List.not_mem_nil, or_false]
    rintro (e | e)
    · exact D.TOi2 e
    · exact D.l2TO e.symm
  sep1_2 := by
    simp only [List.mem_cons, List.not_mem_nil, or_false]
    rintro (e | e)
    · exact D.i12 e
    · exact D.l2i1 e.symm
  sep2_1 := by
    simp only [List.mem_cons, List.not_mem_nil, or_false]
    rintro (e | e)
    · exact D.i12 e.symm
    · exact D.l1i2 e.symm
theorem turn_zipS {P : Program} {w : World} {K : PySem.W.Frag} {elts : List Expr} {kk : Nat} {tpos : Pos} {a b z TI TO i1 i2 : Addr} {t u : Bool} (D : ZipApart z TI TO i1 i2 a b) :
    Turn P w K (.Tuple elts kk tpos) (ItzS t u K a b) [z, TI, TO, i1, i2] z (fun i h => IsZip h z TI TO .none ∧ IsPair h TI (.ref i1) (.ref i2) ∧ (∃ x y, IsPair h TO x y) ∧ ItS t h i1 a i ∧ ItS u h i2 b i) where
  mem := by simp
  obj := fun i h st c hc => by
    obtain ⟨k1, k2, ⟨x, y, k3⟩, k4, k5⟩ := st
    simp only [List.mem_cons, List.not_mem_nil, or_false] at hc
    rcases hc with rfl | rfl | rfl | rfl | rfl
    · exact ⟨_, k1, fun v q => nomatch q⟩
    · exact ⟨_, k2, fun v q => nomatch q⟩
    · exact ⟨_, k3, fun v q => nomatch q⟩
    · exact k4.there
    · exact k5.there
  keep := fun i h h' st k => by
    obtain ⟨k1, k2, ⟨x, y, k3⟩, k4, k5⟩ := st
    exact ⟨k z (by simp) _ k1, k TI (by simp) _ k2, ⟨x, y, k TO (by simp) _ k3⟩, k4.keep fun o q => k i1 (by simp) o q, k5.keep fun o q => k i2 (by simp) o q⟩
  item := by
    intro X eP ew eK hc i pins s σ H E I hf st hg
    subst eP ew eK
    obtain ⟨k1, k2, ⟨x0, y0, k3⟩, k4, k5⟩ := st
    obtain ⟨xs, ys, x, y, qx, qy, hx, hy⟩ := hg
    obtain ⟨its, rv, p⟩ := Inv.sqB I qx
    obtain ⟨jts, rw', p'⟩ := Inv.sqB I qy
    obtain ⟨v1, hv1, r1⟩ := rv.get hx
    obtain ⟨v2, hv2, r2⟩ := rw'.get hy
    have zlt : z < s.heap.objs.size := Heap.lt_size k1
    have hd : X.A.in1.handled = none := I.ok.hd hc
    have m1 : i < its.toArray.size := by rw [List.size_toArray]; exact (List.getElem?_eq_some_iff.mp hv1).1
    have m2 : i < jts.toArray.size := by rw [List.size_toArray]; exact (List.getElem?_eq_some_iff.mp hv2).1
    refine wpAny_pyNext_zipD2_item (apart_sep D) (drawsS t hd i1 a D.l1i1 its.toArray) (drawsS u hd i2 b D.l2i2 jts.toArray) k1 k2 k3 ⟨k4, p⟩ ⟨k5, p'⟩ m1 m2 fun x1 x2 g tk e1 e2 z1 z2 z3 z4 z5 z6 z7 => ?_
    have e1 : x1 = v1 := by simpa [hv1] using e1.symm
    have e2 : x2 = v2 := by simpa [hv2] using e2.symm
    subst e1 e2
    refine ⟨_, rfl, wpAny_letOwnedTupleGo_zip (s := { s with heap := g, toks := tk }) z1 fun g2 y1 sb => ?_⟩
    have hT : g2.get? s.heap.objs.size = some { cls := .type "tuple", data := .seq #[x1, x2] } := (sb.2 _ (Nat.ne_of_gt zlt)).trans z5
    have new : ObjOk X.prog X.w (upd H s.heap.objs.size (.tup [x, y])) g2 s.heap.objs.size (.tup [x, y]) :=
      ⟨by show 2 ≤ sizeLine; decide, [x1, x2], .cons r1 (.cons r2 .nil), ⟨_, hT, rfl, _, rfl⟩⟩
    have I1 : Inv X pins σ (upd H s.heap.objs.size (.tup [x, y])) { s with heap := g2, toks := tk } := I.turnedNew (t' := tk) (ch := [z, TI, TO, i1, i2]) (fun c o hb q => by
      simp only [List.mem_cons, List.not_mem_nil, or_false, not_or] at hb
      exact (sb.2 c hb.1).trans (z7 c o hb.1 hb.2.2.1 hb.2.2.2.1 hb.2.2.2.2 q)) hf (Nat.le_refl _) new
    refine ⟨.ref s.heap.objs.size, _, I1, rfl, ⟨_, x, y, rfl, I.hok.fresh (Nat.le_refl _), rfl, fun l hl => by rw [Inv.sqB_inj I hl qx]; exact hx, fun l hl => by rw [Inv.sqB_inj I hl qy]; exact hy⟩, ⟨y1, ?_, ⟨x1, x2, ?_⟩, ?_, ?_⟩, fun c hcm => ?_⟩
    · exact (sb.2 _ D.TIz).trans (z7 _ _ D.TIz D.TITO D.TIi1 D.TIi2 k2)
    · exact (sb.2 _ D.TOz).trans z2
    · exact z3.1.keep fun o q => (sb.2 _ D.i1z).trans q
    · exact z4.1.keep fun o q => (sb.2 _ D.i2z).trans q
    · have hlt : c < s.heap.objs.size := by
        simp only [List.mem_cons, List.not_mem_nil, or_false] at hcm
        rcases hcm with rfl | rfl | rfl | rfl | rfl
        · exact zlt
        · exact Heap.lt_size k2
        · exact Heap.lt_size k3
        · obtain ⟨_, q, _⟩ := k4.there; exact Heap.lt_size q
        · obtain ⟨_, q, _⟩ := k5.there; exact Heap.lt_size q
      rw [upd_ne (Nat.ne_of_lt hlt)]
      exact (hf c hcm).1
  done := by
    intro X eP ew eK hc i pins s σ H E I hf st hg
    subst eP ew eK
    obtain ⟨k1, k2, ⟨x0, y0, k3⟩, k4, k5⟩ := st
    obtain ⟨xs, ys, qx, qy, hend⟩ := hg
    obtain ⟨its, rv, p⟩ := Inv.sqB I qx
    obtain ⟨jts, rw', p'⟩ := Inv.sqB I qy
    have hd : X.A.in1.handled = none := I.ok.hd hc
    have l1 : its.toArray.size = xs.length := by rw [List.size_toArray]; exact rv.length.symm
    have l2 : jts.toArray.size = ys.length := by rw [List.size_toArray]; exact rw'.length.symm
    refine wpAny_pyNext_zipD2_end (apart_sep D) (drawsS t hd i1 a D.l1i1 its.toArray) (drawsS u hd i2 b D.l2i2 jts.toArray) k1 k2 k3 ⟨k4, p⟩ ⟨k5, p'⟩ (by omega) (by omega) (by omega) fun g tk k => ⟨rfl, I.turnedL (t' := tk) (ch := [z, TI, TO, i1, i2]) (fun c o hb q => ?_) hf⟩
    simp only [List.mem_cons, List.not_mem_nil, or_false, not_or] at hb
    exact k c o hb.1 hb.2.2.1 hb.2.2.2.1 hb.2.2.2.2 q
  self := fun A i s Q E st h => PySem.wpAny_pyIter_zip st.1 h
def iZipS (K : PySem.W.Frag) (ta : TA) : TI := fun σ H R => ta σ H fun vs H1 => ∃ a b t u xs ys, vs = [.ref a, .ref b] ∧ SqB t K H1 a xs ∧ SqB u K H1 b ys ∧ R (ItzS t u K a b) H1
theorem pi_zipS {X : Cx} {e e2 : Expr} {ta : TA} {p pos tpos : Pos} {elts : List Expr} {kk : Nat} (hg : Gl X "zip") (hm : X.mg "zip" = none) (ha : PA X [e, e2] ta) (hs : starEach [e, e2] X.env = (false, eval e X.env) :: starEach [e2] X.env)
    (hpl : (backTo pos (starEach [e2] X.env)).any (·.1) = false) : PI X (.Tuple elts kk tpos) (.Call (.Name "zip" p) [e, e2] [] pos) (iZipS X.K ta) := by
  refine ⟨fun pins s σ H R I h => ?_⟩
  refine Call_ (ld_blt I hg hm PyProof.Rows.boot_zip (PyProof.Rows.callWith_type1 (thn (ha.run pos pins s σ H _ I h) fun us s1 ⟨vs, H1, I1, r1, q1⟩ => ?_) hs hpl))
  obtain ⟨a, b, t, u, xs, ys, ex, qx, qy, q⟩ := q1
  subst ex
  cases r1 with
  | cons r rr =>
    cases rr with
    | cons r' rr =>
      cases rr
      cases r
      cases r'
      obtain ⟨its, rv, p1⟩ := Inv.sqB I1 qx
      obtain ⟨jts, rw', p2⟩ := Inv.sqB I1 qy
      refine call_zipS p1 p2 fun g z1 z2 z3 z4 z5 hk => PySem.wpAny_pyIter_zip z1 ?_
      have I2 : Inv X pins σ H1 { s1 with heap := g } := I1.kept (t' := s1.toks) hk
      refine ⟨s1.heap.objs.size + 4, [s1.heap.objs.size + 4, s1.heap.objs.size + 2, s1.heap.objs.size + 3, s1.heap.objs.size, s1.heap.objs.size + 1], _, _, H1, rfl, I2, turn_zipS (PySem.W.ktu_apart s1.heap.objs.size a b p1.lt p2.lt), ⟨z1, z2, ⟨_, _, z3⟩, z4, z5⟩, fun c hcm => ?_, q⟩
      have hle : s1.heap.objs.size ≤ c := by
        simp only [List.mem_cons, List.not_mem_nil, or_false] at hcm
        rcases hcm with z | z | z | z | z <;> rw [z] <;> first | exact Nat.le_add_right _ _ | exact Nat.le_refl _
      exact I1.fpOk hle (I1.hok.fresh hle)
theorem walk_zipS {K : PySem.W.Frag} {a b : Addr} {t u : Bool} {xs ys : List V} {n : Nat} (hn : n = min xs.length ys.length) : Walk (ItzS t u K a b) n (fun H => SqB t K H a xs ∧ SqB u K H b ys) (YPair (fun i => xs[i]?) (fun i => ys[i]?)) := by
  subst hn
  refine ⟨fun i _ hi q => ?_, fun _ q => ⟨xs, ys, q.1, q.2, by omega⟩, fun i H v H' _ q y => ?_⟩
  · have m1 : i < xs.length := by omega
    have m2 : i < ys.length := by omega
    exact ⟨xs, ys, xs[i], ys[i], q.1, q.2, by simp, by simp⟩
  · obtain ⟨T, x, z, g1, g2, g3, g4, g5⟩ := y
    exact ⟨T, x, z, g1, g2, g3, g4 xs q.1, g5 ys q.2⟩
end Mi
/-! Part N: enumerate of a tuple. -/
namespace Mi
open PySem PySem.Spec PyProof.Rows L2
open AutoSeq1 (wpAny_loadPart')
theorem made_enumT (l : Addr) (items : Array Value) :
    Meets (Builtin.«enumerate.__new__» ⟨[.type "enumerate", .ref l], []⟩) (fun _ R s => s.heap.IsTuple l items ∧
      R (.ok (.ret (.ref (s.heap.push { cls := .type "tuple_iterator", data := .fields #[.ref l, .int 0 0] }).objs.size)))
        { s with heap := (s.heap.push { cls := .type "tuple_iterator", data := .fields #[.ref l, .int 0 0] }).push { cls := .type "enumerate", data := .fields #[.none, .bool false, .ref s.heap.objs.size, rawInt 0, .none, .none] } }) :=
  .of_wp fun prog w A R s h => by
    obtain ⟨hp, g, d, tk, os⟩ := s; obtain ⟨hL, h⟩ := h
    have hsub := sub_enumerate
    have hL : Heap.IsTuple (Shared.heap ⟨hp, g, d, tk, os⟩) l items := hL
    obtain ⟨ob, hl, hc, hd⟩ := id hL
    wp_walk using wpAny_loadPart' hl
    refine wpAny_stack_any fun st => wpAny_pure ?_
    split
    · rename_i c _ _ _ _ _
      cases (c == Value.type "enumerate")
      · wp_walk using wpAny_loadPart' hl, wpAny_pyIter_tuple hL
        exact ⟨_, rfl, h⟩
      · wp_walk using wpAny_loadPart' hl, wpAny_pyIter_tuple hL
        exact ⟨_, rfl, h⟩
    · wp_walk using wpAny_loadPart' hl, wpAny_pyIter_tuple hL
      exact ⟨_, rfl, h⟩
section
variable {prog : Program} {w : World} {A : Around} {E : Value → Shared → Prop} {s : Shared}
theorem call_enumT {l : Addr} {items : Array Value} {Q : Value → Shared → Prop} (hL : s.heap.IsTuple l items)
    (h : ∀ h', IsEnum h' (s.heap.objs.size + 1) s.heap.objs.size 0 .none → h'.IsTupleIter s.heap.objs.size l 0 →
      (∀ b o, s.heap.get? b = some o → h'.get? b = some o) → Q (.ref (s.heap.objs.size + 1)) { s with heap := h' }) :
    wpAny (model prog w) A (call (.type "enumerate") [.ref l]) Q E s := by
  refine callType_new F.called_enumerate (by decide) (F.typeCall_enumerate_1 _) (F.newCall_enumerate_1 _) (fun obj => F.args_object_init_2 obj _) F.entry_enumerate_new
    (made_enumT l items) ⟨hL, ?_⟩
  have hz : (s.heap.push { cls := .type "tuple_iterator", data := .fields #[.ref l, .int 0 0] }).objs.size = s.heap.objs.size + 1 := Heap.size_push ..
  have up : ∀ {a : Heap} {o' : Obj} (c : Addr) (o : Obj), a.get? c = some o → (a.push o').get? c = some o := fun c o e => Heap.get?_push_of_some _ e
  have g1 : ((s.heap.push { cls := .type "tuple_iterator", data := .fields #[.ref l, .int 0 0] }).push { cls := .type "enumerate", data := .fields #[.none, .bool false, .ref s.heap.objs.size, rawInt 0, .none, .none] }).get? s.heap.objs.size = some _ := up _ _ (Heap.get?_push_size _ rfl)
  have g2 : ((s.heap.push { cls := .type "tuple_iterator", data := .fields #[.ref l, .int 0 0] }).push { cls := .type "enumerate", data := .fields #[.none, .bool false, .ref s.heap.objs.size, rawInt 0, .none, .none] }).get? (s.heap.push { cls := .type "tuple_iterator", data := .fields #[.ref l, .int 0 0] }).objs.size = some _ := Heap.get?_push_size _ rfl
  show _ ∧ _
  rw [hz] at g2
  rw [hz]
  exact ⟨⟨_, g2, rfl⟩, h _ g2 ⟨_, g1, rfl, rfl⟩ fun c o e => up _ _ (up _ _ e)⟩
end
/-- the tuple at a, each item in a new pair -/
def IteT (K : PySem.W.Frag) (a : Addr) : L2.It :=
  ⟨fun i H => ∃ (xs : List V) (x : V), SqT K H a xs ∧ xs[i]? = some x, fun i H v H' => ∃ T x, v = .ref T ∧ H T = none ∧ H' = upd H T (.tup [.int (i : Nat), x]) ∧ ∀ xs, SqT K H a xs → xs[i]? = some x, fun i H => ∃ xs : List V, SqT K H a xs ∧ xs.length = i⟩
theorem turn_enumT {P : Program} {w : World} {K : PySem.W.Frag} {elts : List Expr} {kk : Nat} {tpos : Pos} (a e it : Addr) (hei : e ≠ it) (hai : a ≠ it) (hae : a ≠ e) :
    Turn P w K (.Tuple elts kk tpos) (IteT K a) [e, it] e (fun i h => (∃ old, IsEnum h e it ((i : Nat) : Int) old) ∧ h.IsTupleIter it a i) where
  mem := by simp
  obj := fun i h st b hb => by
    obtain ⟨⟨old, he⟩, ⟨o, ho, hc, hd⟩⟩ := st
    have e' : b = e ∨ b = it := by simpa using hb
    rcases e' with z | z
    · rw [z]; exact ⟨_, he, fun v q => nomatch q⟩
    · rw [z]; exact ⟨o, ho, fun v q => by rw [hd] at q; cases q⟩
  keep := fun i h h' st k => let ⟨⟨old, he⟩, hi⟩ := st; ⟨⟨old, k e (by simp) _ he⟩, Heap.IsTupleIter.at (h := h) hi fun o q => k it (by simp) o q⟩
  item := by
    intro X hP hw hK hc i pins s σ H E I hf st hg
    subst hP hw hK
    obtain ⟨⟨old, he⟩, hit⟩ := st
    obtain ⟨xs, x, hq, hx⟩ := hg
    obtain ⟨its, rv, p, hz⟩ := I.tuple hq
    obtain ⟨u, hu, ru⟩ := rv.get hx
    have hel : e < s.heap.objs.size := Heap.lt_size he
    have hil : it < s.heap.objs.size := by obtain ⟨_, q, _⟩ := hit; exact Heap.lt_size q
    have m1 : i < its.toArray.size := by rw [List.size_toArray]; exact (List.getElem?_eq_some_iff.mp hu).1
    refine wpAny_pyNext_enum_itemC (Draws.tuple (A := X.A.in1) (show X.A.in1.handled = none from I.ok.hd hc) it a hai its.toArray) he ⟨hit, p⟩ m1 hei (by simp [hei, Ne.symm hae]) fun y h' tk e1 ho hit' hT hsz hk => ?_
    have e1 : y = u := by simpa [hu] using e1.symm
    subst e1
    refine ⟨_, rfl, wpAny_letOwnedTupleGo_enum (s := { s with heap := h', toks := tk + 1 }) ho fun h'' he' sb => ?_⟩
    have hT2 : h''.get? s.heap.objs.size = some { cls := .type "tuple", data := .seq #[.int i tk, y] } := (sb.2 _ (Nat.ne_of_gt hel)).trans hT
    have new : ObjOk X.prog X.w (upd H s.heap.objs.size (.tup [.int (i : Nat), x])) h'' s.heap.objs.size (.tup [.int (i : Nat), x]) :=
      ⟨by show 2 ≤ sizeLine; decide, [.int i tk, y], .cons ⟨_, rfl⟩ (.cons ru .nil), ⟨_, hT2, rfl, _, rfl⟩⟩
    have I1 : Inv X pins σ (upd H s.heap.objs.size (.tup [.int (i : Nat), x])) { s with heap := h'', toks := tk + 1 } :=
      I.turnedNew (ch := [e, it]) (fun b ob hb q => (sb.2 b (fun z => hb (by simp [z]))).trans (hk b ob (fun z => hb (by simp [z])) (fun z => hb (by simp [z])) q)) hf (Nat.le_refl _) new
    refine ⟨.ref s.heap.objs.size, _, I1, rfl, ⟨_, x, rfl, I.hok.fresh (Nat.le_refl _), rfl, fun ys hy => by rw [I.tuple_inj hy hq]; exact hx⟩, ⟨⟨y, ?_⟩, Heap.IsTupleIter.at hit'.1 fun o q => (sb.2 it (Ne.symm hei)).trans q⟩, fun b hb => ?_⟩
    · have e1 : ((i + 1 : Nat) : Int) = (i : Int) + 1 := by omega
      rw [e1]; exact he'
    · have hb' : b < s.heap.objs.size := by
        have e' : b = e ∨ b = it := by simpa using hb
        rcases e' with z | z
        · rw [z]; exact hel
        · rw [z]; exact hil
      rw [upd_ne (Nat.ne_of_lt hb')]
      exact (hf b hb).1
  done := by
    intro X hP hw hK hc i pins s σ H E I hf st hg
    subst hP hw hK
    obtain ⟨⟨old, he⟩, hit⟩ := st
    obtain ⟨xs, hq, hx⟩ := hg
    obtain ⟨its, rv, p, hz⟩ := I.tuple hq
    obtain ⟨f0, f1, f2, f3, f4, f5⟩ := hf it (by simp)
    have hl := rv.length
    have hn : i = its.toArray.size := by rw [List.size_toArray]; omega
    subst hn
    exact wpAny_pyNext_enum_endD (Draws.tuple (A := X.A.in1) (show X.A.in1.handled = none from I.ok.hd hc) it a hai its.toArray) he ⟨hit, p⟩ fun h' eb => ⟨rfl, I.turned (t' := s.toks) (fun b o hb q => eb b o hb q) f0 f1 f3 f4 f5⟩
  self := fun A i s Q E st h => let ⟨⟨_, he⟩, _⟩ := st; wpAny_pyIter_enum he h
def iEnumT (K : PySem.W.Frag) (ta : TA) : TI := fun σ H R => ta σ H fun vs H1 => ∃ a xs, vs = [.ref a] ∧ SqT K H1 a xs ∧ R (IteT K a) H1
theorem pi_enumT {X : Cx} {e : Expr} {ta : TA} {p pos tpos : Pos} {elts : List Expr} {kk : Nat} (hg : Gl X "enumerate") (hm : X.mg "enumerate" = none) (ha : PA X [e] ta) (hs : starEach [e] X.env = [(false, eval e X.env)] := by rfl) :
    PI X (.Tuple elts kk tpos) (.Call (.Name "enumerate" p) [e] [] pos) (iEnumT X.K ta) := by
  refine ⟨fun pins s σ H R I h => ?_⟩
  refine Call_ (ld_blt I hg hm boot_enumerate (PyProof.Rows.callWith_type1 (thn (ha.run pos pins s σ H _ I h) fun us s1 ⟨vs, H1, I1, r1, q1⟩ => ?_) hs rfl))
  obtain ⟨a, xs, ex, hq, q⟩ := q1
  subst ex
  cases r1 with
  | cons r rr =>
    cases rr
    cases r
    obtain ⟨its, rv, p', hz⟩ := I1.tuple hq
    refine call_enumT (items := its.toArray) p' fun h' he hit hk => wpAny_pyIter_enum he ?_
    have I2 : Inv X pins σ H1 { s1 with heap := h' } := I1.kept (t' := s1.toks) hk
    have ha : a < s1.heap.objs.size := by obtain ⟨_, q, _⟩ := p'; exact Heap.lt_size q
    refine ⟨s1.heap.objs.size + 1, [s1.heap.objs.size + 1, s1.heap.objs.size], _, _, H1, rfl, I2, turn_enumT a (s1.heap.objs.size + 1) s1.heap.objs.size (Nat.succ_ne_self _) (Nat.ne_of_lt ha) (Nat.ne_of_lt (Nat.lt_succ_of_lt ha)), ⟨⟨.none, he⟩, hit⟩, fun b hb => ?_, q⟩
    have e' : b = s1.heap.objs.size + 1 ∨ b = s1.heap.objs.size := by simpa using hb
    have hle : s1.heap.objs.size ≤ b := by
      rcases e' with z | z
      · rw [z]; exact Nat.le_add_right _ _
      · rw [z]; exact Nat.le_refl _
    exact I1.fpOk hle (I1.hok.fresh hle)
theorem walk_enumT {K : PySem.W.Frag} {a : Addr} {xs : List V} : Walk (IteT K a) xs.length (fun H => SqT K H a xs) (YPair (fun i => some (.int (i : Nat))) (fun i => xs[i]?)) := by
  refine ⟨fun i _ hi q => ⟨xs, xs[i], q, by simp [hi]⟩, fun _ q => ⟨xs, q, rfl⟩, fun i H v H' _ q y => ?_⟩
  obtain ⟨T, x, h1, h2, h3, h4⟩ := y
  exact ⟨T, .int (i : Nat), x, h1, h2, h3, rfl, h4 xs q⟩
end Mi
/-! Part C: the state of the machine in the abstract heap; steps. -/
namespace Mi
open PySem PySem.Spec L2
open PyProof.Rows hiding St
variable {e : En}
inductive Dps (e : En) (w : Wd) (H : Hp) : List (List D) → List V → List Addr → Prop
  | nil : Dps e w H [] [] []
  | cons {ds : List D} {us : List V} {b : Addr} {rs : List (List D)} {ws : List V} {fp : List Addr} : H b = some (.lst us) → Rps e w ds us → Dps e w H rs ws fp → Dps e w H (ds :: rs) (.ref b :: ws) (b :: fp)
/-- a slot and what it owns -/
inductive SlO (e : En) (w : Wd) (H : Hp) : Sl → Option V → List Addr → Prop
  | un {x : Option V} : SlO e w H .un x []
  | va {d : D} {v : V} : Rp e w d v → SlO e w H (.va d) (some v) []
  | ow {a : Addr} {ds : List D} {ws : List V} : H a = some (.lst ws) → Rps e w ds ws → SlO e w H (.ow (.lst ds)) (some (.ref a)) [a]
  | od {d : Addr} {xs : List Ent} {ks vs : List D} : H d = some (dctO e.P e.w d xs) → Rps e w ks (xs.map kRef) → Rps e w vs (xs.map kVal) → Paired EntD ks xs → SlO e w H (.ow (.dic ks vs)) (some (.ref d)) [d]
  | dp {a : Addr} {rs : List (List D)} {ws : List V} {fp : List Addr} : H a = some (.lst ws) → Dps e w H rs ws fp → SlO e w H (.dp rs) (some (.ref a)) (a :: fp)
inductive SlsR (e : En) (w : Wd) (H : Hp) : List Sl → St → List Addr → Prop
  | nil : SlsR e w H [] [] []
  | cons {s : Sl} {x : Option V} {f fs : List Addr} {ss : List Sl} {xs : St} : SlO e w H s x f → SlsR e w H ss xs fs → SlsR e w H (s :: ss) (x :: xs) (f ++ fs)
inductive FdR (e : En) (w : Wd) (H : Hp) : List (Str × Sl) → List (Str × V) → List Addr → Prop
  | nil : FdR e w H [] [] []
  | cons {n : Str} {s : Sl} {v : V} {f fs : List Addr} {ss : List (Str × Sl)} {xs : List (Str × V)} : SlO e w H s (some v) f → FdR e w H ss xs fs → FdR e w H ((n, s) :: ss) ((n, v) :: xs) (f ++ fs)
inductive ObsR (e : En) (w : Wd) (H : Hp) : List Ob → List Addr → List Addr → Prop
  | nil : ObsR e w H [] [] []
  | cons {o : Ob} {a dx : Addr} {fv : List (Str × V)} {f fs : List Addr} {os : List Ob} {as : List Addr} : H a = some (.ins (e.ca o.c) dx fv) → FdR e w H o.fs fv f → ObsR e w H os as fs → ObsR e w H (o :: os) (a :: as) (a :: (f ++ fs))
theorem Dps.mono {w w' : Wd} {H H' : Hp} (l : w.Le w') : ∀ {rs : List (List D)} {ws : List V} {fp : List Addr}, Dps e w H rs ws fp → (∀ a ∈ fp, ∀ o, H a = some o → H' a = some o) → Dps e w' H' rs ws fp
  | _, _, _, .nil, _ => .nil
  | _, _, _, .cons h r t, k => .cons (k _ List.mem_cons_self _ h) (r.mono l) (t.mono l fun a ha => k a (List.mem_cons_of_mem _ ha))
theorem SlO.mono {w w' : Wd} {H H' : Hp} (l : w.Le w') {s : Sl} {x : Option V} {f : List Addr} (r : SlO e w H s x f) (k : ∀ a ∈ f, ∀ o, H a = some o → H' a = some o) : SlO e w' H' s x f := by
  cases r with
  | un => exact .un
  | va r => exact .va (r.mono l)
  | ow h r => exact .ow (k _ (by simp) _ h) (r.mono l)
  | od h r1 r2 p => exact .od (k _ (by simp) _ h) (r1.mono l) (r2.mono l) p
  | dp h r => exact .dp (k _ (by simp) _ h) (r.mono l fun a ha => k a (by simp [ha]))
theorem SlsR.mono {w w' : Wd} {H H' : Hp} (l : w.Le w') : ∀ {ss : List Sl} {xs : St} {fs : List Addr}, SlsR e w H ss xs fs → (∀ a ∈ fs, ∀ o, H a = some o → H' a = some o) → SlsR e w' H' ss xs fs
  | _, _, _, .nil, _ => .nil
  | _, _, _, .cons r t, k => .cons (r.mono l fun a ha => k a (by simp [ha])) (t.mono l fun a ha => k a (by simp [ha]))
theorem FdR.mono {w w' : Wd} {H H' : Hp} (l : w.Le w') : ∀ {ss : List (Str × Sl)} {xs : List (Str × V)} {fs : List Addr}, FdR e w H ss xs fs → (∀ a ∈ fs, ∀ o, H a = some o → H' a = some o) → FdR e w' H' ss xs fs
  | _, _, _, .nil, _ => .nil
  | _, _, _, .cons r t, k => .cons (r.mono l fun a ha => k a (by simp [ha])) (t.mono l fun a ha => k a (by simp [ha]))
theorem ObsR.mono {w w' : Wd} {H H' : Hp} (l : w.Le w') : ∀ {os : List Ob} {as fs : List Addr}, ObsR e w H os as fs → (∀ a ∈ fs, ∀ o, H a = some o → H' a = some o) → ObsR e w' H' os as fs
  | _, _, _, .nil, _ => .nil
  | _, _, _, .cons h r t, k => .cons (k _ (by simp) _ h) (r.mono l fun a ha => k a (by simp [ha])) (t.mono l fun a ha => k a (by simp [ha]))
theorem Dps.there {w : Wd} {H : Hp} : ∀ {rs : List (List D)} {ws : List V} {fp : List Addr}, Dps e w H rs ws fp → ∀ a ∈ fp, ∃ ws, H a = some (.lst ws)
  | _, _, _, .cons h r t, a, ha => by
    rcases List.mem_cons.mp ha with rfl | ha
    · exact ⟨_, h⟩
    · exact t.there a ha
/-- what is owned is a list, an instance or a dict -/
inductive Big : HO → Prop
  | lst (ws : List V) : Big (.lst ws)
  | ins (C dx : Addr) (fs : List (Str × V)) : Big (.ins C dx fs)
  | dct (P : Program) (w : World) (d : Addr) (xs : List Ent) : Big (dctO P w d xs)
theorem Big.tbl {ps : Array Value} (h : Big (.tbl ps)) : False := by
  generalize z : HO.tbl ps = o at h
  cases h with
  | lst => cases z
  | ins => cases z
  | dct P w d xs => exact dctO_tbl z.symm
theorem Big.code {c : Addr} {q : Str} (h : Big (LamX.CodeO c q)) : False := by
  generalize z : LamX.CodeO c q = o at h
  cases h with
  | lst => cases z
  | ins => cases z
  | dct P w d xs => exact dctO_code z.symm
theorem SlO.there {w : Wd} {H : Hp} {s : Sl} {x : Option V} {f : List Addr} (r : SlO e w H s x f) : ∀ a ∈ f, ∃ o, H a = some o ∧ Big o := by
  intro a ha
  cases r with
  | un => simp at ha
  | va r => simp at ha
  | ow h r => simp at ha; subst ha; exact ⟨_, h, .lst _⟩
  | od h r1 r2 p => simp at ha; subst ha; exact ⟨_, h, .dct _ _ _ _⟩
  | dp h r =>
    rcases List.mem_cons.mp ha with rfl | ha
    · exact ⟨_, h, .lst _⟩
    · obtain ⟨ws, q⟩ := r.there a ha
      exact ⟨_, q, .lst _⟩
theorem SlsR.there {w : Wd} {H : Hp} : ∀ {ss : List Sl} {xs : St} {fs : List Addr}, SlsR e w H ss xs fs → ∀ a ∈ fs, ∃ o, H a = some o ∧ Big o
  | _, _, _, .nil, a, ha => by simp at ha
  | _, _, _, .cons r t, a, ha => by
    rcases List.mem_append.mp ha with ha | ha
    · exact r.there a ha
    · exact t.there a ha
theorem FdR.there {w : Wd} {H : Hp} : ∀ {ss : List (Str × Sl)} {xs : List (Str × V)} {fs : List Addr}, FdR e w H ss xs fs → ∀ a ∈ fs, ∃ o, H a = some o ∧ Big o
  | _, _, _, .nil, a, ha => by simp at ha
  | _, _, _, .cons r t, a, ha => by
    rcases List.mem_append.mp ha with ha | ha
    · exact r.there a ha
    · exact t.there a ha
theorem ObsR.there {w : Wd} {H : Hp} : ∀ {os : List Ob} {as fs : List Addr}, ObsR e w H os as fs → ∀ a ∈ fs, ∃ o, H a = some o ∧ Big o
  | _, _, _, .nil, a, ha => by simp at ha
  | _, _, _, .cons h r t, a, ha => by
    rcases List.mem_cons.mp ha with rfl | ha
    · exact ⟨_, h, .ins _ _ _⟩
    · rcases List.mem_append.mp ha with ha | ha
      · exact r.there a ha
      · exact t.there a ha
theorem SlsR.length {w : Wd} {H : Hp} : ∀ {ss : List Sl} {xs : St} {fs : List Addr}, SlsR e w H ss xs fs → ss.length = xs.length
  | _, _, _, .nil => rfl
  | _, _, _, .cons _ t => by simp [t.length]
/-- one slot, and another one in its place -/
theorem SlsR.at {w : Wd} {H : Hp} : ∀ {ss : List Sl} {xs : St} {fs : List Addr} {i : Nat} {s : Sl}, SlsR e w H ss xs fs → ss[i]? = some s →
    ∃ x f f1 f2, xs[i]? = some x ∧ SlO e w H s x f ∧ fs = f1 ++ (f ++ f2) ∧ ∀ (w' : Wd) (H' : Hp), w.Le w' → (∀ a, a ∈ f1 ∨ a ∈ f2 → ∀ o, H a = some o → H' a = some o) → ∀ s' x' f', SlO e w' H' s' x' f' → SlsR e w' H' (ss.set i s') (xs.set i x') (f1 ++ (f' ++ f2))
  | _, _, _, i, _, .nil, h => by simp at h
  | s :: ss, x :: xs, _, 0, _, .cons (f := f) (fs := fs) r t, h => by
    simp at h
    subst h
    exact ⟨x, f, [], fs, rfl, r, rfl, fun w' H' l k s' x' f' r' => SlsR.cons (f := f') r' (t.mono l fun a ha => k a (.inr ha))⟩
  | s :: ss, x :: xs, _, i + 1, _, .cons (f := f) (fs := fs) r t, h => by
    obtain ⟨y, g, g1, g2, h1, h2, h3, h4⟩ := t.at (i := i) (by simpa using h)
    refine ⟨y, g, f ++ g1, g2, by simpa using h1, h2, by rw [h3, List.append_assoc], fun w' H' l k s' x' f' r' => ?_⟩
    have q := SlsR.cons (r.mono l fun a ha => k a (.inl (by simp [ha]))) (h4 w' H' l (fun a ha => k a (by simp; grind)) s' x' f' r')
    rw [← List.append_assoc] at q
    exact q

/-- the state -/
structure SR (e : En) (w : Wd) (H : Hp) (fp : Addr → Prop) (m : Ms) (σ : St) : Prop where
  sub : ∀ a o, w.I a = some o → H a = some o
  dis : ∀ a, fp a → w.I a = none
  tab : LamX.Tabs e.T H
  parts : ∃ fs fo, SlsR e w H m.sl σ fs ∧ ObsR e w H m.ob w.om fo ∧ (fs ++ fo).Nodup ∧ ∀ a ∈ fs ++ fo, fp a
theorem SR.len {w : Wd} {H : Hp} {fp : Addr → Prop} {m : Ms} {σ : St} (s : SR e w H fp m σ) : m.sl.length = σ.length := by
  obtain ⟨fs, fo, h1, h2, h3, h4⟩ := s.parts
  exact h1.length
/-- nothing stands there, but perhaps a table -/
def Nt (H : Hp) (a : Addr) : Prop := ∀ o, H a = some o → ∃ ps, o = .tbl ps
theorem Nt.of {H : Hp} {a : Addr} (h : H a = none) : Nt H a := fun o q => by rw [h] at q; cases q
theorem Nt.no {H : Hp} {a : Addr} {o : HO} (n : Nt H a) (h : H a = some o) (t : ∀ ps, o ≠ .tbl ps) : False := by
  obtain ⟨ps, q⟩ := n o h
  exact t ps q
/-- what a run may have changed -/
structure Xt (w : Wd) (H : Hp) (fp : Addr → Prop) (w' : Wd) (H' : Hp) (fp' : Addr → Prop) : Prop where
  le : w.Le w'
  keep : ∀ a o, H a = some o → ¬ fp a → (∀ ps, o ≠ .tbl ps) → H' a = some o
  fpn : ∀ a, fp' a → fp a ∨ Nt H a
  inw : ∀ a o, w'.I a = some o → w.I a = some o ∨ fp a ∨ Nt H a
theorem Xt.refl {w : Wd} {H : Hp} {fp : Addr → Prop} : Xt w H fp w H fp := ⟨.refl w, fun _ _ h _ _ => h, fun _ h => .inl h, fun _ _ h => .inl h⟩
theorem Xt.nt_of {w w' : Wd} {H H' : Hp} {fp fp' : Addr → Prop} (x : Xt w H fp w' H' fp') {a : Addr} (h : Nt H' a) : fp a ∨ Nt H a := by
  by_cases n : fp a
  · exact .inl n
  · refine .inr fun o q => ?_
    by_cases t : ∃ ps, o = .tbl ps
    · exact t
    · exact h o (x.keep a o q n fun ps z => t ⟨ps, z⟩)
theorem Xt.trans {w w1 w2 : Wd} {H H1 H2 : Hp} {fp fp1 fp2 : Addr → Prop} (x : Xt w H fp w1 H1 fp1) (y : Xt w1 H1 fp1 w2 H2 fp2) : Xt w H fp w2 H2 fp2 := by
  refine ⟨x.le.trans y.le, fun a o h n t => y.keep a o (x.keep a o h n t) (fun q => ?_) t, fun a q => ?_, fun a o q => ?_⟩
  · rcases x.fpn a q with z | z
    · exact n z
    · exact z.no h t
  · rcases y.fpn a q with z | z
    · exact x.fpn a z
    · exact x.nt_of z
  · rcases y.inw a o q with z | z | z
    · exact x.inw a o z
    · exact .inr (x.fpn a z)
    · exact .inr (x.nt_of z)
/-- heaps that differ at owned or new places alone keep the tables -/
theorem tabs_keep {T : List (Addr × Str)} {H H' : Hp} (t : LamX.Tabs T H) (k : ∀ b o, H b = some o → ¬ Big o → H' b = some o) : LamX.Tabs T H' := fun p hp => by
  obtain ⟨ps, h1, h2, h3⟩ := t p hp
  refine ⟨ps, k _ _ h1 Big.tbl, h2, fun pos cv hc => ?_⟩
  obtain ⟨c, e1, e2⟩ := h3 pos cv hc
  exact ⟨c, e1, k _ _ e2 Big.code⟩
theorem upd_keep {H : Hp} {p : Addr} {o : HO} (h : H p = none) : ∀ b u, H b = some u → upd H p o b = some u := fun b u q => by
  rw [upd_ne (ne_of_none q h)]; exact q
/-- no table -/
def NoTbl (o : HO) : Prop := ∀ ps, o ≠ .tbl ps
theorem noTbl_lst (xs : List V) : NoTbl (.lst xs) := fun ps z => by cases z
theorem noTbl_tup (xs : List V) : NoTbl (.tup xs) := fun ps z => by cases z
/-- .. and one more -/
noncomputable def Wd.plus (w : Wd) (p : Addr) (o : HO) (h : NoTbl o) : Wd := ⟨upd w.I p o, w.om, fun a ps z => by
  by_cases q : a = p
  · subst q
    rw [upd_same] at z
    cases z
    exact h ps rfl
  · rw [upd_ne q] at z
    exact w.nt a ps z⟩
/-- a new thing that is never changed -/
theorem SR.add {w : Wd} {H : Hp} {fp : Addr → Prop} {m : Ms} {σ : St} {p : Addr} {o : HO} (s : SR e w H fp m σ) (ho : NoTbl o) (h : H p = none) :
    Xt w H fp (w.plus p o ho) (upd H p o) (fun a => fp a ∧ a ≠ p) ∧ SR e (w.plus p o ho) (upd H p o) (fun a => fp a ∧ a ≠ p) m σ := by
  have hI : w.I p = none := by
    cases q : w.I p with
    | none => rfl
    | some u => rw [s.sub p u q] at h; cases h
  have le : w.Le (w.plus p o ho) := ⟨upd_keep hI, [], by simp [Wd.plus]⟩
  obtain ⟨fs, fo, h1, h2, h3, h4⟩ := s.parts
  have np : ∀ a ∈ fs ++ fo, a ≠ p := fun a ha q => by
    subst q
    have : ∃ o, H a = some o ∧ Big o := (List.mem_append.mp ha).elim (h1.there a) (h2.there a)
    obtain ⟨o, q, _⟩ := this
    rw [q] at h; cases h
  refine ⟨⟨le, fun a u q _ _ => upd_keep h a u q, fun a q => .inl q.1, fun a u q => ?_⟩, fun a u q => ?_, fun a q => ?_, tabs_keep s.tab fun b u q _ => upd_keep h b u q,
    fs, fo, h1.mono le fun a _ u q => upd_keep h a u q, h2.mono le fun a _ u q => upd_keep h a u q, h3, fun a ha => ⟨h4 a ha, np a ha⟩⟩
  · by_cases z : a = p
    · subst z; exact .inr (.inr (.of h))
    · have q2 : upd w.I p o a = some u := q
      rw [upd_ne z] at q2
      exact .inl q2
  · by_cases z : a = p
    · subst z; exact (upd_same.trans (upd_same.symm.trans q))
    · have q2 : upd w.I p o a = some u := q
      rw [upd_ne z] at q2
      rw [upd_ne z]; exact s.sub a u q2
  · show upd w.I p o a = none
    rw [upd_ne q.2]; exact s.dis a q.1
/-- behind an operation, its value as one that is not changed any more -/
theorem SR.fin {w : Wd} {H H' : Hp} {fp : Addr → Prop} {m : Ms} {σ : St} {d : D} {v : V} (s : SR e w H fp m σ) (f : FinG e w H d v H') :
    ∃ w' fp', Xt w H fp w' H' fp' ∧ SR e w' H' fp' m σ ∧ Rp e w' d v := by
  rcases f with f | ⟨rfl, r⟩
  · cases f with
    | id r _ => exact ⟨w, fp, .refl, s, r⟩
    | lst h r =>
      obtain ⟨x, s'⟩ := s.add (noTbl_lst _) h
      exact ⟨_, _, x, s', .lst upd_same (r.mono x.le)⟩
    | tup h r =>
      obtain ⟨x, s'⟩ := s.add (noTbl_tup _) h
      exact ⟨_, _, x, s', .tup upd_same (r.mono x.le)⟩
    | dic h r1 r2 p =>
      obtain ⟨x, s'⟩ := s.add (fun ps z => dctO_tbl z) h
      exact ⟨_, _, x, s', .dic upd_same (r1.mono x.le) (r2.mono x.le) p⟩
  · exact ⟨w, fp, .refl, s, r⟩
theorem nodup_repl {f1 f f' f2 fo : List Addr} (h : (f1 ++ (f ++ f2) ++ fo).Nodup) (h' : f'.Nodup) (k : ∀ a ∈ f', a ∈ f ∨ a ∉ f1 ++ (f ++ f2) ++ fo) : (f1 ++ (f' ++ f2) ++ fo).Nodup := by
  simp only [List.nodup_append, List.mem_append] at h k ⊢
  grind
/-- a slot is laid anew, the heap as it is -/
theorem SR.put {w : Wd} {H : Hp} {fp : Addr → Prop} {m : Ms} {σ : St} {i : Nat} {s' : Sl} {x' : Option V} {f' : List Addr} (s : SR e w H fp m σ) (hi : i < m.sl.length) (r : SlO e w H s' x' f') (nd : f'.Nodup) (hf : ∀ a ∈ f', ¬ fp a ∧ w.I a = none) :
    SR e w H (fun a => fp a ∨ a ∈ f') (m.put i s') (σ.set i x') := by
  obtain ⟨fs, fo, h1, h2, h3, h4⟩ := s.parts
  obtain ⟨x, f, f1, f2, q1, q2, rfl, q4⟩ := h1.at (i := i) (s := m.sl[i]) (by simp [hi])
  refine ⟨s.sub, fun a q => q.elim (s.dis a) fun q => (hf a q).2, s.tab, _, fo, q4 w H (.refl w) (fun _ _ _ h => h) _ _ _ r, h2, nodup_repl h3 nd fun a ha => .inr fun q => (hf a ha).1 (h4 a q), fun a ha => ?_⟩
  simp only [List.mem_append] at ha h4 ⊢
  grind
theorem SlsR.append {w : Wd} {H : Hp} : ∀ {ss ss' : List Sl} {xs xs' : St} {fs fs' : List Addr}, SlsR e w H ss xs fs → SlsR e w H ss' xs' fs' → SlsR e w H (ss ++ ss') (xs ++ xs') (fs ++ fs')
  | _, _, _, _, _, _, .nil, h => h
  | _, _, _, _, _, _, .cons (f := f) r t, h => by
    rw [List.append_assoc]
    exact .cons (f := f) r (t.append h)
theorem SlsR.split {w : Wd} {H : Hp} : ∀ {ss ss' : List Sl} {xs xs' : St} {fs : List Addr}, SlsR e w H (ss ++ ss') (xs ++ xs') fs → ss.length = xs.length → ∃ f1 f2, fs = f1 ++ f2 ∧ SlsR e w H ss xs f1 ∧ SlsR e w H ss' xs' f2
  | [], _, [], _, fs, h, _ => ⟨[], fs, rfl, .nil, h⟩
  | [], _, _ :: _, _, _, _, hl => by simp at hl
  | _ :: _, _, [], _, _, _, hl => by simp at hl
  | s :: ss, ss', x :: xs, xs', _, .cons (f := f) r t, hl => by
    obtain ⟨f1, f2, rfl, h1, h2⟩ := SlsR.split (ss := ss) (xs := xs) t (by simpa using hl)
    exact ⟨f ++ f1, f2, by simp, .cons r h1, h2⟩
theorem SlsR.uns {w : Wd} {H : Hp} : ∀ (n : Nat), SlsR e w H (List.replicate n .un) (List.replicate n none) []
  | 0 => .nil
  | n + 1 => SlsR.cons (f := []) .un (SlsR.uns n)
/-- what other slots own is as it was: slots behind -/
theorem SR.frame {w : Wd} {H : Hp} {fp : Addr → Prop} {ss1 ss2 : List Sl} {ob : List Ob} {xs1 xs2 : St} (s : SR e w H fp ⟨ss1 ++ ss2, ob⟩ (xs1 ++ xs2)) (hl : ss1.length = xs1.length) :
    ∃ fp1 : Addr → Prop, SR e w H fp1 ⟨ss1, ob⟩ xs1 ∧ ∀ (w' : Wd) (H' : Hp) (fp1' : Addr → Prop) (ss1' : List Sl) (ob' : List Ob) (xs1' : St), Xt w H fp1 w' H' fp1' → SR e w' H' fp1' ⟨ss1', ob'⟩ xs1' →
      ∃ fp', Xt w H fp w' H' fp' ∧ SR e w' H' fp' ⟨ss1' ++ ss2, ob'⟩ (xs1' ++ xs2) := by
  obtain ⟨fs, fo, h1, h2, h3, h4⟩ := s.parts
  obtain ⟨f1, f2, rfl, g1, g2⟩ := SlsR.split h1 hl
  refine ⟨fun a => a ∈ f1 ++ fo, ⟨s.sub, fun a ha => s.dis a (h4 a (by simp at ha ⊢; grind)), s.tab, f1, fo, g1, h2, by simp only [List.nodup_append, List.mem_append] at h3 ⊢; grind, fun _ h => h⟩, fun w' H' fp1' ss1' ob' xs1' x s' => ?_⟩
  obtain ⟨f1', fo', k1, k2, k3, k4⟩ := s'.parts
  have n2 : ∀ a ∈ f2, a ∉ f1 ++ fo := fun a ha q => by simp only [List.nodup_append, List.mem_append] at h3 q; grind
  have kp : ∀ a ∈ f2, ∀ o, H a = some o → H' a = some o := fun a ha o q => x.keep a o q (n2 a ha) fun ps z => by
    obtain ⟨o', q1, q2⟩ := g2.there a ha
    rw [q] at q1; cases q1
    subst z
    exact Big.tbl q2
  have no : ∀ a ∈ f2, ¬ Nt H a := fun a ha n => by
    obtain ⟨o', q1, q2⟩ := g2.there a ha
    refine n.no q1 fun ps z => ?_
    subst z
    exact Big.tbl q2
  have sep : ∀ a, a ∈ f2 → ¬ fp1' a := fun a ha q => by
    rcases x.fpn a q with z | z
    · exact n2 a ha z
    · exact no a ha z
  refine ⟨fun a => fp1' a ∨ a ∈ f2, ⟨x.le, fun a o q n => x.keep a o q fun z => n (h4 a (by simp at z ⊢; grind)), fun a q => ?_, fun a o q => ?_⟩,
    ⟨s'.sub, fun a q => ?_, s'.tab, f1' ++ f2, fo', k1.append (g2.mono x.le kp), k2, ?_, fun a ha => ?_⟩⟩
  · rcases q with q | q
    · rcases x.fpn a q with z | z
      · exact .inl (h4 a (by simp at z ⊢; grind))
      · exact .inr z
    · exact .inl (h4 a (by simp [q]))
  · rcases x.inw a o q with z | z | z
    · exact .inl z
    · exact .inr (.inl (h4 a (by simp at z ⊢; grind)))
    · exact .inr (.inr z)
  · rcases q with q | q
    · exact s'.dis a q
    · cases q1 : w'.I a with
      | none => rfl
      | some o =>
        rcases x.inw a o q1 with z | z | z
        · rw [s.dis a (h4 a (by simp [q]))] at z; cases z
        · exact (n2 a q z).elim
        · exact (no a q z).elim
  · have q1 : f2.Nodup := by simp only [List.nodup_append] at h3; grind
    have q2 : ∀ a ∈ f1' ++ fo', a ∉ f2 := fun a ha z => sep a z (k4 a ha)
    simp only [List.nodup_append, List.mem_append] at k3 q2 ⊢
    grind
  · simp only [List.mem_append] at ha k4
    grind
/-- .. slots ahead -/
theorem SR.frameF {w : Wd} {H : Hp} {fp : Addr → Prop} {ss1 ss2 : List Sl} {ob : List Ob} {xs1 xs2 : St} (s : SR e w H fp ⟨ss2 ++ ss1, ob⟩ (xs2 ++ xs1)) (hl : ss2.length = xs2.length) :
    ∃ fp1 : Addr → Prop, SR e w H fp1 ⟨ss1, ob⟩ xs1 ∧ ∀ (w' : Wd) (H' : Hp) (fp1' : Addr → Prop) (ss1' : List Sl) (ob' : List Ob) (xs1' : St), Xt w H fp1 w' H' fp1' → SR e w' H' fp1' ⟨ss1', ob'⟩ xs1' →
      ∃ fp', Xt w H fp w' H' fp' ∧ SR e w' H' fp' ⟨ss2 ++ ss1', ob'⟩ (xs2 ++ xs1') := by
  obtain ⟨fs, fo, h1, h2, h3, h4⟩ := s.parts
  obtain ⟨f2, f1, rfl, g2, g1⟩ := SlsR.split h1 hl
  have s2 : SR e w H fp ⟨ss1 ++ ss2, ob⟩ (xs1 ++ xs2) := ⟨s.sub, s.dis, s.tab, f1 ++ f2, fo, g1.append g2, h2, by simp only [List.nodup_append, List.mem_append] at h3 ⊢; grind, fun a ha => h4 a (by simp at ha ⊢; grind)⟩
  obtain ⟨fp1, a1, a2⟩ := s2.frame g1.length
  refine ⟨fp1, a1, fun w' H' fp1' ss1' ob' xs1' x s' => ?_⟩
  obtain ⟨fp', b1, b2⟩ := a2 w' H' fp1' ss1' ob' xs1' x s'
  obtain ⟨fs', fo', k1, k2, k3, k4⟩ := b2.parts
  obtain ⟨c1, c2, rfl, d1, d2⟩ := SlsR.split k1 s'.len
  exact ⟨fp', b1, b2.sub, b2.dis, b2.tab, c2 ++ c1, fo', d2.append d1, k2, by simp only [List.nodup_append, List.mem_append] at k3 ⊢; grind, fun a ha => k4 a (by simp at ha ⊢; grind)⟩
/-- slots ahead let go -/
theorem SR.dropF {w : Wd} {H : Hp} {fp : Addr → Prop} {ss1 ss2 : List Sl} {ob : List Ob} {xs1 xs2 : St} (s : SR e w H fp ⟨ss2 ++ ss1, ob⟩ (xs2 ++ xs1)) (hl : ss2.length = xs2.length) : SR e w H fp ⟨ss1, ob⟩ xs1 := by
  obtain ⟨fs, fo, h1, h2, h3, h4⟩ := s.parts
  obtain ⟨f2, f1, rfl, g2, g1⟩ := SlsR.split h1 hl
  exact ⟨s.sub, s.dis, s.tab, f1, fo, g1, h2, by simp only [List.nodup_append, List.mem_append] at h3 ⊢; grind, fun a ha => h4 a (by simp at ha ⊢; grind)⟩
theorem SR.dropB {w : Wd} {H : Hp} {fp : Addr → Prop} {ss1 ss2 : List Sl} {ob : List Ob} {xs1 xs2 : St} (s : SR e w H fp ⟨ss1 ++ ss2, ob⟩ (xs1 ++ xs2)) (hl : ss1.length = xs1.length) : SR e w H fp ⟨ss1, ob⟩ xs1 := by
  obtain ⟨fs, fo, h1, h2, h3, h4⟩ := s.parts
  obtain ⟨f1, f2, rfl, g1, g2⟩ := SlsR.split h1 hl
  exact ⟨s.sub, s.dis, s.tab, f1, fo, g1, h2, by simp only [List.nodup_append, List.mem_append] at h3 ⊢; grind, fun a ha => h4 a (by simp at ha ⊢; grind)⟩
/-- a value ahead -/
theorem SR.va {w : Wd} {H : Hp} {fp : Addr → Prop} {ss : List Sl} {ob : List Ob} {xs : St} {d : D} {v : V} (s : SR e w H fp ⟨ss, ob⟩ xs) (r : Rp e w d v) : SR e w H fp ⟨.va d :: ss, ob⟩ (some v :: xs) := by
  obtain ⟨fs, fo, h1, h2, h3, h4⟩ := s.parts
  exact ⟨s.sub, s.dis, s.tab, fs, fo, SlsR.cons (f := []) (.va r) h1, h2, h3, h4⟩
theorem SR.uns {w : Wd} {H : Hp} {fp : Addr → Prop} {ss : List Sl} {ob : List Ob} {xs : St} (s : SR e w H fp ⟨ss, ob⟩ xs) (n : Nat) : SR e w H fp ⟨ss ++ List.replicate n .un, ob⟩ (xs ++ List.replicate n none) := by
  obtain ⟨fs, fo, h1, h2, h3, h4⟩ := s.parts
  exact ⟨s.sub, s.dis, s.tab, fs ++ [], fo, h1.append (.uns n), h2, by simpa using h3, by simpa using h4⟩
end Mi
/-! Part C2: further steps of the state: a list of its own is let be, changed, lent. -/
namespace Mi
open PySem PySem.Spec L2
open PyProof.Rows hiding St
variable {e : En}
theorem set_same {α : Type} {xs : List α} {i : Nat} {x : α} (h : xs[i]? = some x) : xs.set i x = xs := by
  obtain ⟨hi, rfl⟩ := List.getElem?_eq_some_iff.mp h
  exact List.set_getElem_self hi
open Classical in
/-- what stands at L is not changed from now on -/
noncomputable def Wd.frz (w : Wd) (H : Hp) (L : List Addr) : Wd := ⟨fun b => if b ∈ L then (match H b with
  | some (.tbl _) => none
  | x => x) else w.I b, w.om, fun a ps z => by
  by_cases q : a ∈ L
  · simp only [if_pos q] at z
    split at z
    · cases z
    · rename_i h
      exact h ps z
  · simp only [if_neg q] at z
    exact w.nt a ps z⟩
theorem Wd.frz_le {w : Wd} {H : Hp} {L : List Addr} (h : ∀ a ∈ L, w.I a = none) : w.Le (w.frz H L) := by
  refine ⟨fun a o q => ?_, [], by simp [Wd.frz]⟩
  have n : a ∉ L := fun z => by rw [h a z] at q; cases q
  simp only [Wd.frz, if_neg n]; exact q
theorem Wd.frz_at {w : Wd} {H : Hp} {L : List Addr} {a : Addr} {ws : List V} (h : a ∈ L) (q : H a = some (.lst ws)) : (w.frz H L).I a = some (.lst ws) := by
  simp only [Wd.frz, if_pos h, q]
theorem Wd.frz_dct {w : Wd} {H : Hp} {L : List Addr} {a : Addr} {P : Program} {W : World} {xs : List Ent} (h : a ∈ L) (q : H a = some (dctO P W a xs)) : (w.frz H L).I a = some (dctO P W a xs) := by
  simp only [Wd.frz, if_pos h, q]
  rfl
theorem Wd.frz_in {w : Wd} {H : Hp} {L : List Addr} {a : Addr} {o : HO} (h : a ∈ L) (q : (w.frz H L).I a = some o) : H a = some o := by
  simp only [Wd.frz, if_pos h] at q
  split at q
  · cases q
  · exact q
theorem Dps.frz {w : Wd} {H : Hp} {L : List Addr} (l : w.Le (w.frz H L)) : ∀ {rs : List (List D)} {ws : List V} {fp : List Addr}, Dps e w H rs ws fp → (∀ a ∈ fp, a ∈ L) → Rps e (w.frz H L) (rs.map .lst) ws
  | _, _, _, .nil, _ => .nil
  | _, _, _, .cons h r t, k => .cons (.lst (Wd.frz_at (k _ List.mem_cons_self) h) (r.mono l)) (t.frz l fun a ha => k a (List.mem_cons_of_mem _ ha))
/-- the value that a slot holds -/
def valS : Sl → Option D
  | .un => none
  | .va d => some d
  | .ow d => some d
  | .dp rs => some (.lst (rs.map .lst))
theorem SlO.frz {w : Wd} {H : Hp} {s : Sl} {v : V} {f : List Addr} {d : D} (r : SlO e w H s (some v) f) (l : w.Le (w.frz H f)) (h : valS s = some d) : Rp e (w.frz H f) d v := by
  cases r with
  | un => cases h
  | va r => cases h; exact r.mono l
  | ow q r => cases h; exact .lst (Wd.frz_at (by simp) q) (r.mono l)
  | od q r1 r2 p => cases h; exact .dic (Wd.frz_dct (by simp) q) (r1.mono l) (r2.mono l) p
  | dp q r => cases h; exact .lst (Wd.frz_at (by simp) q) (r.frz l fun a ha => by simp [ha])
theorem nodup_mid {f f1 f2 fo : List Addr} (h : (f1 ++ (f ++ f2) ++ fo).Nodup) : f.Nodup := by
  simp only [List.nodup_append] at h
  exact h.1.2.1.1
/-- a name read as a value: what its slot owns is let be -/
theorem SR.frz {w : Wd} {H : Hp} {fp : Addr → Prop} {m : Ms} {σ : St} {i : Nat} {s : Sl} {d : D} (S : SR e w H fp m σ) (hi : m.sl[i]? = some s) (hd : valS s = some d) :
    ∃ v w' fp', σ[i]? = some (some v) ∧ Xt w H fp w' H fp' ∧ SR e w' H fp' (m.put i (.va d)) σ ∧ Rp e w' d v := by
  obtain ⟨fs, fo, h1, h2, h3, h4⟩ := S.parts
  obtain ⟨x, f, f1, f2, q1, q2, rfl, q4⟩ := h1.at hi
  cases x with
  | none => cases q2; cases hd
  | some v =>
    have hI : ∀ a ∈ f, w.I a = none := fun a ha => S.dis a (h4 a (by simp [ha]))
    have le := Wd.frz_le (H := H) hI
    have r := q2.frz le hd
    refine ⟨v, w.frz H f, fun a => fp a ∧ a ∉ f, q1, ⟨le, fun _ _ h _ _ => h, fun a z => .inl z.1, fun a o q => ?_⟩, ⟨fun a o q => ?_, fun a z => ?_, S.tab, ?_⟩, r⟩
    · by_cases z : a ∈ f
      · exact .inr (.inl (h4 a (by simp [z])))
      · simp only [Wd.frz, if_neg z] at q; exact .inl q
    · by_cases z : a ∈ f
      · exact Wd.frz_in z q
      · simp only [Wd.frz, if_neg z] at q; exact S.sub a o q
    · simp only [Wd.frz, if_neg z.2]; exact S.dis a z.1
    · have q5 := q4 (w.frz H f) H le (fun _ _ _ h => h) (.va d) (some v) [] (.va r)
      rw [set_same q1] at q5
      refine ⟨_, fo, q5, h2.mono le fun _ _ _ h => h, nodup_repl h3 .nil fun a ha => by simp at ha, fun a ha => ?_⟩
      simp only [List.mem_append, List.nodup_append] at ha h3 h4 ⊢
      grind
/-- the same as a statement about reading -/
theorem SR.rd {w : Wd} {H : Hp} {fp : Addr → Prop} {m m' : Ms} {σ : St} {i : Nat} {d : D} (S : SR e w H fp m σ) (h : rdN i m = .ok (d, m')) :
    ∃ v w' fp', σ[i]? = some (some v) ∧ Xt w H fp w' H fp' ∧ SR e w' H fp' m' σ ∧ Rp e w' d v := by
  unfold rdN at h
  cases q : m.sl[i]? with
  | none => rw [q] at h; cases h
  | some s =>
    rw [q] at h
    cases s with
    | un => cases h
    | va d' =>
      cases h
      obtain ⟨v, w', fp', h1, h2, h3, h4⟩ := S.frz q rfl
      refine ⟨v, w', fp', h1, h2, ?_, h4⟩
      have z : m.put i (.va d) = m := by unfold Ms.put; rw [set_same q]
      rw [z] at h3
      exact h3
    | ow d' => cases h; exact S.frz q rfl
    | dp rs => cases h; exact S.frz q rfl
/-- what a slot's name reads -/
theorem SR.var {w : Wd} {H : Hp} {fp : Addr → Prop} {m : Ms} {σ : St} {i : Nat} {s : Sl} (S : SR e w H fp m σ) (h : m.sl[i]? = some s) (hn : s ≠ .un) : ∃ v, σ[i]? = some (some v) := by
  obtain ⟨fs, fo, h1, h2, h3, h4⟩ := S.parts
  obtain ⟨x, f, f1, f2, q1, q2, _, _⟩ := h1.at h
  cases q2 with
  | un => exact (hn rfl).elim
  | va _ => exact ⟨_, q1⟩
  | ow _ _ => exact ⟨_, q1⟩
  | od _ _ _ _ => exact ⟨_, q1⟩
  | dp _ _ => exact ⟨_, q1⟩
/-- an operand read -/
def OdR (e : En) (w : Wd) (σ : St) : Od → V → Prop
  | .sl i, v => σ[i]? = some (some v)
  | .dd d, v => Rp e w d v
theorem OdR.mono {w w' : Wd} {σ : St} (l : w.Le w') : ∀ {o : Od} {v : V}, OdR e w σ o v → OdR e w' σ o v
  | .sl _, _, h => h
  | .dd _, _, h => Rp.mono l h
theorem SR.dr {w : Wd} {H : Hp} {fp : Addr → Prop} {m : Ms} {σ : St} {o : Od} {v : V} {d : D} (S : SR e w H fp m σ) (h : Mi.dr m o = some d) (r : OdR e w σ o v) : Rb e w H d v := by
  cases o with
  | dd d' => cases h; exact .inl r
  | sl i =>
    obtain ⟨fs, fo, h1, h2, h3, h4⟩ := S.parts
    unfold Mi.dr at h
    simp only at h
    cases q : m.sl[i]? with
    | none => rw [q] at h; cases h
    | some s =>
      obtain ⟨x, f, f1, f2, q1, q2, _, _⟩ := h1.at q
      rw [q] at h
      have r9 : σ[i]? = some (some v) := r
      rw [r9] at q1
      cases q1
      cases q2 with
      | un => cases h
      | va r => cases h; exact .inl r
      | ow z r' => cases h; exact .inr (.lst z r')
      | od z r1 r2 p => cases h; exact .inr (.dic z r1 r2 p)
      | dp z r => cases h
/-- a list of its own is changed -/
theorem SR.mut {w : Wd} {H : Hp} {fp : Addr → Prop} {m : Ms} {σ : St} {i : Nat} {ds ds' : List D} {v : V} (S : SR e w H fp m σ) (hi : m.sl[i]? = some (.ow (.lst ds))) (hv : σ[i]? = some (some v)) :
    ∃ a ws, v = .ref a ∧ H a = some (.lst ws) ∧ Rps e w ds ws ∧ ∀ ws', Rps e w ds' ws' → Xt w H fp w (upd H a (.lst ws')) fp ∧ SR e w (upd H a (.lst ws')) fp (m.put i (.ow (.lst ds'))) σ := by
  obtain ⟨fs, fo, h1, h2, h3, h4⟩ := S.parts
  obtain ⟨x, f, f1, f2, q1, q2, rfl, q4⟩ := h1.at hi
  cases q2 with
  | @ow a _ ws z r =>
  rw [hv] at q1
  cases q1
  refine ⟨a, ws, rfl, z, r, fun ws' r' => ?_⟩
  have fa : fp a := h4 a (by simp)
  have ne : ∀ b, b ∈ f1 ∨ b ∈ f2 ∨ b ∈ fo → b ≠ a := fun b hb q => by
    subst q
    simp only [List.mem_append, List.nodup_append, List.mem_singleton] at h3
    grind
  refine ⟨⟨.refl w, fun b o h n _ => (upd_ne (fun q : b = a => n (by rw [q]; exact fa))).trans h, fun b h => .inl h, fun _ _ h => .inl h⟩, fun b o h => ?_, S.dis, ?_, ?_⟩
  · have : b ≠ a := fun q => by
      rw [q, S.dis a fa] at h; cases h
    rw [upd_ne this]; exact S.sub b o h
  · refine tabs_keep S.tab fun b o h n => ?_
    refine (upd_ne fun q => ?_).trans h
    subst q; rw [z] at h; cases h; exact n (.lst _)
  · have q5 := q4 w (upd H a (.lst ws')) (.refl w) (fun b hb o h => by rw [upd_ne (ne b (hb.elim Or.inl fun z => .inr (.inl z)))]; exact h) (.ow (.lst ds')) (some (.ref a)) [a] (.ow upd_same r')
    rw [set_same hv] at q5
    exact ⟨_, fo, q5, h2.mono (.refl w) fun b hb o h => by rw [upd_ne (ne b (.inr (.inr hb)))]; exact h, h3, h4⟩
/-- a dict of its own is changed -/
theorem SR.mutD {w : Wd} {H : Hp} {fp : Addr → Prop} {m : Ms} {σ : St} {i : Nat} {ks vs : List D} {v : V} (S : SR e w H fp m σ) (hi : m.sl[i]? = some (.ow (.dic ks vs))) (hv : σ[i]? = some (some v)) :
    ∃ a xs, v = .ref a ∧ H a = some (dctO e.P e.w a xs) ∧ Rps e w ks (xs.map kRef) ∧ Rps e w vs (xs.map kVal) ∧ Paired EntD ks xs ∧
      ∀ ks' vs' xs', Rps e w ks' (xs'.map kRef) → Rps e w vs' (xs'.map kVal) → Paired EntD ks' xs' → Xt w H fp w (upd H a (dctO e.P e.w a xs')) fp ∧ SR e w (upd H a (dctO e.P e.w a xs')) fp (m.put i (.ow (.dic ks' vs'))) σ := by
  obtain ⟨fs, fo, h1, h2, h3, h4⟩ := S.parts
  obtain ⟨x, f, f1, f2, q1, q2, rfl, q4⟩ := h1.at hi
  cases q2 with
  | @od a xs _ _ z r1 r2 p =>
  rw [hv] at q1
  cases q1
  refine ⟨a, xs, rfl, z, r1, r2, p, fun ks' vs' xs' r1' r2' p' => ?_⟩
  have fa : fp a := h4 a (by simp)
  have ne : ∀ b, b ∈ f1 ∨ b ∈ f2 ∨ b ∈ fo → b ≠ a := fun b hb q => by
    subst q
    simp only [List.mem_append, List.nodup_append, List.mem_singleton] at h3
    grind
  refine ⟨⟨.refl w, fun b o h n _ => (upd_ne (fun q : b = a => n (by rw [q]; exact fa))).trans h, fun b h => .inl h, fun _ _ h => .inl h⟩, fun b o h => ?_, S.dis, ?_, ?_⟩
  · have : b ≠ a := fun q => by
      rw [q, S.dis a fa] at h; cases h
    rw [upd_ne this]; exact S.sub b o h
  · refine tabs_keep S.tab fun b o h n => ?_
    refine (upd_ne fun q => ?_).trans h
    subst q; rw [z] at h; cases h; exact n (.dct _ _ _ _)
  · have q5 := q4 w (upd H a (dctO e.P e.w a xs')) (.refl w) (fun b hb o h => by rw [upd_ne (ne b (hb.elim Or.inl fun z => .inr (.inl z)))]; exact h) (.ow (.dic ks' vs')) (some (.ref a)) [a] (.od upd_same r1' r2' p')
    rw [set_same hv] at q5
    exact ⟨_, fo, q5, h2.mono (.refl w) fun b hb o h => by rw [upd_ne (ne b (.inr (.inr hb)))]; exact h, h3, h4⟩
theorem Dps.at {w : Wd} {H : Hp} : ∀ {rs : List (List D)} {ws : List V} {fp : List Addr} {j : Nat} {ds : List D}, Dps e w H rs ws fp → rs[j]? = some ds → fp.Nodup →
    ∃ b us, ws[j]? = some (.ref b) ∧ H b = some (.lst us) ∧ Rps e w ds us ∧ b ∈ fp ∧ ∀ ds' us', Rps e w ds' us' → Dps e w (upd H b (.lst us')) (rs.set j ds') ws fp
  | _, _, _, j, _, .nil, h, _ => by simp at h
  | _, _, _, 0, _, .cons (b := b) q r t, h, nd => by
    simp at h
    subst h
    refine ⟨b, _, rfl, q, r, by simp, fun ds' us' r' => .cons upd_same r' (t.mono (.refl w) fun a ha o h => ?_)⟩
    exact (upd_ne fun z => (List.nodup_cons.mp nd).1 (by rw [← z]; exact ha)).trans h
  | _, _, _, j + 1, _, .cons (b := b) q r t, h, nd => by
    obtain ⟨c, us, h1, h2, h3, h4, h5⟩ := t.at (j := j) (by simpa using h) (List.nodup_cons.mp nd).2
    refine ⟨c, us, by simpa using h1, h2, h3, by simp [h4], fun ds' us' r' => .cons ?_ r (h5 ds' us' r')⟩
    exact (upd_ne fun z => (List.nodup_cons.mp nd).1 (by rw [z]; exact h4)).trans q
theorem Dps.len {w : Wd} {H : Hp} : ∀ {rs : List (List D)} {ws : List V} {fp : List Addr}, Dps e w H rs ws fp → rs.length = ws.length
  | _, _, _, .nil => rfl
  | _, _, _, .cons _ _ t => by simp [t.len]
/-- a list within a list of lists of its own is changed -/
theorem SR.mut2 {w : Wd} {H : Hp} {fp : Addr → Prop} {m : Ms} {σ : St} {i j : Nat} {rs : List (List D)} {ds ds' : List D} {v : V} (S : SR e w H fp m σ) (hi : m.sl[i]? = some (.dp rs)) (hv : σ[i]? = some (some v)) (hj : rs[j]? = some ds) :
    ∃ a ws b us, v = .ref a ∧ H a = some (.lst ws) ∧ ws.length = rs.length ∧ ws[j]? = some (.ref b) ∧ H b = some (.lst us) ∧ Rps e w ds us ∧
      ∀ us', Rps e w ds' us' → Xt w H fp w (upd H b (.lst us')) fp ∧ SR e w (upd H b (.lst us')) fp (m.put i (.dp (rs.set j ds'))) σ := by
  obtain ⟨fs, fo, h1, h2, h3, h4⟩ := S.parts
  obtain ⟨x, f, f1, f2, q1, q2, rfl, q4⟩ := h1.at hi
  have ndf := nodup_mid h3
  cases q2 with
  | @dp a _ ws fr z r =>
  rw [hv] at q1
  cases q1
  obtain ⟨b, us, e1, e2, e3, e4, e5⟩ := r.at hj (List.nodup_cons.mp ndf).2
  refine ⟨a, ws, b, us, rfl, z, r.len.symm, e1, e2, e3, fun us' r' => ?_⟩
  have fb : fp b := h4 b (by simp [e4])
  have nab : a ≠ b := fun q => (List.nodup_cons.mp ndf).1 (q ▸ e4)
  have ne : ∀ c, c ∈ f1 ∨ c ∈ f2 ∨ c ∈ fo → c ≠ b := fun c hc q => by
    subst q
    simp only [List.mem_append, List.nodup_append, List.mem_cons] at h3
    grind
  refine ⟨⟨.refl w, fun c o h n _ => (upd_ne (fun q : c = b => n (by rw [q]; exact fb))).trans h, fun c h => .inl h, fun _ _ h => .inl h⟩, fun c o h => ?_, S.dis, ?_, ?_⟩
  · have : c ≠ b := fun q => by
      rw [q, S.dis b fb] at h; cases h
    rw [upd_ne this]; exact S.sub c o h
  · refine tabs_keep S.tab fun c o h n => ?_
    refine (upd_ne fun q => ?_).trans h
    subst q; rw [e2] at h; cases h; exact n (.lst _)
  · have q5 := q4 w (upd H b (.lst us')) (.refl w) (fun c hc o h => by rw [upd_ne (ne c (hc.elim Or.inl fun z => .inr (.inl z)))]; exact h) (.dp (rs.set j ds')) (some (.ref a)) (a :: fr) (.dp (by rw [upd_ne nab]; exact z) (e5 ds' us' r'))
    rw [set_same hv] at q5
    exact ⟨_, fo, q5, h2.mono (.refl w) fun c hc o h => by rw [upd_ne (ne c (.inr (.inr hc)))]; exact h, h3, h4⟩
end Mi
/-! Part C3: values into slots; lists lent to a call. -/
namespace Mi
open PySem PySem.Spec L2
open PyProof.Rows hiding St
variable {e : En}
theorem Ms.put_sl (m : Ms) (i : Nat) (s : Sl) : (m.put i s).sl = m.sl.set i s := rfl
theorem Ms.put_ob (m : Ms) (i : Nat) (s : Sl) : (m.put i s).ob = m.ob := rfl
/-- the slot ahead is stored at i -/
theorem SR.store {w : Wd} {H : Hp} {fp : Addr → Prop} {m : Ms} {σ : St} {s0 : Sl} {x0 : Option V} {i : Nat} (S : SR e w H fp ⟨s0 :: m.sl, m.ob⟩ (x0 :: σ)) (hi : i < m.sl.length) : SR e w H fp (m.put i s0) (σ.set i x0) := by
  obtain ⟨fs, fo, h1, h2, h3, h4⟩ := S.parts
  cases h1 with
  | @cons _ _ f fs' _ _ r t =>
  obtain ⟨x, g, g1, g2, q1, q2, rfl, q4⟩ := t.at (i := i) (s := m.sl[i]) (by simp [hi])
  refine ⟨S.sub, S.dis, S.tab, g1 ++ (f ++ g2), fo, q4 w H (.refl w) (fun _ _ _ h => h) s0 x0 f r, h2, ?_, fun a ha => h4 a ?_⟩
  · simp only [List.nodup_append, List.mem_append] at h3 ⊢; grind
  · simp only [List.mem_append] at ha ⊢; grind
theorem SR.putV {w : Wd} {H : Hp} {fp : Addr → Prop} {m : Ms} {σ : St} {i : Nat} {d : D} {v : V} (S : SR e w H fp m σ) (r : Rp e w d v) : SR e w H fp (m.put i (.va d)) (σ.set i (some v)) := by
  by_cases hi : i < m.sl.length
  · exact (SR.va (ss := m.sl) (ob := m.ob) S r).store hi
  · have h1 : m.put i (.va d) = m := by unfold Ms.put; rw [List.set_eq_of_length_le (by omega)]
    have h2 : σ.set i (some v) = σ := List.set_eq_of_length_le (by have := S.len; omega)
    rw [h1, h2]; exact S
/-- a slot forgotten -/
theorem SR.forget {w : Wd} {H : Hp} {fp : Addr → Prop} {m : Ms} {σ : St} {i : Nat} (S : SR e w H fp m σ) (x : Option V) : SR e w H fp (m.put i .un) (σ.set i x) := by
  by_cases hi : i < m.sl.length
  · obtain ⟨fs, fo, h1, h2, h3, h4⟩ := S.parts
    exact SR.store (m := m) (s0 := .un) ⟨S.sub, S.dis, S.tab, [] ++ fs, fo, SlsR.cons (f := []) .un h1, h2, by simpa using h3, by simpa using h4⟩ hi
  · have h1 : m.put i .un = m := by unfold Ms.put; rw [List.set_eq_of_length_le (by omega)]
    have h2 : σ.set i x = σ := List.set_eq_of_length_le (by have := S.len; omega)
    rw [h1, h2]; exact S
theorem SR.forget' {w : Wd} {H : Hp} {fp : Addr → Prop} {m : Ms} {σ : St} {i : Nat} (S : SR e w H fp m σ) : SR e w H fp (m.put i .un) σ := by
  by_cases hi : i < m.sl.length
  · have hs : i < σ.length := by rw [← S.len]; exact hi
    have q := S.forget (i := i) σ[i]
    rw [List.set_getElem_self hs] at q
    exact q
  · have h1 : m.put i .un = m := by unfold Ms.put; rw [List.set_eq_of_length_le (by omega)]
    rw [h1]; exact S
theorem ownS_lst (ds : List D) : ownS (.lst ds) = .ow (.lst ds) := rfl
theorem ownS_not {d : D} (h : isLst d = false) : ownS d = .va d := by
  cases d <;> first | rfl | cases h
/-- a new list, owned, ahead of the slots -/
theorem SR.addO {w : Wd} {H : Hp} {fp : Addr → Prop} {m : Ms} {σ : St} {p : Addr} {ds : List D} {ws : List V} (S : SR e w H fp m σ) (h : H p = none) (r : Rps e w ds ws) :
    Xt w H fp w (upd H p (.lst ws)) (fun a => fp a ∨ a = p) ∧ SR e w (upd H p (.lst ws)) (fun a => fp a ∨ a = p) ⟨.ow (.lst ds) :: m.sl, m.ob⟩ (some (.ref p) :: σ) := by
  obtain ⟨fs, fo, h1, h2, h3, h4⟩ := S.parts
  have hI : w.I p = none := by
    cases q : w.I p with
    | none => rfl
    | some u => rw [S.sub p u q] at h; cases h
  have np : p ∉ fs ++ fo := fun ha => by
    have : ∃ o, H p = some o ∧ Big o := (List.mem_append.mp ha).elim (h1.there p) (h2.there p)
    obtain ⟨o, q, _⟩ := this
    rw [q] at h; cases h
  refine ⟨⟨.refl w, fun a o q _ _ => upd_keep h a o q, fun a q => q.imp id fun z => by rw [z]; exact .of h, fun _ _ q => .inl q⟩,
    fun a o q => upd_keep h a o (S.sub a o q), fun a q => q.elim (S.dis a) fun z => by rw [z]; exact hI, tabs_keep S.tab fun b u q _ => upd_keep h b u q,
    [p] ++ fs, fo, SlsR.cons (f := [p]) (.ow upd_same r) (h1.mono (.refl w) fun a _ o q => upd_keep h a o q), h2.mono (.refl w) fun a _ o q => upd_keep h a o q, ?_, fun a ha => ?_⟩
  · simp only [List.nodup_append, List.mem_append] at h3 np ⊢
    grind
  · simp only [List.mem_append] at ha h4
    grind
/-- a new dict, owned, ahead of the slots -/
theorem SR.addD {w : Wd} {H : Hp} {fp : Addr → Prop} {m : Ms} {σ : St} {p : Addr} {ks vs : List D} {xs : List Ent} (S : SR e w H fp m σ) (h : H p = none) (r1 : Rps e w ks (xs.map kRef)) (r2 : Rps e w vs (xs.map kVal)) (pr : Paired EntD ks xs) :
    Xt w H fp w (upd H p (dctO e.P e.w p xs)) (fun a => fp a ∨ a = p) ∧ SR e w (upd H p (dctO e.P e.w p xs)) (fun a => fp a ∨ a = p) ⟨.ow (.dic ks vs) :: m.sl, m.ob⟩ (some (.ref p) :: σ) := by
  obtain ⟨fs, fo, h1, h2, h3, h4⟩ := S.parts
  have hI : w.I p = none := by
    cases q : w.I p with
    | none => rfl
    | some u => rw [S.sub p u q] at h; cases h
  have np : p ∉ fs ++ fo := fun ha => by
    have : ∃ o, H p = some o ∧ Big o := (List.mem_append.mp ha).elim (h1.there p) (h2.there p)
    obtain ⟨o, q, _⟩ := this
    rw [q] at h; cases h
  refine ⟨⟨.refl w, fun a o q _ _ => upd_keep h a o q, fun a q => q.imp id fun z => by rw [z]; exact .of h, fun _ _ q => .inl q⟩,
    fun a o q => upd_keep h a o (S.sub a o q), fun a q => q.elim (S.dis a) fun z => by rw [z]; exact hI, tabs_keep S.tab fun b u q _ => upd_keep h b u q,
    [p] ++ fs, fo, SlsR.cons (f := [p]) (.od upd_same r1 r2 pr) (h1.mono (.refl w) fun a _ o q => upd_keep h a o q), h2.mono (.refl w) fun a _ o q => upd_keep h a o q, ?_, fun a ha => ?_⟩
  · simp only [List.nodup_append, List.mem_append] at h3 np ⊢
    grind
  · simp only [List.mem_append] at ha h4
    grind
/-- behind an operation that gives no elder list: its value, owned -/
theorem SR.finO {w : Wd} {H H' : Hp} {fp : Addr → Prop} {m : Ms} {σ : St} {d : D} {v : V} (S : SR e w H fp m σ) (f : Fin e w H d v H') :
    ∃ w' fp', Xt w H fp w' H' fp' ∧ SR e w' H' fp' ⟨ownS d :: m.sl, m.ob⟩ (some v :: σ) := by
  cases f with
  | id r h => exact ⟨w, fp, .refl, by rw [ownS_not h]; exact S.va r⟩
  | lst h r =>
    obtain ⟨x, s'⟩ := S.addO h r
    exact ⟨_, _, x, s'⟩
  | tup h r =>
    obtain ⟨x, s'⟩ := S.add (noTbl_tup _) h
    exact ⟨_, _, x, s'.va (.tup upd_same (r.mono x.le))⟩
  | dic h r1 r2 p =>
    obtain ⟨x, s'⟩ := S.addD h r1 r2 p
    exact ⟨_, _, x, s'⟩
/-- the slot ahead, let be: its value -/
theorem SR.un1 {w : Wd} {H : Hp} {fp : Addr → Prop} {m : Ms} {σ : St} {s : Sl} {v : V} {d : D} (S : SR e w H fp ⟨s :: m.sl, m.ob⟩ (some v :: σ)) (hd : valS s = some d) :
    ∃ w' fp', Xt w H fp w' H fp' ∧ SR e w' H fp' m σ ∧ Rp e w' d v := by
  obtain ⟨v', w', fp', h1, h2, h3, h4⟩ := S.frz (i := 0) (s := s) rfl hd
  have : v = v' := by simpa using h1
  subst this
  exact ⟨w', fp', h2, SR.dropF (ss2 := [.va d]) (xs2 := [some v]) (ss1 := m.sl) (ob := m.ob) h3 rfl, h4⟩
theorem valS_own (d : D) : valS (ownS d) = some d := by cases d <;> rfl
/-- operands read -/
inductive OdsR (e : En) (w : Wd) (σ : St) : List Od → List V → Prop
  | nil : OdsR e w σ [] []
  | cons {o : Od} {v : V} {os : List Od} {vs : List V} : OdR e w σ o v → OdsR e w σ os vs → OdsR e w σ (o :: os) (v :: vs)
theorem OdsR.mono {w w' : Wd} {σ : St} (l : w.Le w') : ∀ {os : List Od} {vs : List V}, OdsR e w σ os vs → OdsR e w' σ os vs
  | _, _, .nil => .nil
  | _, _, .cons r t => .cons (r.mono l) (t.mono l)
theorem OdsR.length {w : Wd} {σ : St} : ∀ {os : List Od} {vs : List V}, OdsR e w σ os vs → os.length = vs.length
  | _, _, .nil => rfl
  | _, _, .cons _ t => by simp [t.length]
theorem SR.drs {w : Wd} {H : Hp} {fp : Addr → Prop} {m : Ms} {σ : St} (S : SR e w H fp m σ) : ∀ {os : List Od} {vs : List V} {ds : List D}, Mi.drs m os = some ds → OdsR e w σ os vs → Rbs e w H ds vs
  | _, _, ds, h, .nil => by cases h; exact .nil
  | o :: os, _, ds, h, .cons r t => by
    unfold Mi.drs at h
    cases h1 : Mi.dr m o with
    | none => rw [h1] at h; simp at h
    | some d =>
      cases h2 : Mi.drs m os with
      | none => rw [h1, h2] at h; simp at h
      | some ds' =>
        rw [h1, h2] at h
        cases h
        exact .cons (S.dr h1 r) (S.drs h2 t)
theorem map_some {α β : Type} {o : Option α} {f : α → β} {b : β} (h : o.map f = some b) : ∃ a, o = some a ∧ b = f a := by
  cases o with
  | none => simp at h
  | some a => exact ⟨a, rfl, by simpa using h.symm⟩
theorem SlsR.out {w : Wd} {H : Hp} {ss : List Sl} {xs : St} {fs : List Addr} {i : Nat} {s : Sl} {v : V} (h : SlsR e w H ss xs fs) (hi : ss[i]? = some s) (hv : xs[i]? = some (some v)) :
    ∃ f fs', SlO e w H s (some v) f ∧ SlsR e w H (ss.set i .un) xs fs' ∧ ∀ fo, (fs ++ fo).Nodup → (f ++ fs' ++ fo).Nodup ∧ ∀ a, a ∈ f ++ fs' → a ∈ fs := by
  obtain ⟨x, f, f1, f2, q1, q2, rfl, q4⟩ := h.at hi
  rw [hv] at q1
  cases q1
  have q5 := q4 w H (.refl w) (fun _ _ _ h => h) .un (some v) [] .un
  rw [set_same hv] at q5
  exact ⟨f, _, q2, q5, fun fo nd => ⟨by simp only [List.nodup_append, List.mem_append] at nd ⊢; grind, fun a ha => by simp only [List.mem_append] at ha ⊢; grind⟩⟩
/-- what a slot owns is taken ahead -/
theorem SR.take {w : Wd} {H : Hp} {fp : Addr → Prop} {m : Ms} {σ : St} {i : Nat} {s : Sl} {v : V} (S : SR e w H fp m σ) (hi : m.sl[i]? = some s) (hv : σ[i]? = some (some v)) : SR e w H fp ⟨s :: (m.put i .un).sl, m.ob⟩ (some v :: σ) := by
  obtain ⟨fs, fo, h1, h2, h3, h4⟩ := S.parts
  obtain ⟨f, fs', k1, k2, k3⟩ := h1.out hi hv
  obtain ⟨n1, n2⟩ := k3 fo h3
  exact ⟨S.sub, S.dis, S.tab, f ++ fs', fo, SlsR.cons (f := f) k1 k2, h2, n1, fun a ha => h4 a (by have := n2 a; simp only [List.mem_append] at this ha ⊢; grind)⟩
/-- the arguments of a call, what is lent taken ahead -/
theorem SR.lend : ∀ {os : List Od} {fs : List Bool} {w : Wd} {H : Hp} {fp : Addr → Prop} {m m1 : Ms} {σ : St} {ps : List Sl} {vs : List V}, SR e w H fp m σ → Mi.lend fs os m = some (ps, m1) → OdsR e w σ os vs →
    ∃ w' fp', Xt w H fp w' H fp' ∧ SR e w' H fp' ⟨ps ++ m1.sl, m1.ob⟩ (vs.map some ++ σ)
  | [], fs, w, H, fp, m, m1, σ, ps, vs, S, h, r => by
    cases r
    have h : some (([] : List Sl), m) = some (ps, m1) := by
      have : Mi.lend fs [] m = some ([], m) := by cases fs <;> rfl
      rw [← this]; exact h
    cases h
    exact ⟨w, fp, .refl, S⟩
  | .dd d :: os, fs, w, H, fp, m, m1, σ, ps, v :: vs, S, h, .cons r t => by
    unfold Mi.lend at h
    obtain ⟨p, h1, h2⟩ := map_some h
    cases h2
    obtain ⟨w', fp', x, S'⟩ := S.lend h1 t
    exact ⟨w', fp', x, S'.va (r.mono x.le)⟩
  | .sl i :: os, fs, w, H, fp, m, m1, σ, ps, v :: vs, S, h, .cons r t => by
    have r : σ[i]? = some (some v) := r
    unfold Mi.lend at h
    cases q : m.sl[i]? with
    | none => rw [q] at h; cases h
    | some s =>
      rw [q] at h
      cases s with
      | un => cases h
      | va d =>
        obtain ⟨p, h1, h2⟩ := map_some h
        cases h2
        obtain ⟨w', fp', x, S'⟩ := S.lend h1 t
        have rd : Rp e w d v := by
          obtain ⟨fs, fo, a1, a2, a3, a4⟩ := S.parts
          obtain ⟨y, f, f1, f2, b1, b2, _, _⟩ := a1.at q
          rw [r] at b1
          cases b1
          cases b2 with
          | va rr => exact rr
        exact ⟨w', fp', x, S'.va (rd.mono x.le)⟩
      | ow d =>
        simp only at h
        split at h
        · obtain ⟨p, h1, h2⟩ := map_some h
          cases h2
          obtain ⟨v', w1, fp1, a1, a2, a3, a4⟩ := S.frz q rfl
          rw [r] at a1
          cases a1
          obtain ⟨w', fp', x, S'⟩ := a3.lend h1 (t.mono a2.le)
          exact ⟨w', fp', a2.trans x, S'.va (a4.mono x.le)⟩
        · obtain ⟨p, h1, h2⟩ := map_some h
          cases h2
          have S1 := S.take q r
          obtain ⟨fpa, S2, k⟩ := SR.frameF (ss2 := [.ow d]) (xs2 := [some v]) (ss1 := (m.put i .un).sl) (xs1 := σ) S1 rfl
          obtain ⟨w', fp', x, S'⟩ := SR.lend (m := m.put i .un) S2 h1 t
          obtain ⟨fp'', x2, S''⟩ := k w' H fp' (p.1 ++ p.2.sl) p.2.ob (vs.map some ++ σ) x S'
          exact ⟨w', fp'', x2, S''⟩
      | dp rs => cases h
/-- what was lent comes back -/
theorem SR.back : ∀ {os : List Od} {ps qs : List Sl} {w : Wd} {H : Hp} {fp : Addr → Prop} {m : Ms} {σ : St} {vs : List V} {w0 : Wd}, SR e w H fp ⟨qs ++ m.sl, m.ob⟩ (vs.map some ++ σ) → OdsR e w0 σ os vs → qs.length = vs.length → SR e w H fp (Mi.back os ps qs m) σ
  | [], ps, qs, w, H, fp, m, σ, vs, w0, S, r, hl => by
    have e1 : Mi.back [] ps qs m = m := by cases ps <;> cases qs <;> rfl
    rw [e1]
    exact SR.dropF (ss2 := qs) (xs2 := vs.map some) S (by simpa using hl)
  | o :: os, [], qs, w, H, fp, m, σ, vs, w0, S, r, hl => by
    have e1 : Mi.back (o :: os) [] qs m = m := by cases o <;> rfl
    rw [e1]
    exact SR.dropF (ss2 := qs) (xs2 := vs.map some) S (by simpa using hl)
  | o :: os, p :: ps, [], w, H, fp, m, σ, vs, w0, S, r, hl => by
    have e1 : Mi.back (o :: os) (p :: ps) [] m = m := by cases o <;> cases p <;> rfl
    rw [e1]
    exact SR.dropF (ss2 := []) (xs2 := vs.map some) S (by simpa using hl)
  | o :: os, p :: ps, q :: qs, w, H, fp, m, σ, v :: vs, w0, S, .cons r t, hl => by
    have hl : qs.length = vs.length := by simpa using hl
    have skip : SR e w H fp (Mi.back os ps qs m) σ := SR.back (SR.dropF (ss2 := [q]) (xs2 := [some v]) (ss1 := qs ++ m.sl) (xs1 := vs.map some ++ σ) S rfl) t hl
    have keep : ∀ i, o = .sl i → SR e w H fp (Mi.back os ps qs (m.put i q)) σ := fun i ho => by
      subst ho
      have r : σ[i]? = some (some v) := r
      refine SR.back (vs := vs) (m := m.put i q) ?_ t hl
      -- the slot ahead goes to its place behind the others
      have hi : i < m.sl.length := by
        have h1 := S.len
        have h2 := (List.getElem?_eq_some_iff.mp r).1
        simp at h1
        omega
      have z := SR.store (m := ⟨qs ++ m.sl, m.ob⟩) (i := qs.length + i) S (by simp; omega)
      have e1 : ((⟨qs ++ m.sl, m.ob⟩ : Ms).put (qs.length + i) q) = ⟨qs ++ (m.put i q).sl, (m.put i q).ob⟩ := by
        unfold Ms.put
        simp [List.set_append_right]
      have e2 : (vs.map some ++ σ).set (qs.length + i) (some v) = vs.map some ++ σ := by
        refine set_same ?_
        rw [List.getElem?_append_right (by simp; omega)]
        simp [hl, r]
      have z : SR e w H fp ((⟨qs ++ m.sl, m.ob⟩ : Ms).put (qs.length + i) q) ((vs.map some ++ σ).set (qs.length + i) (some v)) := z
      rw [e1, e2] at z
      exact z
    cases o with
    | dd d => exact skip
    | sl i =>
      cases p with
      | un => exact skip
      | va d => exact skip
      | dp rs => exact skip
      | ow d => exact keep i rfl
end Mi
/-! Part D: a text of Python against a text of the machine; expressions keep to it. -/
namespace Mi
open PySem PySem.Spec L2
open PyProof.Rows hiding St
/-! ### the check -/
/-- the names of a text: its defs, its numbers, its classes of exceptions -/
structure Tx where
  f : List Str
  g : List (Str × Int) := []
  c : List Str := []
  w : List (Str × Wdf) := []
  lm : List Nat := []
  l : List Str := []
/-- a block's names by slots, its scope, the names that it stores -/
structure CC where
  N : List Str
  sc : Scope
  st : Str → Bool
  lam : Bool := false
def visB (sc : Scope) (x : Str) : Bool := match sc.names.lookup x with
  | some .local => true
  | some .cell => true
  | some .free => true
  | _ => false
def glB (sc : Scope) (x : Str) : Bool := match sc.names.lookup x with
  | some .globalImplicit => true
  | _ => false
def nameB (x : Str) : Bool := !(x == ("__debug__" : Str)) && !(x == ("__classdict__" : Str)) && !(x == ("__name__" : Str))
def plainE : Expr → Bool
  | .Starred .. => false
  | .Set .. => false
  | .Slice .. => false
  | _ => true
def constB : D → Const → Bool
  | .non, .none => true
  | .bl b, .bool c => b == c
  | .int i, .int j => decide (i = j)
  | .str x, .str y => decide (x = y)
  | _, _ => false
def isOp : BOp → Operator → Bool
  | .add, .Add => true
  | .sub, .Sub => true
  | .mul, .Mult => true
  | .fdiv, .FloorDiv => true
  | .mod, .Mod => true
  | .pow, .Pow => true
  | _, _ => false
def isCm : COp → CmpOp → Bool
  | .eq, .Eq => true
  | .ne, .NotEq => true
  | .lt, .Lt => true
  | .le, .LtE => true
  | .gt, .Gt => true
  | .ge, .GtE => true
  | .is, .Is => true
  | .isn, .IsNot => true
  | .inn, .In => true
  | .nin, .NotIn => true
  | _, _ => false
/-- what may stand as a test -/
def tst : Ex → Bool
  | .ite .. => false
  | .band a b => tst a && tst b
  | .bor a b => tst a && tst b
  | .bnot a => tst a
  | .nm _ | .cmp .. | .cmp2 .. | .call .. | .bi .. | .isi .. | .idx .. | .calv .. => true
  | _ => false
def blkCC (c : CC) (sc : Scope) : CC := ⟨c.N, relS sc c.sc, fun x => match sc.names.lookup x with
  | some .local => true
  | some .cell => true
  | _ => false, c.lam⟩
def ownN (N : List Str) (own : List Nat) : List (Str × Nat) := own.map fun i => (N.getD i Str.empty, i)
def chkN (c : CC) (i : Nat) (x : Str) : Bool := decide (c.N[i]? = some x) && c.st x
def chkNs (c : CC) : List Nat → List Expr → Bool
  | [], [] => true
  | i :: is, .Name x _ :: es => chkN c i x && chkNs c is es
  | _, _ => false
def chkTg (c : CC) : Tg → Expr → Bool
  | .one i, .Name x _ => chkN c i x
  | .many is, .Tuple es _ _ => chkNs c is es
  | _, _ => false
def isTupE : Expr → Bool
  | .Tuple .. => true
  | _ => false
def glN (c : CC) (x : Str) (y : Str) : Bool := decide (x = y) && glB c.sc x
def isOm : Ex → Bool
  | .om => true
  | _ => false
abbrev KE := CC → Expr → Bool
def kNm (c : CC) (i : Nat) : Expr → Bool
  | .Name x _ => decide (c.N[i]? = some x) && visB c.sc x && nameB x
  | _ => false
def kCt (d : D) : Expr → Bool
  | .Constant k _ _ => constB d k
  | _ => false
def kBin (op : BOp) (a b : Expr → Bool) : Expr → Bool
  | .BinOp x o y _ => isOp op o && a x && b y
  | _ => false
def kNeg (a : Expr → Bool) : Expr → Bool
  | .UnaryOp .USub x _ => a x
  | _ => false
def kCmp (op : COp) (a b : Expr → Bool) : Expr → Bool
  | .Compare x [o] [y] _ => isCm op o && a x && b y
  | _ => false
def kCmp2 (op op' : COp) (a b d : Expr → Bool) : Expr → Bool
  | .Compare x [o, o'] [y, z] _ => isCm op o && isCm op' o' && a x && b y && d z
  | _ => false
def kAnd (a b : Expr → Bool) : Expr → Bool
  | .BoolOp .And [x, y] _ => a x && b y
  | .BoolOp .And (x :: y :: z :: r) pos => a x && b (.BoolOp .And (y :: z :: r) pos)
  | _ => false
def kOr (a b : Expr → Bool) : Expr → Bool
  | .BoolOp .Or [x, y] _ => a x && b y
  | .BoolOp .Or (x :: y :: z :: r) pos => a x && b (.BoolOp .Or (y :: z :: r) pos)
  | _ => false
def kNot (t : Bool) (a : Expr → Bool) : Expr → Bool
  | .UnaryOp .Not x _ => t && a x
  | _ => false
def kIte (tt : Bool) (t a b : Expr → Bool) : Expr → Bool
  | .IfExp x y z _ => tt && t x && a y && b z
  | _ => false
def kTup (a : List Expr → Bool) : Expr → Bool
  | .Tuple xs _ _ => a xs
  | _ => false
def kLst (a : List Expr → Bool) : Expr → Bool
  | .List xs _ => a xs
  | _ => false
def kIdx (a i : Expr → Bool) : Expr → Bool
  | .Subscript x y _ => plainE y && a x && i y
  | _ => false
def kSlc (a : Expr → Bool) (l h : Option Expr → Bool) : Expr → Bool
  | .Subscript x (.Slice lo hi none _) _ => a x && l lo && h hi
  | _ => false
def kCall (f : Str → Bool) (a : List Expr → Bool) : Expr → Bool
  | .Call (.Name x _) xs [] _ => f x && a xs
  | _ => false
def kIsi (f : Str → Bool) (g : Str → Bool) (a : Expr → Bool) : Expr → Bool
  | .Call (.Name x _) [y, .Name z _] [] _ => f x && g z && plainE y && a y
  | _ => false
def kComp (c : CC) (own : List Nat) (it : CC → Expr → Expr → Bool) (tg : Tg) (e : KE) (om : Bool) (cd : KE) : Expr → Bool
  | .ListComp x [⟨t, i, [], 0⟩] sc _ => blkC c.N c.sc sc (ownN c.N own) && it c t i && chkTg (blkCC c sc) tg t && (tgs tg).all own.contains && e (blkCC c sc) x && om
  | .ListComp x [⟨t, i, [y], 0⟩] sc _ => blkC c.N c.sc sc (ownN c.N own) && it c t i && chkTg (blkCC c sc) tg t && (tgs tg).all own.contains && e (blkCC c sc) x && !om && cd (blkCC c sc) y
  | _ => false
def kComp2 (c : CC) (own : List Nat) (it it2 : CC → Expr → Expr → Bool) (tg tg2 : Tg) (e : KE) : Expr → Bool
  | .ListComp x [⟨t, i, [], 0⟩, ⟨t2, i2, [], 0⟩] sc _ => blkC c.N c.sc sc (ownN c.N own) && it c t i && chkTg (blkCC c sc) tg t && (tgs tg).all own.contains && (tgs tg2).all own.contains && it2 (blkCC c sc) t2 i2 && chkTg (blkCC c sc) tg2 t2 && e (blkCC c sc) x
  | _ => false
def kP (om : Bool) (e : Expr → Bool) : Option Expr → Bool
  | none => om
  | some x => e x
def kCons (a : Expr → Bool) (r : List Expr → Bool) : List Expr → Bool
  | x :: xs => plainE x && a x && r xs
  | [] => false
def kNil : List Expr → Bool
  | [] => true
  | _ => false
def kSeq (a : Expr → Bool) (x : Expr) : Bool := plainE x && a x
def kRng1 (c : CC) (a : Expr → Bool) : Expr → Bool
  | .Call (.Name f _) [x] [] _ => glN c f "range" && plainE x && a x
  | _ => false
def kRng2 (c : CC) (a b : Expr → Bool) : Expr → Bool
  | .Call (.Name f _) [x, y] [] _ => glN c f "range" && plainE x && plainE y && a x && b y
  | _ => false
def kZip (c : CC) (a b : Expr → Bool) : Expr → Expr → Bool
  | .Tuple .., .Call (.Name f _) [x, y] [] _ => glN c f "zip" && plainE x && plainE y && a x && b y
  | _, _ => false
def kEnu (c : CC) (a : Expr → Bool) : Expr → Expr → Bool
  | .Tuple .., .Call (.Name f _) [x] [] _ => glN c f "enumerate" && plainE x && a x
  | _, _ => false
def kGl (S : Tx) (k : Nat) (i : Int) (c : CC) : Expr → Bool
  | .Name x _ => decide (S.g[k]? = some (x, i)) && glB c.sc x && nameB x
  | _ => false
def kRev (a : Expr → Bool) : Expr → Bool
  | .Subscript x (.Slice none none (some (.UnaryOp .USub (.Constant (.int 1) _ _) _)) _) _ => a x
  | _ => false
def kBad : Expr → Bool
  | .ListComp .. | .SetComp .. | .DictComp .. | .BoolOp .. => false
  | x => plainE x
def kDct0 : Expr → Bool
  | .Dict [] [] _ => true
  | _ => false
def kDct1 (a b : Expr → Bool) : Expr → Bool
  | .Dict [some x] [y] _ => plainE x && plainE y && a x && b y
  | _ => false
def kGf (S : Tx) (k : Nat) (c : CC) : Expr → Bool
  | .Name x _ => decide (S.f[k]? = some x) && glB c.sc x && nameB x
  | _ => false
def kCalv (S : Tx) (i : Nat) (ks : List Nat) (c : CC) (a : List Expr → Bool) : Expr → Bool
  | .Call (.Name x _) (y :: ys) [] _ => decide (c.N[i]? = some x) && visB c.sc x && nameB x && ks.all (fun k => decide (k < S.f.length)) && a (y :: ys)
  | _ => false
def noPar : Arguments → Bool
  | ⟨[], [], none, [], [], none, []⟩ => true
  | _ => false
def kWord (S : Tx) (k : Nat) (wd : Wdf) (b : CC → Expr → Bool) (c : CC) : Expr → Bool
  | .Call (.Name x _) [.Lambda ps y sc _] [] _ => c.lam && decide (S.w[k]? = some (x, wd)) && glB c.sc x && nameB x && noPar ps && LamX.lamSB c.sc sc && b ⟨c.N, sc, fun _ => false, false⟩ y
  | _ => false
mutual
def chkE (S : Tx) : Ex → CC → Expr → Bool
  | .nm i, c, x => kNm c i x
  | .ct d, _, x => kCt d x
  | .gl k i, c, x => kGl S k i c x
  | .om, _, _ => false
  | .bin op a b, c, x => kBin op (chkE S a c) (chkE S b c) x
  | .neg a, c, x => kNeg (chkE S a c) x
  | .cmp op a b, c, x => kCmp op (chkE S a c) (chkE S b c) x
  | .cmp2 op op' a b d, c, x => kCmp2 op op' (chkE S a c) (chkE S b c) (chkE S d c) x
  | .band a b, c, x => kAnd (chkE S a c) (chkE S b c) x
  | .bor a b, c, x => kOr (chkE S a c) (chkE S b c) x
  | .bnot a, c, x => kNot (tst a) (chkE S a c) x
  | .ite t a b, c, x => kIte (tst t) (chkE S t c) (chkE S a c) (chkE S b c) x
  | .tup es, c, x => kTup (chkEs S es c) x
  | .lst es, c, x => kLst (chkEs S es c) x
  | .idx a i, c, x => kIdx (chkE S a c) (chkE S i c) x
  | .slc a lo hi, c, x => kSlc (chkE S a c) (kP (isOm lo) (chkE S lo c)) (kP (isOm hi) (chkE S hi c)) x
  | .call k es, c, x => kCall (fun f => decide (S.f[k]? = some f) && glB c.sc f && nameB f) (chkEs S es c) x
  | .bi f es, c, x => kCall (fun g => glN c g (nmF f)) (chkEs S es c) x && isCons es
  | .isi t a, c, x => kIsi (fun f => glN c f "isinstance") (fun z => glN c z (tyS t)) (chkE S a c) x
  | .comp e tg it cd own, c, x => kComp c own (chkI S it) tg (chkE S e) (isOm cd) (fun c y => tst cd && chkE S cd c y) x
  | .word k wd b, c, x => kWord S k wd (chkE S b) c x
  | .rev a, c, x => kRev (chkE S a c) x
  | .gf k, c, x => kGf S k c x
  | .calv i ks es, c, x => kCalv S i ks c (chkEs S es c) x
  | .comp2 e tg it tg2 it2 own, c, x => kComp2 c own (chkI S it) (chkI S it2) tg tg2 (chkE S e) x
  | .bad, _, x => kBad x
  | .dct0, _, x => kDct0 x
  | .dct1 a b, c, x => kDct1 (chkE S a c) (chkE S b c) x
def chkEs (S : Tx) : Exs → CC → List Expr → Bool
  | .nil, _, xs => kNil xs
  | .cons e es, c, xs => kCons (chkE S e c) (chkEs S es c) xs
def chkI (S : Tx) : It → CC → Expr → Expr → Bool
  | .seq a, c, _, x => kSeq (chkE S a c) x
  | .rng1 a, c, _, x => kRng1 c (chkE S a c) x
  | .rng2 a b, c, _, x => kRng2 c (chkE S a c) (chkE S b c) x
  | .zip a b, c, t, x => kZip c (chkE S a c) (chkE S b c) t x
  | .enu a, c, t, x => kEnu c (chkE S a c) t x
def isCons : Exs → Bool
  | .nil => false
  | .cons _ _ => true
end

/-! ### readings -/
variable (e : En) (F : Fh)
/-- an exception -/
inductive ExR (w : Wd) : Ev → Value → Option Addr → Prop
  | plain {c : Nat} : ExR w ⟨c, []⟩ (.ref (e.ca c)) none
  | lim {c : Nat} {d : Addr} {v : V} {x : D} : w.I d = some (.xd [(("limit" : Str), v)]) → Rp e w x v → ExR w ⟨c, [x]⟩ (.ref (e.ca c)) (some d)
/-- what must hold for a run to give what is wanted -/
def Aft {α : Type} (W : WX) (σ : St) (w : Wd) (H : Hp) (fp : Addr → Prop) (r : R (α × Ms)) (G : α → Ms → Wd → Hp → (Addr → Prop) → Prop) : Prop := match r with
  | .ok p => ∀ w' H' fp', Xt w H fp w' H' fp' → SR e w' H' fp' p.2 σ → G p.1 p.2 w' H' fp'
  | .ex ev m' => ∀ w' H' fp' cls xd, Xt w H fp w' H' fp' → SR e w' H' fp' m' σ → ExR e w' ev cls xd → W cls xd σ H'
  | .no => False
variable {e F} {W : WX} {σ : St} {w : Wd} {H : Hp} {fp : Addr → Prop}
theorem Aft.bnd {α β : Type} {r : R (α × Ms)} {f : α × Ms → R (β × Ms)} {G : β → Ms → Wd → Hp → (Addr → Prop) → Prop} (h : Aft e W σ w H fp (r.bnd f) G) : Aft e W σ w H fp r (fun a m' w' H' fp' => Aft e W σ w' H' fp' (f (a, m')) G) := by
  cases r with
  | no => exact h
  | ex ev m' => exact h
  | ok p =>
    intro w' H' fp' x s'
    have h : Aft e W σ w H fp (f p) G := h
    show Aft e W σ w' H' fp' (f (p.1, p.2)) G
    rw [show (p.1, p.2) = p from rfl]
    revert h
    cases f p with
    | no => exact id
    | ex ev m' => exact fun h w'' H'' fp'' cls xd y s'' q => h w'' H'' fp'' cls xd (x.trans y) s'' q
    | ok q => exact fun h w'' H'' fp'' y s'' => h w'' H'' fp'' (x.trans y) s''
theorem Aft.imp {α : Type} {r : R (α × Ms)} {G G' : α → Ms → Wd → Hp → (Addr → Prop) → Prop} (h : Aft e W σ w H fp r G) (i : ∀ a m' w' H' fp', Xt w H fp w' H' fp' → SR e w' H' fp' m' σ → G a m' w' H' fp' → G' a m' w' H' fp') : Aft e W σ w H fp r G' := by
  cases r with
  | no => exact h
  | ex ev m' => exact h
  | ok p => exact fun w' H' fp' x s' => i _ _ _ _ _ x s' (h w' H' fp' x s')
/-- a run that is done -/
theorem Aft.now {α : Type} {p : α × Ms} {G : α → Ms → Wd → Hp → (Addr → Prop) → Prop} (h : Aft e W σ w H fp (.ok p) G) (s : SR e w H fp p.2 σ) : G p.1 p.2 w H fp := h w H fp .refl s
/-- .. behind a step -/
theorem Aft.step {α : Type} {r : R (α × Ms)} {G : α → Ms → Wd → Hp → (Addr → Prop) → Prop} {w' : Wd} {H' : Hp} {fp' : Addr → Prop} (h : Aft e W σ w H fp r G) (x : Xt w H fp w' H' fp') : Aft e W σ w' H' fp' r G := by
  cases r with
  | no => exact h
  | ex ev m' => exact fun w'' H'' fp'' cls xd y s'' q => h w'' H'' fp'' cls xd (x.trans y) s'' q
  | ok q => exact fun w'' H'' fp'' y s'' => h w'' H'' fp'' (x.trans y) s''
variable (e F W)
def tE (m : Ex) : TE := fun σ H Q => ∃ w fp M, SR e w H fp M σ ∧ Aft e W σ w H fp (evE F m M) fun d _ w' H' _ => ∀ v, Rp e w' d v → Q v H'
def tO (m : Ex) : TE := fun σ H Q => ∃ w fp M, SR e w H fp M σ ∧ Aft e W σ w H fp (opd m (evE F m M) M) fun o _ w' H' _ => ∀ v, OdR e w' σ o v → Q v H'
def tT (m : Ex) : TT := fun σ H Q => ∃ w fp M, SR e w H fp M σ ∧ Aft e W σ w H fp (evE F m M) fun d _ w' H' _ => ∃ b, d = .bl b ∧ Q b H'
def tEs (ms : Exs) : TA := fun σ H Q => ∃ w fp M, SR e w H fp M σ ∧ Aft e W σ w H fp (evEs F ms M) fun ds _ w' H' _ => ∀ vs, Rps e w' ds vs → Q vs H'
def tOs (ms : Exs) : TA := fun σ H Q => ∃ w fp M, SR e w H fp M σ ∧ Aft e W σ w H fp (evOs F ms M) fun os _ w' H' _ => ∀ vs, OdsR e w' σ os vs → Q vs H'
def tP (m : Ex) : TO := fun σ H Q => ∃ w fp M, SR e w H fp M σ ∧ Aft e W σ w H fp (evP m (evE F m M) M) fun o _ w' H' _ => Q o H'
def tIt (it : It) : TI := fun σ H R => ∃ w fp M, SR e w H fp M σ ∧ Aft e W σ w H fp (evI F it M) fun ds _ w' H' _ => ∀ J G Y, Walk J ds.length G Y → (∀ H'', (∀ a o, w'.I a = some o → H'' a = some o) → G H'') →
  (∀ i Hc x Hc', i < ds.length → (∀ a o, w'.I a = some o → Hc a = some o) → Y i Hc x Hc' → ∃ d, ds[i]? = some d ∧ FinG e w' Hc d x Hc') → R J H'
variable {e F W}
theorem PE.imp {X : Cx} {x : Expr} {t t' : TE} (h : PE X x t) (i : ∀ σ H Q, t' σ H Q → t σ H Q) : PE X x t' := ⟨fun pins s σ H Q I q => h.run pins s σ H Q I (i σ H Q q)⟩
theorem PT.imp {X : Cx} {x : Expr} {t t' : TT} (h : PT X x t) (i : ∀ σ H Q, t' σ H Q → t σ H Q) : PT X x t' := ⟨fun pins s σ H Q I q => h.run pins s σ H Q I (i σ H Q q)⟩
theorem PW.imp {X : Cx} {x : Expr} {t t' : TT} (h : PW X x t) (i : ∀ σ H Q, t' σ H Q → t σ H Q) : PW X x t' := ⟨fun wh pins s σ H Q I q => h.run wh pins s σ H Q I (i σ H Q q)⟩
theorem PA.imp {X : Cx} {x : List Expr} {t t' : TA} (h : PA X x t) (i : ∀ σ H Q, t' σ H Q → t σ H Q) : PA X x t' := ⟨fun pos pins s σ H Q I q => h.run pos pins s σ H Q I (i σ H Q q)⟩
theorem PO.imp {X : Cx} {x : Option Expr} {t t' : TO} (h : PO X x t) (i : ∀ σ H Q, t' σ H Q → t σ H Q) : PO X x t' := ⟨fun pins s σ H Q I q => h.run pins s σ H Q I (i σ H Q q)⟩
theorem PI.imp {X : Cx} {tg x : Expr} {t t' : TI} (h : PI X tg x t) (i : ∀ σ H R, t' σ H R → t σ H R) : PI X tg x t' := ⟨fun pins s σ H R I q => h.run pins s σ H R I (i σ H R q)⟩
theorem PI.or {X : Cx} {tg x : Expr} {t t' : TI} (h : PI X tg x t) (h' : PI X tg x t') : PI X tg x (fun σ H R => t σ H R ∨ t' σ H R) := ⟨fun pins s σ H R I q => q.elim (h.run pins s σ H R I) (h'.run pins s σ H R I)⟩
theorem tT_E {m : Ex} {σ : St} {H : Hp} {Q : Bool → Hp → Prop} (h : tT e F W m σ H Q) : tE e F W m σ H fun x H' => ∃ k, x = .bl k ∧ Q k H' := by
  obtain ⟨w, fp, M, s, h⟩ := h
  refine ⟨w, fp, M, s, h.imp fun d m' w' H' fp' _ _ ⟨b, hb, q⟩ v r => ?_⟩
  subst hb
  cases r
  exact ⟨b, rfl, q⟩
/-- behind an operation upon two operands -/
theorem Aft.op2 {f : D → D → Option D} {x y : Od} {m : Ms} {vx vy : V} {Q : VK} (s : SR e w H fp m σ) (hx : OdR e w σ x vx) (hy : OdR e w σ y vy) (h : Aft e W σ w H fp (Mi.op2 f x y m) fun d _ w' H' _ => ∀ v, Rp e w' d v → Q v H') : r2 e f vx vy H Q := by
  unfold Mi.op2 at h
  cases h1 : Mi.dr m x with
  | none => rw [h1] at h; exact h.elim
  | some a =>
    cases h2 : Mi.dr m y with
    | none => rw [h1, h2] at h; exact h.elim
    | some b =>
      rw [h1, h2] at h
      simp only [lift] at h
      cases h3 : f a b with
      | none => rw [h3] at h; exact h.elim
      | some d =>
        rw [h3] at h
        refine ⟨w, a, b, d, s.sub, s.dr h1 hx, s.dr h2 hy, h3, fun v H' fin => ?_⟩
        obtain ⟨w', fp', x', s', r⟩ := s.fin (.inl fin)
        exact h w' H' fp' x' s' v r
theorem Aft.op2G {f : D → D → Option D} {x y : Od} {m : Ms} {vx vy : V} {Q : VK} (s : SR e w H fp m σ) (hx : OdR e w σ x vx) (hy : OdR e w σ y vy) (h : Aft e W σ w H fp (Mi.op2 f x y m) fun d _ w' H' _ => ∀ v, Rp e w' d v → Q v H') : r2G e f vx vy H Q := by
  unfold Mi.op2 at h
  cases h1 : Mi.dr m x with
  | none => rw [h1] at h; exact h.elim
  | some a =>
    cases h2 : Mi.dr m y with
    | none => rw [h1, h2] at h; exact h.elim
    | some b =>
      rw [h1, h2] at h
      simp only [lift] at h
      cases h3 : f a b with
      | none => rw [h3] at h; exact h.elim
      | some d =>
        rw [h3] at h
        refine ⟨w, a, b, d, s.sub, s.dr h1 hx, s.dr h2 hy, h3, fun v H' fin => ?_⟩
        obtain ⟨w', fp', x', s', r⟩ := s.fin fin
        exact h w' H' fp' x' s' v r
end Mi
/-! Part D1: what a def promises that tells an exception by a word. -/
namespace Mi
open PySem PySem.Spec L2
open PyProof.Rows hiding St
/-- what a word def wishes for where the lambda ends with an exception -/
def wordX (e : En) (wd : Wdf) (Q : Str → Hp → Prop) : XK := fun k d G => ∃ w ev s, (∀ a o, w.I a = some o → G a = some o) ∧ ExR e w ev k d ∧ wordOf wd ev = some s ∧ Q s G
def wdV (wd : Wdf) (v : V) : V := match wd.w0 with
  | some w => .str w
  | none => v
def TTw (e : En) (wd : Wdf) : (XK → Hp → VK → Prop) → Hp → VK → Prop := fun tl G Q => tl (wordX e wd fun w G' => Q (.str w) G') G fun v G' => Q (wdV wd v) G'
/-- such a def as it stands behind the top -/
structure WordF (e : En) (x : Str) (wd : Wdf) : Prop where
  ex : ∃ (g : Addr) (pg : Arguments) (bg : List Stmt) (sg : Scope) (dV kV doc pm cdv ct oc : Value) (an od : Option Addr) (osl : Array (Option Value)) (Ng : List Str) (a : Str),
    e.mg x = some (.ref g) ∧ PySem.W.keepIn e.K (.ref g) = true ∧ e.K.lookup g = some ⟨oc, od, .func (PySem.W.fnOf x x pg bg sg dV kV doc pm an cdv ct), osl⟩ ∧ PySem.W.codeIn e.K cdv x = true ∧ L2.Binds e.K (PySem.W.fnOf x x pg bg sg dV kV doc pm an cdv ct) [a] [] ∧
    FnScope Ng [a] sg ∧ Ng[0]? = some a ∧ Vis sg a ∧ nameB a = true ∧
    ∀ (X : Cx) (q : Str), X.prog = e.P → X.w = e.w → X.K = e.K → X.mg = e.mg → X.base = e.base → LamX.GivesTo X Ng x sg g cdv bg a q (TTw e wd)
end Mi
/-! Part D2: expressions keep to the machine, construct by construct. -/
namespace Mi
open PySem PySem.Spec L2
open PyProof.Rows hiding St
/-- the slot of a result -/
def resS (own : Bool) (d : D) : Sl := if own then ownS d else .va d
/-- what a def promises: what the machine's run gives -/
def spF (e : En) (F : Fh) (np k : Nat) : Sp := fun vs H Q E => vs.length = np ∧ ∃ w fp ps ob, SR e w H fp ⟨ps, ob⟩ (vs.map some) ∧ (match F.run k ps ob with
  | .ok d own outs ob' => ∀ w' H' fp' v, Xt w H fp w' H' fp' → SR e w' H' fp' ⟨resS own d :: outs, ob'⟩ (some v :: vs.map some) → Q v H'
  | .ex ev ob' => ∀ w' H' fp' cls xd, Xt w H fp w' H' fp' → SR e w' H' fp' ⟨[], ob'⟩ [] → ExR e w' ev cls xd → E cls xd H'
  | .no => False)
def bnames : List Str := ["len", "abs", "int", "min", "max", "all", "any", "tuple", "list", "isinstance", "range", "zip", "enumerate", "bool", "str", "sum", "sorted", "set", "dict", "super"]
/-- a context that the check fits -/
structure Ok (e : En) (S : Tx) (F : Fh) (c : CC) (X : Cx) (W : WX) : Prop where
  P : X.prog = e.P
  w : X.w = e.w
  K : X.K = e.K
  mg : X.mg = e.mg
  base : X.base = e.base
  N : X.N = c.N
  sc : X.env.scope = c.sc
  nd : c.N.Nodup
  calm : X.calm = true
  st : ∀ x, c.st x = true → Loc c.sc x ∧ (X.fn x = true ∨ c.sc.names.lookup x = some .local)
  un : X.A.units + 65 < cLine
  tk : Takes X W
  bn : ∀ x ∈ bnames, e.mg x = none
  gi : ∀ (k : Nat) (x : Str) (i : Int), S.g[k]? = some (x, i) → ∃ t, e.mg x = some (.int i t)
  ex : ∀ (c : Nat) (x : Str), S.c[c]? = some x → e.mg x = some (.ref (e.ca c)) ∧ PySem.W.excIn e.K (e.ca c) He.veBase "ValueError.__new__" = true ∧ PySem.W.keepIn e.K (.ref (e.ca c)) = true ∧ PySem.W.subIn e.K (.ref (e.ca c)) (.type "BaseException") = some true ∧ PySem.W.typeIn e.K (.ref (e.ca c)) = some (.type "type")
  cal : ∀ (k : Nat) (x : Str), S.f[k]? = some x → ∃ lv fd ps, Room lv X.A ∧ FnOk e.P e.w e.K e.mg e.base (L2.CX e.P e.w) lv (e.fa k) fd ps (spF e F ps.length k) ∧ Binds e.K fd ps [] ∧ e.mg x = some (.ref (e.fa k)) ∧ PySem.W.keepIn e.K (.ref (e.fa k)) = true ∧ ∀ args ob, F.run k args ob ≠ .no → args.length = ps.length
  lam : c.lam = true → ∃ cc P, X.env.code = .ref cc ∧ LamX.TabB e.base e.mg cc P ∧ (P, X.env.qual ++ "<lambda>") ∈ e.T ∧ ∀ p ∈ e.T, p.1 = P → p.2 = X.env.qual ++ "<lambda>"
  wrd : ∀ (k : Nat) (x : Str) (wd : Wdf), S.w[k]? = some (x, wd) → WordF e x wd
  low : c.lam = true → F.deep = true → ∃ lv, Room (lv + 2) X.A ∧ ∀ (k : Nat) (x : Str), S.f[k]? = some x → ∃ fd ps, FnOk e.P e.w e.K e.mg e.base (L2.CX e.P e.w) lv (e.fa k) fd ps (spF e F.low ps.length k) ∧ Binds e.K fd ps [] ∧ e.mg x = some (.ref (e.fa k)) ∧ PySem.W.keepIn e.K (.ref (e.fa k)) = true ∧ ∀ args ob, F.low.run k args ob ≠ .no → args.length = ps.length
variable {e : En} {S : Tx} {F : Fh} {c : CC} {X : Cx} {W : WX}
theorem vis_of {sc : Scope} {x : Str} (h : visB sc x = true) : Vis sc x := by
  unfold visB at h
  split at h <;> first | exact .inl (by assumption) | exact .inr (.inl (by assumption)) | exact .inr (.inr (by assumption)) | cases h
theorem Ok.gl (o : Ok e S F c X W) {x : Str} (h : glB c.sc x = true) : Gl X x := by
  unfold glB at h
  split at h
  · show X.env.scope.names.lookup x = some .globalImplicit
    rw [o.sc]; assumption
  · cases h
theorem name_dbg {x : Str} (h : nameB x = true) : (x == ("__debug__" : Str)) = false := by
  unfold nameB at h
  simp only [Bool.and_eq_true, Bool.not_eq_true'] at h
  exact h.1.1
theorem name_cd {x : Str} (h : nameB x = true) : (x == ("__classdict__" : Str)) = false := by
  unfold nameB at h
  simp only [Bool.and_eq_true, Bool.not_eq_true'] at h
  exact h.1.2
theorem Ok.gln (o : Ok e S F c X W) {x y : Str} (h : glN c x y = true) : x = y ∧ Gl X y := by
  unfold glN at h
  simp only [Bool.and_eq_true, decide_eq_true_eq] at h
  obtain ⟨rfl, h⟩ := h
  exact ⟨rfl, o.gl h⟩
theorem Ok.none (o : Ok e S F c X W) {x : Str} (h : x ∈ bnames) : X.mg x = none := by rw [o.mg]; exact o.bn x h
theorem star_of {x : Expr} {xs : List Expr} {env : PySem.Env} (h : plainE x = true) : starEach (x :: xs) env = (false, eval x env) :: starEach xs env := by
  cases x <;> first | rfl | cases h
theorem back_star {pos : Pos} {env : PySem.Env} : ∀ {ms : Exs} {xs : List Expr}, chkEs S ms c xs = true → (backTo pos (starEach xs env)).any (·.1) = false
  | .nil, xs, h => by
    simp only [chkEs] at h
    unfold kNil at h
    split at h
    · rfl
    · cases h
  | .cons m ms, xs, h => by
    simp only [chkEs] at h
    unfold kCons at h
    split at h
    · rename_i x xs
      simp only [Bool.and_eq_true] at h
      rw [star_of h.1.1]
      show (false || (backTo pos (starEach xs env)).any (·.1)) = false
      rw [back_star h.2]; rfl
    · cases h
/-! ### names, constants -/
theorem s_nm (o : Ok e S F c X W) {i : Nat} {x : Str} {pos : Pos} (h : kNm c i (.Name x pos) = true) : PE X (.Name x pos) (tVar i) := by
  simp only [kNm, Bool.and_eq_true, decide_eq_true_eq] at h
  exact pe_var (by rw [o.N]; exact h.1.1) (by rw [o.sc]; exact vis_of h.1.2) (name_dbg h.2) (name_cd h.2)
theorem i_nm {i : Nat} {σ : St} {H : Hp} {Q : VK} (h : tE e F W (.nm i) σ H Q) : tVar i σ H Q := by
  obtain ⟨w, fp, M, s, h⟩ := h
  simp only [evE] at h
  cases q : rdN i M with
  | no => rw [q] at h; exact h.elim
  | ex ev m => unfold rdN at q; split at q <;> cases q
  | ok p =>
    rw [q] at h
    obtain ⟨v, w', fp', h1, x, s', r⟩ := s.rd (d := p.1) (m' := p.2) q
    exact ⟨v, h1, h w' H fp' x s' v r⟩
theorem i_nmO {i : Nat} {σ : St} {H : Hp} {Q : VK} (h : tO e F W (.nm i) σ H Q) : tVar i σ H Q := by
  obtain ⟨w, fp, M, s, h⟩ := h
  simp only [opd] at h
  by_cases q : isSet M i = true
  · rw [if_pos q] at h
    have h := h.now s
    unfold isSet at q
    cases q1 : M.sl[i]? with
    | none => rw [q1] at q; cases q
    | some z =>
      obtain ⟨v, hv⟩ := s.var q1 (by rintro rfl; rw [q1] at q; cases q)
      exact ⟨v, hv, h v hv⟩
  · rw [if_neg q] at h
    exact h.elim
/-- an operand that is no name -/
theorem i_opd {m : Ex} {σ : St} {H : Hp} {Q : VK} (hm : ∀ i, m ≠ .nm i) (h : tO e F W m σ H Q) : tE e F W m σ H Q := by
  obtain ⟨w, fp, M, s, h⟩ := h
  have q : opd m (evE F m M) M = (evE F m M).bnd fun p => .ok (.dd p.1, p.2) := by
    cases m <;> first | rfl | exact (hm _ rfl).elim
  rw [q] at h
  exact ⟨w, fp, M, s, h.bnd.imp fun d m' w' H' fp' _ s' h v r => h.now s' v r⟩
theorem s_ct {d : D} {k : Const} {n : Nat} {pos : Pos} (h : constB d k = true) : PE X (.Constant k n pos) (tE e F W (.ct d)) := by
  have kk : ∀ {d : D} {σ : St} {H : Hp} {Q : VK} {v : V}, (∀ w, Rp e w d v) → tE e F W (.ct d) σ H Q → Q v H := fun r ⟨w, fp, M, s, h⟩ => by
    simp only [evE] at h
    exact h.now s _ (r w)
  cases d <;> cases k <;> simp only [constB, Bool.false_eq_true, beq_iff_eq, decide_eq_true_eq] at h
  · exact PE.imp pe_non fun σ H Q q => kk (fun _ => .non) q
  · subst h; exact PE.imp pe_bl fun σ H Q q => kk (fun _ => .bl _) q
  · subst h; exact PE.imp pe_int fun σ H Q q => kk (fun _ => .int _) q
  · subst h; exact PE.imp pe_str fun σ H Q q => kk (fun _ => .str _) q
theorem plain_of {m : Ex} {x : Expr} (h : chkE S m c x = true) : plainE x = true := by
  cases x <;> first | rfl | (cases m <;> simp [chkE, kNm, kCt, kBin, kNeg, kCmp, kCmp2, kAnd, kOr, kNot, kIte, kTup, kLst, kIdx, kSlc, kGl, kWord, kCall, kIsi, kComp, kComp2, kRev, kGf, kCalv, kBad, plainE, kDct0, kDct1] at h)
/-- two operands, an operation -/
theorem i_op2 {a b m : Ex} {f : D → D → Option D} (hm : ∀ M, evE F m M = (opd a (evE F a M) M).bnd fun p => (opd b (evE F b p.2) p.2).bnd fun q => op2 f p.1 q.1 q.2) {σ : St} {H : Hp} {Q : VK} (h : tE e F W m σ H Q) :
    tOp (r2 e f) (tO e F W a) (tO e F W b) σ H Q := by
  obtain ⟨w, fp, M, s, h⟩ := h
  rw [hm M] at h
  refine ⟨w, fp, M, s, h.bnd.imp fun x m1 w1 H1 fp1 x1 s1 h vx rx => ?_⟩
  refine ⟨w1, fp1, m1, s1, h.bnd.imp fun y m2 w2 H2 fp2 x2 s2 h vy ry => ?_⟩
  exact h.op2 s2 (rx.mono x2.le) ry
theorem isOp_of {op : BOp} {o : Operator} (h : isOp op o = true) : o = pyB op := by
  cases op <;> cases o <;> first | rfl | cases h
theorem isCm_of {op : COp} {o : CmpOp} (h : isCm op o = true) : o = pyC op := by
  cases op <;> cases o <;> first | rfl | cases h
theorem nomark_of {op : CmpOp} {x : Expr} (h : plainE x = true) : behindInMarks op x = false := by
  cases x <;> first | rfl | cases h
theorem ix_of {x : Expr} (h : plainE x = true) : PlainIx x := by
  cases x <;> first | exact fun _ _ => rfl | cases h
theorem i_un {a m : Ex} (hm : ∀ M, evE F m M = (evE F a M).bnd fun p => match p.1 with
    | .int i => .ok (.int (-i), p.2)
    | _ => .no) {σ : St} {H : Hp} {Q : VK} (h : tE e F W m σ H Q) : tUn (rU fun i => .int (-i)) (tE e F W a) σ H Q := by
  obtain ⟨w, fp, M, s, h⟩ := h
  rw [hm M] at h
  refine ⟨w, fp, M, s, h.bnd.imp fun d m1 w1 H1 fp1 x1 s1 h v r => ?_⟩
  cases d with
  | int i => cases r; exact ⟨i, rfl, h.now s1 _ (.int _)⟩
  | _ => exact h.elim
theorem Aft.chkT {σ : St} {w : Wd} {H : Hp} {fp : Addr → Prop} {r : R (D × Ms)} {f : Bool → Ms → R (D × Ms)} {G : D → Ms → Wd → Hp → (Addr → Prop) → Prop} (h : Aft e W σ w H fp (Mi.chkT r f) G) :
    Aft e W σ w H fp r fun d m' w' H' fp' => ∃ b, d = .bl b ∧ Aft e W σ w' H' fp' (f b m') G :=
  Aft.imp (Aft.bnd h) fun d m' w' H' fp' _ _ h => by
    cases d with
    | bl b => exact ⟨b, rfl, h⟩
    | _ => exact h.elim
/-- a test, then one of two -/
theorem i_test {a m : Ex} {f : Bool → Ms → R (D × Ms)} (hm : ∀ M, evE F m M = Mi.chkT (evE F a M) f) {σ : St} {H : Hp} {Q : VK} {K : Bool → Hp → Prop} (h : tE e F W m σ H Q)
    (k : ∀ b w' H' fp' m', SR e w' H' fp' m' σ → Aft e W σ w' H' fp' (f b m') (fun d _ w' H' _ => ∀ v, Rp e w' d v → Q v H') → K b H') : tT e F W a σ H K := by
  obtain ⟨w, fp, M, s, h⟩ := h
  rw [hm M] at h
  exact ⟨w, fp, M, s, h.chkT.imp fun d m1 w1 H1 fp1 x1 s1 ⟨b, hb, h⟩ => ⟨b, hb, k b _ _ _ _ s1 h⟩⟩
theorem i_cmp2 {op op' : COp} {a b d : Ex} {σ : St} {H : Hp} {Q : VK} (h : tE e F W (.cmp2 op op' a b d) σ H Q) :
    tChain (rC e op) (rC e op') (tO e F W a) (tE e F W b) (tO e F W d) σ H Q := by
  obtain ⟨w, fp, M, s, h⟩ := h
  simp only [evE] at h
  refine ⟨w, fp, M, s, h.bnd.imp fun x m1 w1 H1 fp1 x1 s1 h vx rx => ?_⟩
  refine ⟨w1, fp1, m1, s1, h.bnd.imp fun y m2 w2 H2 fp2 x2 s2 h vy ry => ?_⟩
  refine Aft.op2 (W := W) (y := .dd y) s2 (rx.mono x2.le) ry (h.chkT.imp fun z m3 w3 H3 fp3 x3 s3 ⟨t, ht, h⟩ v r => ?_)
  subst ht
  cases r
  refine ⟨t, rfl, ?_⟩
  cases t with
  | false => exact h.now s3 _ (.bl _)
  | true =>
    refine ⟨w3, fp3, m3, s3, Aft.imp (Aft.bnd h) fun u m4 w4 H4 fp4 x4 s4 h vu ru => ?_⟩
    exact Aft.op2 (W := W) s4 (x := .dd y) (ry.mono (x3.le.trans x4.le)) ru h
theorem i_tup {es : Exs} {σ : St} {H : Hp} {Q : VK} (h : tE e F W (.tup es) σ H Q) : tTup (tEs e F W es) σ H Q := by
  obtain ⟨w, fp, M, s, h⟩ := h
  simp only [evE] at h
  refine ⟨w, fp, M, s, h.bnd.imp fun ds m1 w1 H1 fp1 x1 s1 h vs rs => ?_⟩
  split at h
  · rename_i hl
    refine ⟨by rw [← rs.length]; exact hl, fun p hp => ?_⟩
    obtain ⟨w', fp', x', s', r⟩ := s1.fin (.inl (.tup hp rs))
    exact h _ _ _ x' s' _ r
  · exact h.elim
theorem i_lst {es : Exs} {σ : St} {H : Hp} {Q : VK} (h : tE e F W (.lst es) σ H Q) : tLst (tEs e F W es) σ H Q := by
  obtain ⟨w, fp, M, s, h⟩ := h
  simp only [evE] at h
  refine ⟨w, fp, M, s, h.bnd.imp fun ds m1 w1 H1 fp1 x1 s1 h vs rs => ?_⟩
  split at h
  · rename_i hl
    refine ⟨by rw [← rs.length]; exact hl, fun p hp => ?_⟩
    obtain ⟨w', fp', x', s', r⟩ := s1.fin (.inl (.lst hp rs))
    exact h _ _ _ x' s' _ r
  · exact h.elim
theorem i_idx {a i : Ex} {σ : St} {H : Hp} {Q : VK} (h : tE e F W (.idx a i) σ H Q) : tOp (r2G e idxD) (tO e F W a) (tE e F W i) σ H Q := by
  obtain ⟨w, fp, M, s, h⟩ := h
  simp only [evE] at h
  refine ⟨w, fp, M, s, h.bnd.imp fun x m1 w1 H1 fp1 x1 s1 h vx rx => ?_⟩
  refine ⟨w1, fp1, m1, s1, h.bnd.imp fun y m2 w2 H2 fp2 x2 s2 h vy ry => ?_⟩
  exact Aft.op2G (W := W) s2 (rx.mono x2.le) (y := .dd y) ry h
theorem i_slc {a lo hi : Ex} {σ : St} {H : Hp} {Q : VK} (h : tE e F W (.slc a lo hi) σ H Q) : tSl (rS e) (tO e F W a) (tP e F W lo) (tP e F W hi) σ H Q := by
  obtain ⟨w, fp, M, s, h⟩ := h
  simp only [evE] at h
  refine ⟨w, fp, M, s, h.bnd.imp fun x m1 w1 H1 fp1 x1 s1 h vx rx => ?_⟩
  refine ⟨w1, fp1, m1, s1, h.bnd.imp fun l m2 w2 H2 fp2 x2 s2 h => ?_⟩
  refine ⟨w2, fp2, m2, s2, h.bnd.imp fun u m3 w3 H3 fp3 x3 s3 h => ?_⟩
  have rx3 := rx.mono (x2.le.trans x3.le)
  simp only [op1] at h
  cases h1 : Mi.dr m3 x with
  | none => rw [h1] at h; exact h.elim
  | some d =>
    rw [h1] at h
    simp only [lift] at h
    cases h3 : slcD d l u with
    | none => rw [h3] at h; exact h.elim
    | some r =>
      rw [h3] at h
      refine ⟨w3, d, r, s3.sub, s3.dr h1 rx3, h3, fun v H' fin => ?_⟩
      obtain ⟨w', fp', x', s', rr⟩ := s3.fin (.inl fin)
      exact h w' H' fp' x' s' v rr
theorem i_bi {f : Bi} {es : Exs} {σ : St} {H : Hp} {Q : VK} (h : tE e F W (.bi f es) σ H Q) : tCB (rF e f) (tOs e F W es) σ H Q := by
  obtain ⟨w, fp, M, s, h⟩ := h
  simp only [evE] at h
  refine ⟨w, fp, M, s, h.bnd.imp fun os m1 w1 H1 fp1 x1 s1 h vs rs => ?_⟩
  cases h1 : Mi.drs m1 os with
  | none => rw [h1] at h; exact h.elim
  | some ds =>
    rw [h1] at h
    simp only [lift] at h
    cases h3 : opF f ds with
    | none => rw [h3] at h; exact h.elim
    | some r =>
      rw [h3] at h
      refine ⟨w1, ds, r, s1.sub, s1.drs h1 rs, h3, fun v H' fin => ?_⟩
      obtain ⟨w', fp', x', s', rr⟩ := s1.fin (.inl fin)
      exact h w' H' fp' x' s' v rr
/-- the arguments of isinstance -/
theorem i_isi {t : Ty} {a : Ex} {σ : St} {H : Hp} {Q : VK} (h : tE e F W (.isi t a) σ H Q) : tCB (rT e t) (tCons (tO e F W a) (tCons (tC (.ty (tyN t))) tNil)) σ H Q := by
  obtain ⟨w, fp, M, s, h⟩ := h
  simp only [evE] at h
  refine ⟨w, fp, M, s, h.bnd.imp fun x m1 w1 H1 fp1 x1 s1 h vx rx => ?_⟩
  show rT e t [vx, .ty (tyN t)] H1 Q
  simp only [op1] at h
  cases h1 : Mi.dr m1 x with
  | none => rw [h1] at h; exact h.elim
  | some d =>
    rw [h1] at h
    simp only [lift] at h
    cases h3 : (isiD t d).map D.bl with
    | none => rw [h3] at h; exact h.elim
    | some r =>
      rw [h3] at h
      refine ⟨w1, d, r, vx, rfl, s1.sub, s1.dr h1 rx, h3, fun v H' fin => ?_⟩
      obtain ⟨w', fp', x', s', rr⟩ := s1.fin (.inl fin)
      exact h w' H' fp' x' s' v rr
theorem valS_res (own : Bool) (d : D) : valS (resS own d) = some d := by
  cases own
  · rfl
  · exact valS_own d
theorem lend_len : ∀ {os : List Od} {fs : List Bool} {m m1 : Ms} {ps : List Sl}, Mi.lend fs os m = some (ps, m1) → m1.sl.length = m.sl.length ∧ ps.length = os.length
  | [], fs, m, m1, ps, h => by
    have q : Mi.lend fs [] m = some ([], m) := by cases fs <;> rfl
    rw [q] at h; cases h; exact ⟨rfl, rfl⟩
  | .dd d :: os, fs, m, m1, ps, h => by
    unfold Mi.lend at h
    obtain ⟨p, h1, h2⟩ := map_some h
    cases h2
    obtain ⟨a, b⟩ := lend_len h1
    exact ⟨a, by simp [b]⟩
  | .sl i :: os, fs, m, m1, ps, h => by
    unfold Mi.lend at h
    split at h
    · obtain ⟨p, h1, h2⟩ := map_some h
      cases h2
      obtain ⟨a, b⟩ := lend_len h1
      exact ⟨a, by simp [b]⟩
    · split at h
      · obtain ⟨p, h1, h2⟩ := map_some h
        cases h2
        obtain ⟨a, b⟩ := lend_len h1
        exact ⟨by simpa [Ms.put] using a, by simp [b]⟩
      · obtain ⟨p, h1, h2⟩ := map_some h
        cases h2
        obtain ⟨a, b⟩ := lend_len h1
        exact ⟨by simpa [Ms.put] using a, by simp [b]⟩
    · cases h
/-- behind a call: what the machine's call gives, owned or not -/
theorem call_ok {k np : Nat} {os : List Od} {vs : List V} {m : Ms} {σ : St} {w : Wd} {H : Hp} {fp : Addr → Prop} {Q : VK}
    (s : SR e w H fp m σ) (rs : OdsR e w σ os vs) (hnp : ∀ args ob, F.run k args ob ≠ .no → args.length = np) (hno : calF F k os m ≠ .no)
    (hex : ∀ ev m', calF F k os m = .ex ev m' → ∀ w' H' fp' cls xd, Xt w H fp w' H' fp' → SR e w' H' fp' m' σ → ExR e w' ev cls xd → W cls xd σ H')
    (hok : ∀ d own m', calF F k os m = .ok ((d, own), m') → ∀ w' H' fp' v, Xt w H fp w' H' fp' → SR e w' H' fp' ⟨resS own d :: m'.sl, m'.ob⟩ (some v :: σ) → Q v H') :
    spF e F np k vs H Q (WE W σ) := by
  cases hl : Mi.lend (F.asg k) os m with
  | none => unfold calF at hno; rw [hl] at hno; exact (hno rfl).elim
  | some pm =>
    obtain ⟨ps, m1⟩ := pm
    obtain ⟨w1, fp1, x1, s1⟩ := s.lend hl rs
    obtain ⟨l1, l2⟩ := lend_len hl
    have hlen : ps.length = vs.length := by rw [l2, rs.length]
    obtain ⟨fpc, s2, fr⟩ := SR.frame (ss1 := ps) (ss2 := m1.sl) (xs1 := vs.map some) (xs2 := σ) s1 (by simpa using hlen)
    unfold calF at hno hex hok
    rw [hl] at hno hex hok
    simp only at hno hex hok
    have hn : vs.length = np := by
      rw [← hlen]
      exact hnp ps m1.ob fun q => by rw [q] at hno; exact hno rfl
    refine ⟨hn, w1, fpc, ps, m1.ob, s2, ?_⟩
    cases hr : F.run k ps m1.ob with
    | no => rw [hr] at hno; exact (hno rfl).elim
    | ex ev ob =>
      rw [hr] at hex
      intro w' H' fp' cls xd x s' r
      obtain ⟨fp'', x2, s''⟩ := fr w' H' fp' [] ob [] x s'
      exact hex ev _ rfl w' H' fp'' cls xd (x1.trans x2) s'' r
    | ok d own outs ob =>
      rw [hr] at hno hok
      simp only at hno hok
      by_cases ho : (outs.length == ps.length) = true
      · rw [if_pos ho] at hok
        have ho : outs.length = ps.length := by simpa using ho
        refine fun w' H' fp' v x s' => ?_
        obtain ⟨fp'', x2, s''⟩ := fr w' H' fp' (resS own d :: outs) ob (some v :: vs.map some) x s'
        -- the result stays aside while what was lent comes back
        obtain ⟨fpb, s3, fb⟩ := SR.frameF (ss2 := [resS own d]) (xs2 := [some v]) (ss1 := outs ++ m1.sl) (xs1 := vs.map some ++ σ) s'' rfl
        have s4 := SR.back (ps := ps) (m := ⟨m1.sl, ob⟩) s3 rs (by rw [ho, hlen])
        obtain ⟨fpd, x5, s5⟩ := fb w' H' fpb _ _ _ .refl s4
        exact hok d own _ rfl w' H' fpd v ((x1.trans x2).trans x5) s5
      · rw [if_neg ho] at hno
        exact (hno rfl).elim
end Mi
/-! Part D3: targets; what is walked. -/
namespace Mi
open PySem PySem.Spec L2
open PyProof.Rows hiding St
variable {e : En} {S : Tx} {F : Fh} {c : CC} {X : Cx} {W : WX}
/-- two states of slots that differ at A alone -/
def Agr (A : List Nat) (σ σ' : St) : Prop := σ'.length = σ.length ∧ ∀ i, i ∉ A → σ'[i]? = σ[i]?
theorem Agr.refl (A : List Nat) (σ : St) : Agr A σ σ := ⟨rfl, fun _ _ => rfl⟩
theorem Agr.trans {A : List Nat} {a b d : St} (x : Agr A a b) (y : Agr A b d) : Agr A a d := ⟨y.1.trans x.1, fun i h => (y.2 i h).trans (x.2 i h)⟩
theorem Agr.mono {A B : List Nat} {a b : St} (x : Agr A a b) (h : ∀ i ∈ A, i ∈ B) : Agr B a b := ⟨x.1, fun i n => x.2 i fun z => n (h i z)⟩
theorem Agr.set {A : List Nat} {σ : St} {i : Nat} {v : Option V} (h : i ∈ A) : Agr A σ (σ.set i v) := ⟨by simp, fun j n => by
  rw [List.getElem?_set_ne fun z => n (by rw [← z]; exact h)]⟩
/-- a value goes to a target -/
def tG (e : En) (tg : Tg) : TG := fun v σ H Q => ∃ w fp M d M', SR e w H fp M σ ∧ Rp e w d v ∧ bindT tg d M = some M' ∧ ∀ σ', SR e w H fp M' σ' → Agr (tgs tg) σ σ' → Q σ' H
theorem PG.imp {x : Expr} {g g' : TG} (h : PG X x g) (i : ∀ v σ H Q, g' v σ H Q → g v σ H Q) : PG X x g' := ⟨fun pins s σ H v u Q I r q => h.run pins s σ H v u Q I r (i v σ H Q q)⟩
theorem s_chkN (o : Ok e S F c X W) {i : Nat} {x : Str} (h : chkN c i x = true) : X.N[i]? = some x ∧ Loc X.env.scope x ∧ (X.fn x = true ∨ X.env.scope.names.lookup x = some .local) := by
  unfold chkN at h
  simp only [Bool.and_eq_true, decide_eq_true_eq] at h
  obtain ⟨h1, h2⟩ := o.st x h.2
  exact ⟨by rw [o.N]; exact h.1, by rw [o.sc]; exact h1, by rw [o.sc]; exact h2⟩
theorem s_name (o : Ok e S F c X W) {i : Nat} {x : Str} {pos : Pos} (h : chkN c i x = true) : PG X (.Name x pos) (gName i) := by
  obtain ⟨h1, h2, h3⟩ := s_chkN o h
  exact pg_name (by rw [o.N]; exact o.nd) h1 h2 h3
def gNames : List Nat → TGs
  | [] => gNil
  | i :: is => gCons (gName i) (gNames is)
theorem s_names (o : Ok e S F c X W) : ∀ {is : List Nat} {xs : List Expr}, chkNs c is xs = true → PGs X xs (gNames is)
  | [], [], _ => pgs_nil
  | [], _ :: _, h => by simp [chkNs] at h
  | _ :: _, [], h => by simp [chkNs] at h
  | i :: is, x :: xs, h => by
    cases x <;> simp only [chkNs, Bool.false_eq_true, Bool.and_eq_true] at h
    exact pgs_cons (s_name o h.1) (s_names o h.2) (by rfl)
theorem names_each {env : PySem.Env} : ∀ {is : List Nat} {xs : List Expr}, chkNs c is xs = true → (assignEach xs env).length = is.length ∧ (assignEach xs env).findIdx? (·.1) = none
  | [], [], _ => ⟨rfl, rfl⟩
  | [], _ :: _, h => by simp [chkNs] at h
  | _ :: _, [], h => by simp [chkNs] at h
  | i :: is, x :: xs, h => by
    cases x <;> simp only [chkNs, Bool.false_eq_true, Bool.and_eq_true] at h
    obtain ⟨h1, h2⟩ := names_each (env := env) h.2
    refine ⟨?_, ?_⟩
    · show (assignEach xs env).length + 1 = is.length + 1
      rw [h1]
    · show List.findIdx? (·.1) ((false, _) :: assignEach xs env) = none
      rw [List.findIdx?_cons]
      simp [h2]
/-- values into names, one after another -/
theorem i_names {A : List Nat} : ∀ {is : List Nat} {ds : List D} {vs : List V} {w : Wd} {H : Hp} {fp : Addr → Prop} {M M' : Ms} {σ : St} {Q : St → Hp → Prop}, SR e w H fp M σ → Rps e w ds vs → setAll is ds M = some M' → (∀ i ∈ is, i ∈ A) →
    (∀ σ', SR e w H fp M' σ' → Agr A σ σ' → Q σ' H) → gNames is vs σ H Q
  | [], [], [], w, H, fp, M, M', σ, Q, s, r, h, hA, q => by cases h; exact ⟨rfl, q σ s (.refl _ _)⟩
  | [], d :: ds, _, w, H, fp, M, M', σ, Q, s, r, h, hA, q => by simp [setAll] at h
  | _ :: _, [], _, w, H, fp, M, M', σ, Q, s, r, h, hA, q => by simp [setAll] at h
  | i :: is, d :: ds, v :: vs, w, H, fp, M, M', σ, Q, s, .cons r rs, h, hA, q => by
    simp only [setAll] at h
    refine ⟨v, vs, rfl, ?_⟩
    exact i_names (s.putV r) rs h (fun j hj => hA j (List.mem_cons_of_mem _ hj)) fun σ' s' a => q σ' s' ((Agr.set (hA i List.mem_cons_self)).trans a)
theorem s_tg (o : Ok e S F c X W) {tg : Tg} {t : Expr} (h : chkTg c tg t = true) : PG X t (tG e tg) := by
  cases tg with
  | one i =>
    cases t <;> simp only [chkTg, Bool.false_eq_true] at h
    refine PG.imp (s_name o h) ?_
    rintro v σ H Q ⟨w, fp, M, d, M', s, r, hb, q⟩
    simp only [bindT, Option.some.injEq] at hb
    subst hb
    exact q _ (s.putV r) (.set (by simp [tgs]))
  | many is =>
    cases t <;> simp only [chkTg, Bool.false_eq_true] at h
    obtain ⟨n1, n2⟩ := names_each (env := X.env) h
    refine PG.imp (pg_tup o.calm (s_names o h) n1 n2) ?_
    rintro v σ H Q ⟨w, fp, M, d, M', s, r, hb, q⟩
    cases d with
    | tup ds =>
      simp only [bindT] at hb
      cases r with
      | @tup a ws _ hI rs =>
      have hl : ∀ {is : List Nat} {ds : List D} {M M' : Ms}, setAll is ds M = some M' → ds.length = is.length := by
        intro is
        induction is with
        | nil => intro ds M M' h; cases ds with
          | nil => rfl
          | cons _ _ => simp [setAll] at h
        | cons i is ih => intro ds M M' h; cases ds with
          | nil => simp [setAll] at h
          | cons d ds => simp only [setAll] at h; simp [ih h]
      exact ⟨a, ws, rfl, SqT.of (s.sub _ _ hI), by rw [← rs.length]; exact hl hb, i_names (A := is) s rs hb (fun i h => h) q⟩
    | _ => simp [bindT] at hb

/-! ### what is walked -/
theorem FinG.mono {w w' : Wd} {H H' : Hp} {d : D} {v : V} (l : w.Le w') (f : FinG e w H d v H') : FinG e w' H d v H' := by
  rcases f with f | ⟨rfl, r⟩
  · cases f with
    | id r h => exact .inl (.id (r.mono l) h)
    | lst h r => exact .inl (.lst h (r.mono l))
    | tup h r => exact .inl (.tup h (r.mono l))
    | dic h r1 r2 p => exact .inl (.dic h (r1.mono l) (r2.mono l) p)
  · exact .inr ⟨rfl, r.mono l⟩
theorem i_seq (hK : X.K = e.K) {a : Ex} {σ : St} {H : Hp} {R : L2.It → Hp → Prop} (h : tIt e F W (.seq a) σ H R) : iList X.K (tE e F W a) σ H R ∨ iTup X.K (tE e F W a) σ H R := by
  obtain ⟨w, fp, M, s, h⟩ := h
  simp only [evI] at h
  have h := h.bnd
  cases hr : evE F a M with
  | no => rw [hr] at h; exact h.elim
  | ex ev m' => rw [hr] at h; exact .inl ⟨w, fp, M, s, by rw [hr]; exact h⟩
  | ok p =>
    obtain ⟨d, m'⟩ := p
    rw [hr] at h
    have key : ∀ w' H' fp', Xt w H fp w' H' fp' → SR e w' H' fp' m' σ → ∃ ds, seqD d = some ds ∧ ∀ J G Y, Walk J ds.length G Y → (∀ H'', (∀ a o, w'.I a = some o → H'' a = some o) → G H'') →
        (∀ i Hc x Hc', i < ds.length → (∀ a o, w'.I a = some o → Hc a = some o) → Y i Hc x Hc' → ∃ d, ds[i]? = some d ∧ FinG e w' Hc d x Hc') → R J H' := fun w' H' fp' x s' => by
      have h := h w' H' fp' x s'
      simp only at h
      cases hs : seqD d with
      | none => rw [hs] at h; exact h.elim
      | some ds => rw [hs] at h; exact ⟨ds, rfl, fun J G Y a b c' => h.now s' J G Y a b c'⟩
    cases d with
    | lst ds =>
      refine .inl ⟨w, fp, M, s, ?_⟩
      rw [hr]
      intro w' H' fp' x s' v r
      obtain ⟨ds', hd, k⟩ := key w' H' fp' x s'
      cases hd
      cases r with
      | @lst p ws _ hI rs =>
      refine ⟨p, rfl, ⟨ws, SqL.of (s'.sub _ _ hI)⟩, k _ _ _ (rs.length ▸ walk_list (K := X.K) (a := p) (xs := ws)) (fun H'' q => SqL.of (q _ _ hI)) fun i Hc x Hc' hi q y => ?_⟩
      obtain ⟨d, h1, h2⟩ := rs.getV y.2
      exact ⟨d, h1, .inr ⟨y.1, h2⟩⟩
    | tup ds =>
      refine .inr ⟨w, fp, M, s, ?_⟩
      rw [hr]
      intro w' H' fp' x s' v r
      obtain ⟨ds', hd, k⟩ := key w' H' fp' x s'
      cases hd
      cases r with
      | @tup p ws _ hI rs =>
      refine ⟨p, rfl, ⟨ws, SqT.of (s'.sub _ _ hI)⟩, k _ _ _ (rs.length ▸ walk_tup (K := X.K) (a := p) (xs := ws)) (fun H'' q => SqT.of (q _ _ hI)) fun i Hc x Hc' hi q y => ?_⟩
      obtain ⟨d, h1, h2⟩ := rs.getV y.2
      exact ⟨d, h1, .inr ⟨y.1, h2⟩⟩
    | _ =>
      refine .inl ⟨w, fp, M, s, ?_⟩
      rw [hr]
      intro w' H' fp' x s' v r
      obtain ⟨ds', hd, k⟩ := key w' H' fp' x s'
      cases hd
theorem rngD_len (i j : Int) : (rngD i j).length = (j - i).toNat := by simp [rngD]
theorem rngD_get {i j : Int} {n : Nat} (h : n < (rngD i j).length) : (rngD i j)[n]? = some (.int (i + n)) := by
  rw [rngD_len] at h
  simp [rngD, h]
theorem i_rng1 {a : Ex} {σ : St} {H : Hp} {R : L2.It → Hp → Prop} (h : tIt e F W (.rng1 a) σ H R) : iRng1 (tCons (tE e F W a) tNil) σ H R := by
  obtain ⟨w, fp, M, s, h⟩ := h
  simp only [evI] at h
  refine ⟨w, fp, M, s, h.bnd.imp fun d m1 w1 H1 fp1 x1 s1 h v r => ?_⟩
  cases d with
  | int j =>
    cases r
    simp only at h
    split at h
    · rename_i hj
      unfold rngOk at hj
      simp only [Bool.and_eq_true, decide_eq_true_eq] at hj
      refine ⟨j, rfl, hj.1, hj.2, h.now s1 _ (fun _ => True) (YFn fun i => .int (0 + i)) ?_ (fun _ _ => trivial) fun i Hc x Hc' hi q y => ⟨_, rngD_get hi, .inr ⟨y.1, ?_⟩⟩⟩
      · rw [rngD_len, Int.sub_zero]; exact walk_range
      · rw [y.2]; exact .int _
    · exact h.elim
  | _ => exact h.elim
theorem i_rng2 {a b : Ex} {σ : St} {H : Hp} {R : L2.It → Hp → Prop} (h : tIt e F W (.rng2 a b) σ H R) : iRng2 (tCons (tE e F W a) (tCons (tE e F W b) tNil)) σ H R := by
  obtain ⟨w, fp, M, s, h⟩ := h
  simp only [evI] at h
  refine ⟨w, fp, M, s, h.bnd.imp fun d m1 w1 H1 fp1 x1 s1 h v r => ?_⟩
  refine ⟨w1, fp1, m1, s1, h.bnd.imp fun d' m2 w2 H2 fp2 x2 s2 h v' r' => ?_⟩
  cases d with
  | int i =>
    cases d' with
    | int j =>
      cases r
      cases r'
      simp only at h
      split at h
      · rename_i hj
        unfold rngOk at hj
        simp only [Bool.and_eq_true, decide_eq_true_eq] at hj
        refine ⟨i, j, rfl, ⟨hj.1.1, hj.1.2, hj.2.1, hj.2.2⟩, h.now s2 _ (fun _ => True) (YFn fun n => .int (i + n)) ?_ (fun _ _ => trivial) fun n Hc x Hc' hi q y => ⟨_, rngD_get hi, .inr ⟨y.1, ?_⟩⟩⟩
        · rw [rngD_len]; exact walk_range
        · rw [y.2]; exact .int _
      · exact h.elim
    | _ => exact h.elim
  | _ => cases d' <;> exact h.elim
theorem zipD_len : ∀ xs ys : List D, (zipD xs ys).length = min xs.length ys.length
  | [], _ => by simp [zipD]
  | _ :: _, [] => by simp [zipD]
  | x :: xs, y :: ys => by simp [zipD, zipD_len xs ys]
theorem zipD_get : ∀ {xs ys : List D} {n : Nat} {x y : D}, xs[n]? = some x → ys[n]? = some y → (zipD xs ys)[n]? = some (.tup [x, y])
  | [], _, _, _, _, h, _ => by simp at h
  | _ :: _, [], _, _, _, _, h => by simp at h
  | a :: xs, b :: ys, 0, x, y, h1, h2 => by simp at h1 h2; simp [zipD, h1, h2]
  | a :: xs, b :: ys, n + 1, x, y, h1, h2 => by
    have := zipD_get (xs := xs) (ys := ys) (n := n) (by simpa using h1) (by simpa using h2)
    simpa [zipD] using this
theorem enuD_len : ∀ (xs : List D) (k : Nat), (enuD k xs).length = xs.length
  | [], _ => rfl
  | x :: xs, k => by simp [enuD, enuD_len xs]
theorem enuD_get : ∀ {xs : List D} {n k : Nat} {x : D}, xs[n]? = some x → (enuD k xs)[n]? = some (.tup [.int ((k + n : Nat) : Int), x])
  | [], _, _, _, h => by simp at h
  | a :: xs, 0, k, x, h => by simp at h; simp [enuD, h]
  | a :: xs, n + 1, k, x, h => by
    have := enuD_get (xs := xs) (n := n) (k := k + 1) (by simpa using h)
    simp only [enuD, List.getElem?_cons_succ, this]
    congr 5
    omega
theorem walk_zipT {K : PySem.W.Frag} {a b : Addr} {xs ys : List V} {n : Nat} (hn : n = min xs.length ys.length) : Walk (RZ.ItzT K a b) n (fun H => SqT K H a xs ∧ SqT K H b ys) (YPair (fun i => xs[i]?) (fun i => ys[i]?)) := by
  subst hn
  refine ⟨fun i _ hi q => ?_, fun _ q => ⟨xs, ys, q.1, q.2, by omega⟩, fun i H v H' _ q y => ?_⟩
  · have h1 : i < xs.length := by omega
    have h2 : i < ys.length := by omega
    exact ⟨xs, ys, xs[i], ys[i], q.1, q.2, by simp, by simp⟩
  · obtain ⟨T, x, z, h1, h2, h3, h4, h5⟩ := y
    exact ⟨T, x, z, h1, h2, h3, h4 xs q.1, h5 ys q.2⟩
theorem y_pair {w : Wd} {xs ys : List D} {us vs : List V} (rx : Rps e w xs us) (ry : Rps e w ys vs) {i : Nat} {Hc Hc' : Hp} {x : V} (y : YPair (fun i => us[i]?) (fun i => vs[i]?) i Hc x Hc') : ∃ d, (zipD xs ys)[i]? = some d ∧ FinG e w Hc d x Hc' := by
  obtain ⟨T, u, v, rfl, hT, rfl, h4, h5⟩ := y
  obtain ⟨d1, g1, r1⟩ := rx.getV h4
  obtain ⟨d2, g2, r2⟩ := ry.getV h5
  exact ⟨_, zipD_get g1 g2, .inl (.tup hT (.cons r1 (.cons r2 .nil)))⟩
theorem seq_sq {w : Wd} {d : D} {v : V} {xs : List D} (r : Rp e w d v) (h : seqD d = some xs) : ∃ p us t, v = .ref p ∧ Rps e w xs us ∧ ∀ (K : PySem.W.Frag) (H : Hp), (∀ a o, w.I a = some o → H a = some o) → SqB t K H p us := by
  unfold seqD at h
  split at h <;> cases h
  · cases r with
    | @lst p us _ hI rs => exact ⟨p, us, false, rfl, rs, fun K H s => SqL.of (s _ _ hI)⟩
  · cases r with
    | @tup p us _ hI rs => exact ⟨p, us, true, rfl, rs, fun K H s => SqT.of (s _ _ hI)⟩
theorem i_zip {a b : Ex} {σ : St} {H : Hp} {R : L2.It → Hp → Prop} (h : tIt e F W (.zip a b) σ H R) : iZipS X.K (tCons (tE e F W a) (tCons (tE e F W b) tNil)) σ H R := by
  obtain ⟨w, fp, M, s, h⟩ := h
  simp only [evI] at h
  refine ⟨w, fp, M, s, h.bnd.imp fun d m1 w1 H1 fp1 x1 s1 h v r => ?_⟩
  refine ⟨w1, fp1, m1, s1, h.bnd.imp fun d' m2 w2 H2 fp2 x2 s2 h v' r' => ?_⟩
  have r := r.mono x2.le
  simp only at h
  cases hz : zipS d d' with
  | none => rw [hz] at h; exact h.elim
  | some xy =>
    obtain ⟨xs, ys⟩ := xy
    rw [hz] at h
    have hh := h.now s2
    unfold zipS at hz
    cases q1 : seqD d with
    | none => rw [q1] at hz; cases hz
    | some xs' =>
      cases q2 : seqD d' with
      | none => rw [q1, q2] at hz; cases hz
      | some ys' =>
        rw [q1, q2] at hz
        cases hz
        obtain ⟨p, us, t, rfl, rs, k1⟩ := seq_sq r q1
        obtain ⟨p', us', t', rfl, rs', k2⟩ := seq_sq r' q2
        refine ⟨p, p', t, t', us, us', rfl, k1 _ _ s2.sub, k2 _ _ s2.sub, hh _ _ _ (walk_zipS ?_) (fun H'' q => ⟨k1 _ _ q, k2 _ _ q⟩) fun i Hc x Hc' hi q y => y_pair rs rs' y⟩
        rw [← rs.length, ← rs'.length]
        exact zipD_len _ _
theorem i_enu (hK : X.K = e.K) {a : Ex} {σ : St} {H : Hp} {R : L2.It → Hp → Prop} (h : tIt e F W (.enu a) σ H R) : iEnum X.K (tCons (tE e F W a) tNil) σ H R ∨ iEnumT X.K (tCons (tE e F W a) tNil) σ H R := by
  obtain ⟨w, fp, M, s, h⟩ := h
  simp only [evI] at h
  have h := h.bnd
  cases hr : evE F a M with
  | no => rw [hr] at h; exact h.elim
  | ex ev m' => rw [hr] at h; exact .inl ⟨w, fp, M, s, by rw [hr]; exact h⟩
  | ok p =>
    obtain ⟨d, m'⟩ := p
    rw [hr] at h
    have key : ∀ w' H' fp', Xt w H fp w' H' fp' → SR e w' H' fp' m' σ → ∃ ds, lstD d = some ds ∧ ∀ J G Y, Walk J (enuD 0 ds).length G Y → (∀ H'', (∀ a o, w'.I a = some o → H'' a = some o) → G H'') →
        (∀ i Hc x Hc', i < (enuD 0 ds).length → (∀ a o, w'.I a = some o → Hc a = some o) → Y i Hc x Hc' → ∃ d, (enuD 0 ds)[i]? = some d ∧ FinG e w' Hc d x Hc') → R J H' := fun w' H' fp' x s' => by
      have h := h w' H' fp' x s'
      simp only at h
      cases hs : lstD d with
      | none => rw [hs] at h; exact h.elim
      | some ds => rw [hs] at h; exact ⟨ds, rfl, fun J G Y a b c' => h.now s' J G Y a b c'⟩
    cases d with
    | lst ds =>
      refine .inl ⟨w, fp, M, s, ?_⟩
      rw [hr]
      intro w' H' fp' x s' v r
      obtain ⟨ds', hd, k⟩ := key w' H' fp' x s'
      cases hd
      cases r with
      | @lst p us _ hI rs =>
      refine ⟨p, us, rfl, SqL.of (s'.sub _ _ hI), k _ _ _ (?_ : Walk _ _ (fun H => SqL X.K H p us) (YPair (fun i => some (.int (i : Nat))) (fun i => us[i]?))) (fun H'' q => SqL.of (q _ _ hI)) fun i Hc x Hc' hi q y => ?_⟩
      · rw [enuD_len, rs.length]; exact walk_enum
      · obtain ⟨T, u, v, rfl, hT, rfl, h4, h5⟩ := y
        obtain ⟨d2, g2, r2⟩ := rs.getV h5
        cases h4
        refine ⟨_, enuD_get g2, .inl (.tup hT (.cons ?_ (.cons r2 .nil)))⟩
        rw [Nat.zero_add]
        exact .int _
    | tup ds =>
      refine .inr ⟨w, fp, M, s, ?_⟩
      rw [hr]
      intro w' H' fp' x s' v r
      obtain ⟨ds', hd, k⟩ := key w' H' fp' x s'
      cases hd
      cases r with
      | @tup p us _ hI rs =>
      refine ⟨p, us, rfl, SqT.of (s'.sub _ _ hI), k _ _ _ (?_ : Walk _ _ (fun H => SqT X.K H p us) (YPair (fun i => some (.int (i : Nat))) (fun i => us[i]?))) (fun H'' q => SqT.of (q _ _ hI)) fun i Hc x Hc' hi q y => ?_⟩
      · rw [enuD_len, rs.length]; exact walk_enumT
      · obtain ⟨T, u, v, rfl, hT, rfl, h4, h5⟩ := y
        obtain ⟨d2, g2, r2⟩ := rs.getV h5
        cases h4
        refine ⟨_, enuD_get g2, .inl (.tup hT (.cons ?_ (.cons r2 .nil)))⟩
        rw [Nat.zero_add]
        exact .int _
    | _ =>
      refine .inl ⟨w, fp, M, s, ?_⟩
      rw [hr]
      intro w' H' fp' x s' v r
      obtain ⟨ds', hd, k⟩ := key w' H' fp' x s'
      cases hd
end Mi
/-! Part D4: comprehensions. -/
namespace Mi
open PySem PySem.Spec L2
open PyProof.Rows hiding St
variable {e : En} {S : Tx} {F : Fh} {c : CC} {X : Cx} {W : WX}
abbrev W0 : WX := fun _ _ _ _ => False
/-- as Aft, a value that is owned where it is a list -/
def AftO (e : En) (W : WX) (σ : St) (w : Wd) (H : Hp) (fp : Addr → Prop) (r : R (D × Ms)) (Q : VK) : Prop := match r with
  | .ok p => ∀ w' H' fp' v, Xt w H fp w' H' fp' → SR e w' H' fp' ⟨ownS p.1 :: p.2.sl, p.2.ob⟩ (some v :: σ) → Q v H'
  | .ex ev m' => ∀ w' H' fp' cls xd, Xt w H fp w' H' fp' → SR e w' H' fp' m' σ → ExR e w' ev cls xd → W cls xd σ H'
  | .no => False
theorem Aft.own {σ : St} {w : Wd} {H : Hp} {fp : Addr → Prop} {r : R (D × Ms)} {Q : VK} (h : Aft e W σ w H fp r fun d _ w' H' _ => ∀ v, Rp e w' d v → Q v H') : AftO e W σ w H fp r Q := by
  cases r with
  | no => exact h
  | ex ev m' => exact h
  | ok p =>
    intro w' H' fp' v x s
    obtain ⟨w2, fp2, x2, s2, r⟩ := SR.un1 (m := p.2) s (valS_own p.1)
    exact h w2 H' fp2 (x.trans x2) s2 v r
theorem AftO.bnd {α : Type} {σ : St} {w : Wd} {H : Hp} {fp : Addr → Prop} {r : R (α × Ms)} {f : α × Ms → R (D × Ms)} {Q : VK} (h : AftO e W σ w H fp (r.bnd f) Q) : Aft e W σ w H fp r fun a m' w' H' fp' => AftO e W σ w' H' fp' (f (a, m')) Q := by
  cases r with
  | no => exact h
  | ex ev m' => exact h
  | ok p =>
    intro w' H' fp' x s'
    have h : AftO e W σ w H fp (f p) Q := h
    show AftO e W σ w' H' fp' (f (p.1, p.2)) Q
    rw [show (p.1, p.2) = p from rfl]
    revert h
    cases f p with
    | no => exact id
    | ex ev m' => exact fun h w'' H'' fp'' cls xd y s'' q => h w'' H'' fp'' cls xd (x.trans y) s'' q
    | ok q => exact fun h w'' H'' fp'' v y s'' => h w'' H'' fp'' v (x.trans y) s''
def tF (e : En) (F : Fh) (W : WX) (m : Ex) : TE := fun σ H Q => ∃ w fp M, SR e w H fp M σ ∧ AftO e W σ w H fp (evE F m M) Q
theorem tE_F {m : Ex} {σ : St} {H : Hp} {Q : VK} (h : tE e F W m σ H Q) : tF e F W m σ H Q := by
  obtain ⟨w, fp, M, s, h⟩ := h
  exact ⟨w, fp, M, s, h.own⟩
/-- behind an operation, owned -/
theorem AftO.op2 {f : D → D → Option D} {σ : St} {w : Wd} {H : Hp} {fp : Addr → Prop} {x y : Od} {m : Ms} {vx vy : V} {Q : VK} (s : SR e w H fp m σ) (hx : OdR e w σ x vx) (hy : OdR e w σ y vy) (h : AftO e W σ w H fp (Mi.op2 f x y m) Q) : r2 e f vx vy H Q := by
  unfold Mi.op2 at h
  cases h1 : Mi.dr m x with
  | none => rw [h1] at h; exact h.elim
  | some a =>
    cases h2 : Mi.dr m y with
    | none => rw [h1, h2] at h; exact h.elim
    | some b =>
      rw [h1, h2] at h
      simp only [lift] at h
      cases h3 : f a b with
      | none => rw [h3] at h; exact h.elim
      | some d =>
        rw [h3] at h
        refine ⟨w, a, b, d, s.sub, s.dr h1 hx, s.dr h2 hy, h3, fun v H' fin => ?_⟩
        obtain ⟨w', fp', x', s'⟩ := s.finO fin
        exact h w' H' fp' v x' s'
theorem o_op2 {a b m : Ex} {f : D → D → Option D} (hm : ∀ M, evE F m M = (opd a (evE F a M) M).bnd fun p => (opd b (evE F b p.2) p.2).bnd fun q => op2 f p.1 q.1 q.2) {σ : St} {H : Hp} {Q : VK} (h : tF e F W m σ H Q) :
    tOp (r2 e f) (tO e F W a) (tO e F W b) σ H Q := by
  obtain ⟨w, fp, M, s, h⟩ := h
  rw [hm M] at h
  refine ⟨w, fp, M, s, h.bnd.imp fun x m1 w1 H1 fp1 x1 s1 h vx rx => ?_⟩
  refine ⟨w1, fp1, m1, s1, (AftO.bnd h).imp fun y m2 w2 H2 fp2 x2 s2 h vy ry => ?_⟩
  exact AftO.op2 s2 (rx.mono x2.le) ry h
theorem o_lst {es : Exs} {σ : St} {H : Hp} {Q : VK} (h : tF e F W (.lst es) σ H Q) : tLst (tEs e F W es) σ H Q := by
  obtain ⟨w, fp, M, s, h⟩ := h
  simp only [evE] at h
  refine ⟨w, fp, M, s, h.bnd.imp fun ds m1 w1 H1 fp1 x1 s1 h vs rs => ?_⟩
  split at h
  · rename_i hl
    refine ⟨by rw [← rs.length]; exact hl, fun p hp => ?_⟩
    obtain ⟨w', fp', x', s'⟩ := s1.finO (.lst hp rs)
    exact h _ _ _ _ x' s'
  · exact h.elim
theorem o_slc {a lo hi : Ex} {σ : St} {H : Hp} {Q : VK} (h : tF e F W (.slc a lo hi) σ H Q) : tSl (rS e) (tO e F W a) (tP e F W lo) (tP e F W hi) σ H Q := by
  obtain ⟨w, fp, M, s, h⟩ := h
  simp only [evE] at h
  refine ⟨w, fp, M, s, h.bnd.imp fun x m1 w1 H1 fp1 x1 s1 h vx rx => ?_⟩
  refine ⟨w1, fp1, m1, s1, (AftO.bnd h).imp fun l m2 w2 H2 fp2 x2 s2 h => ?_⟩
  refine ⟨w2, fp2, m2, s2, (AftO.bnd h).imp fun u m3 w3 H3 fp3 x3 s3 h => ?_⟩
  have rx3 := rx.mono (x2.le.trans x3.le)
  simp only [op1] at h
  cases h1 : Mi.dr m3 x with
  | none => rw [h1] at h; exact h.elim
  | some d =>
    rw [h1] at h
    simp only [lift] at h
    cases h3 : slcD d l u with
    | none => rw [h3] at h; exact h.elim
    | some r =>
      rw [h3] at h
      refine ⟨w3, d, r, s3.sub, s3.dr h1 rx3, h3, fun v H' fin => ?_⟩
      obtain ⟨w', fp', x', s'⟩ := s3.finO fin
      exact h w' H' fp' v x' s'
theorem o_bi {f : Bi} {es : Exs} {σ : St} {H : Hp} {Q : VK} (h : tF e F W (.bi f es) σ H Q) : tCB (rF e f) (tOs e F W es) σ H Q := by
  obtain ⟨w, fp, M, s, h⟩ := h
  simp only [evE] at h
  refine ⟨w, fp, M, s, h.bnd.imp fun os m1 w1 H1 fp1 x1 s1 h vs rs => ?_⟩
  cases h1 : Mi.drs m1 os with
  | none => rw [h1] at h; exact h.elim
  | some ds =>
    rw [h1] at h
    simp only [lift] at h
    cases h3 : opF f ds with
    | none => rw [h3] at h; exact h.elim
    | some r =>
      rw [h3] at h
      refine ⟨w1, ds, r, s1.sub, s1.drs h1 rs, h3, fun v H' fin => ?_⟩
      obtain ⟨w', fp', x', s'⟩ := s1.finO fin
      exact h w' H' fp' v x' s'

/-! ### a block's names -/
theorem wipeM_cons (v : Nat) (vs : List Nat) (m : Ms) : wipeM (v :: vs) m = (wipeM vs m).put v .un := rfl
theorem rest_cons (v : Nat) (vs : List Nat) (m0 m : Ms) : rest (v :: vs) m0 m = (rest vs m0 m).put v (m0.sl.getD v .un) := rfl
theorem SR.wipe {w : Wd} {H : Hp} {fp : Addr → Prop} {m : Ms} {σ : St} (s : SR e w H fp m σ) : ∀ own : List Nat, SR e w H fp (wipeM own m) (L2.wipe σ own)
  | [] => s
  | v :: vs => (s.wipe vs).forget none
theorem wipe_get {σ : St} {i : Nat} : ∀ {vs : List Nat}, i ∈ vs → i < σ.length → (L2.wipe σ vs)[i]? = some none
  | v :: vs, h, hi => by
    unfold L2.wipe
    by_cases z : v = i
    · subst z
      rw [List.getElem?_set_self (by rw [wipe_length]; exact hi)]
    · rw [List.getElem?_set_ne z]
      rcases List.mem_cons.mp h with q | q
      · exact (z q.symm).elim
      · exact wipe_get q hi
theorem wipe_agr (σ : St) (vs : List Nat) : Agr vs σ (L2.wipe σ vs) := ⟨wipe_length σ vs, fun i h => wipe_out h⟩
theorem Agr.wipe {vs : List Nat} {a b : St} (h : Agr vs a b) : L2.wipe b vs = L2.wipe a vs := by
  refine List.ext_getElem? fun i => ?_
  by_cases hi : i ∈ vs
  · by_cases hl : i < a.length
    · rw [wipe_get hi hl, wipe_get hi (by rw [h.1]; exact hl)]
    · rw [List.getElem?_eq_none (by rw [wipe_length, h.1]; omega), List.getElem?_eq_none (by rw [wipe_length]; omega)]
  · rw [wipe_out hi, wipe_out hi, h.2 i hi]
theorem put_len (m : Ms) (i : Nat) (s : Sl) : (m.put i s).sl.length = m.sl.length := by simp [Ms.put]
theorem rest_len (own : List Nat) (m0 m : Ms) : (rest own m0 m).sl.length = m.sl.length := by
  induction own with
  | nil => rfl
  | cons v vs ih => rw [rest_cons, put_len, ih]
theorem put_put (m : Ms) (i : Nat) (a b : Sl) : (m.put i a).put i b = m.put i b := by simp [Ms.put]
theorem put_comm (m : Ms) {i j : Nat} (h : i ≠ j) (a b : Sl) : (m.put i a).put j b = (m.put j b).put i a := by
  simp [Ms.put, List.set_comm _ _ h]
theorem wipeM_put_in {own : List Nat} {m : Ms} {i : Nat} {a : Sl} (h : i ∈ own) : wipeM own (m.put i a) = wipeM own m := by
  induction own with
  | nil => simp at h
  | cons v vs ih =>
    rw [wipeM_cons, wipeM_cons]
    by_cases hv : i ∈ vs
    · rw [ih hv]
    · have z : v = i := by
        rcases List.mem_cons.mp h with q | q
        · exact q.symm
        · exact (hv q).elim
      subst z
      have out : ∀ (vs : List Nat), v ∉ vs → wipeM vs (m.put v a) = (wipeM vs m).put v a := by
        intro vs
        induction vs with
        | nil => intro _; rfl
        | cons u us ih =>
          intro h
          rw [wipeM_cons, wipeM_cons, ih (fun q => h (by simp [q])), put_comm]
          exact fun q => h (by simp [q])
      rw [out vs hv, put_put]
theorem wipeM_rest (own : List Nat) (m0 m : Ms) : wipeM own (rest own m0 m) = wipeM own m := by
  have key : ∀ vs : List Nat, (∀ v ∈ vs, v ∈ own) → wipeM own (rest vs m0 m) = wipeM own m := by
    intro vs
    induction vs with
    | nil => intro _; rfl
    | cons v vs ih => intro h; rw [rest_cons, wipeM_put_in (h v (by simp)), ih fun u hu => h u (by simp [hu])]
  exact key own fun _ h => h
theorem rest_self (m : Ms) : ∀ own : List Nat, rest own m m = m
  | [] => rfl
  | v :: vs => by
    rw [rest_cons, rest_self m vs]
    unfold Ms.put
    by_cases hv : v < m.sl.length
    · rw [List.getD_eq_getElem?_getD, List.getElem?_eq_getElem hv, Option.getD_some, List.set_getElem_self]
    · rw [List.set_eq_of_length_le (by omega)]
/-- what stands at the block's names ahead of it -/
def OwnF (e : En) (w : Wd) (own : List Nat) (m : Ms) (σ : St) : Prop := ∀ i ∈ own, i < σ.length ∧ (m.sl[i]? = some .un ∨ ∃ d v, m.sl[i]? = some (.va d) ∧ σ[i]? = some (some v) ∧ Rp e w d v)
theorem OwnF.mono {w w' : Wd} {own : List Nat} {m : Ms} {σ : St} (l : w.Le w') (h : OwnF e w own m σ) : OwnF e w' own m σ := fun i hi => by
  obtain ⟨h1, h2⟩ := h i hi
  exact ⟨h1, h2.imp id fun ⟨d, v, a, b, r⟩ => ⟨d, v, a, b, r.mono l⟩⟩
theorem SR.ownF {w : Wd} {H : Hp} {fp : Addr → Prop} {m : Ms} {σ : St} (s : SR e w H fp m σ) {own : List Nat} (h : ownOk own m = true) : OwnF e w own m σ := fun i hi => by
  unfold ownOk at h
  have h := (List.all_eq_true.mp h) i hi
  cases q : m.sl[i]? with
  | none => rw [q] at h; cases h
  | some z =>
    rw [q] at h
    have hl : i < σ.length := by rw [← s.len]; exact (List.getElem?_eq_some_iff.mp q).1
    cases z with
    | un => exact ⟨hl, .inl rfl⟩
    | va d =>
      refine ⟨hl, .inr ?_⟩
      obtain ⟨fs, fo, h1, h2, h3, h4⟩ := s.parts
      obtain ⟨x, f, f1, f2, q1, q2, _, _⟩ := h1.at q
      cases q2 with
      | va r => exact ⟨d, _, rfl, q1, r⟩
    | ow d => cases h
    | dp d => cases h
/-- behind the block -/
theorem SR.rest {w : Wd} {H : Hp} {fp : Addr → Prop} {m0 m : Ms} {σ σ2 : St} {own : List Nat} (s : SR e w H fp m σ2) (hf : OwnF e w own m0 σ) (ha : Agr own σ σ2) : SR e w H fp (Mi.rest own m0 m) σ := by
  have key : ∀ vs : List Nat, (∀ v ∈ vs, v ∈ own) → ∃ σ3, SR e w H fp (Mi.rest vs m0 m) σ3 ∧ σ3.length = σ.length ∧ (∀ i, i ∉ vs → σ3[i]? = σ2[i]?) ∧ ∀ i ∈ vs, σ3[i]? = σ[i]? := by
    intro vs
    induction vs with
    | nil => exact fun _ => ⟨σ2, s, ha.1, fun _ _ => rfl, fun _ h => by simp at h⟩
    | cons v vs ih =>
      intro h
      obtain ⟨σ3, s3, l3, a3, b3⟩ := ih fun u hu => h u (by simp [hu])
      obtain ⟨h1, h2⟩ := hf v (h v (by simp))
      have hv : v < σ.length := h1
      refine ⟨σ3.set v (σ[v]'hv), ?_, by simpa using l3, fun i hi => ?_, fun i hi => ?_⟩
      · rw [rest_cons]
        rcases h2 with q | ⟨d, u, q, q', r⟩
        · rw [List.getD_eq_getElem?_getD, q]
          exact s3.forget _
        · rw [List.getD_eq_getElem?_getD, q]
          have : σ[v]'hv = some u := by
            rw [List.getElem?_eq_getElem hv] at q'
            exact Option.some.inj q'
          rw [this]
          exact s3.putV r
      · rw [List.getElem?_set_ne fun z => hi (by simp [z])]
        exact a3 i fun q => hi (by simp [q])
      · by_cases z : v = i
        · subst z
          rw [List.getElem?_set_self (by omega), List.getElem?_eq_getElem hv]
        · rw [List.getElem?_set_ne z]
          exact b3 i (by rcases List.mem_cons.mp hi with q | q; exact (z q.symm).elim; exact q)
  obtain ⟨σ3, s3, l3, a3, b3⟩ := key own fun _ h => h
  have : σ3 = σ := by
    refine List.ext_getElem? fun i => ?_
    by_cases hi : i ∈ own
    · exact b3 i hi
    · rw [a3 i hi, ha.2 i hi]
  rw [← this]; exact s3

/-! ### the new list meanwhile -/
theorem Xt.away {w w' : Wd} {H H' : Hp} {fp fp' : Addr → Prop} (x : Xt w H fp w' H' fp') {D : Addr} {ws : List V} (hD : H D = some (.lst ws)) (n : ¬ fp D) (hI : w.I D = none) : H' D = some (.lst ws) ∧ ¬ fp' D ∧ w'.I D = none := by
  refine ⟨x.keep D _ hD n fun ps z => (by cases z), fun q => ?_, ?_⟩
  · rcases x.fpn D q with z | z
    · exact n z
    · exact z.no hD fun ps q => by cases q
  · cases q : w'.I D with
    | none => rfl
    | some o =>
      rcases x.inw D o q with z | z | z
      · rw [hI] at z; cases z
      · exact (n z).elim
      · exact (z.no hD fun ps q => by cases q).elim
theorem SR.idle {w : Wd} {H : Hp} {fp : Addr → Prop} {m : Ms} {σ : St} (s : SR e w H fp m σ) {D : Addr} {u : HO} (hI : w.I D = none) (n : ¬ fp D) (hb : ∀ o, H D = some o → Big o) : SR e w (upd H D u) fp m σ := by
  obtain ⟨fs, fo, h1, h2, h3, h4⟩ := s.parts
  have ne : ∀ a, fp a → a ≠ D := fun a h z => n (z ▸ h)
  refine ⟨fun a o q => ?_, s.dis, tabs_keep s.tab fun b o q nb => ?_, fs, fo, h1.mono (.refl w) fun a ha o q => ?_, h2.mono (.refl w) fun a ha o q => ?_, h3, h4⟩
  · exact (upd_ne fun z => by rw [z, hI] at q; cases q).trans (s.sub a o q)
  · refine (upd_ne fun z => ?_).trans q
    subst z; exact nb (hb o q)
  · exact (upd_ne (ne a (h4 a (by simp [ha])))).trans q
  · exact (upd_ne (ne a (h4 a (by simp [ha])))).trans q
theorem SR.shrink {w : Wd} {H : Hp} {fp : Addr → Prop} {m : Ms} {σ : St} (s : SR e w H fp m σ) {D : Addr} (hD : H D = none) : SR e w H (fun a => fp a ∧ a ≠ D) m σ := by
  obtain ⟨fs, fo, h1, h2, h3, h4⟩ := s.parts
  refine ⟨s.sub, fun a q => s.dis a q.1, s.tab, fs, fo, h1, h2, h3, fun a ha => ⟨h4 a ha, fun z => ?_⟩⟩
  have : ∃ o, H a = some o ∧ Big o := (List.mem_append.mp ha).elim (h1.there a) (h2.there a)
  obtain ⟨o, q, _⟩ := this
  rw [z, hD] at q; cases q
theorem Xt.other {w w' : Wd} {H H' : Hp} {fp fp' : Addr → Prop} (x : Xt w H fp w' H' fp') {D : Addr} {u : HO} (hD : H D = none) : Xt w H fp w' (upd H' D u) fp' :=
  ⟨x.le, fun a o h n t => (upd_ne fun z => by rw [z, hD] at h; cases h).trans (x.keep a o h n t), x.fpn, x.inw⟩
/-- the list that was built is a value, owned -/
theorem SR.built {w : Wd} {H : Hp} {fp : Addr → Prop} {m : Ms} {σ : St} (s : SR e w H fp m σ) {p : Addr} {ws : List V} {ds : List D} (hI : w.I p = none) (n : ¬ fp p) (hD : H p = some (.lst ws)) (r : Rps e w ds ws) :
    SR e w H (fun a => fp a ∨ a = p) ⟨.ow (.lst ds) :: m.sl, m.ob⟩ (some (.ref p) :: σ) := by
  obtain ⟨fs, fo, h1, h2, h3, h4⟩ := s.parts
  have nm : p ∉ fs ++ fo := fun q => n (h4 p q)
  refine ⟨s.sub, fun a q => q.elim (s.dis a) fun z => by rw [z]; exact hI, s.tab, [p] ++ fs, fo, SlsR.cons (f := [p]) (.ow hD r) h1, h2, ?_, fun a ha => ?_⟩
  · simp only [List.nodup_append, List.mem_append] at h3 nm ⊢
    grind
  · simp only [List.mem_append] at ha h4
    grind
/-! ### a new dict meanwhile -/
theorem Xt.awayO {w w' : Wd} {H H' : Hp} {fp fp' : Addr → Prop} (x : Xt w H fp w' H' fp') {D : Addr} {u : HO} (t : NoTbl u) (hD : H D = some u) (n : ¬ fp D) (hI : w.I D = none) : H' D = some u ∧ ¬ fp' D ∧ w'.I D = none := by
  refine ⟨x.keep D _ hD n t, fun q => ?_, ?_⟩
  · rcases x.fpn D q with z | z
    · exact n z
    · exact z.no hD t
  · cases q : w'.I D with
    | none => rfl
    | some o =>
      rcases x.inw D o q with z | z | z
      · rw [hI] at z; cases z
      · exact (n z).elim
      · exact (z.no hD t).elim
theorem SR.builtD {w : Wd} {H : Hp} {fp : Addr → Prop} {m : Ms} {σ : St} (s : SR e w H fp m σ) {p : Addr} {xs : List Ent} {ks vs : List D} (hI : w.I p = none) (n : ¬ fp p) (hD : H p = some (dctO e.P e.w p xs)) (r1 : Rps e w ks (xs.map kRef)) (r2 : Rps e w vs (xs.map kVal)) (pr : Paired EntD ks xs) :
    SR e w H (fun a => fp a ∨ a = p) ⟨.ow (.dic ks vs) :: m.sl, m.ob⟩ (some (.ref p) :: σ) := by
  obtain ⟨fs, fo, h1, h2, h3, h4⟩ := s.parts
  have nm : p ∉ fs ++ fo := fun q => n (h4 p q)
  refine ⟨s.sub, fun a q => q.elim (s.dis a) fun z => by rw [z]; exact hI, s.tab, [p] ++ fs, fo, SlsR.cons (f := [p]) (.od hD r1 r2 pr) h1, h2, ?_, fun a ha => ?_⟩
  · simp only [List.nodup_append, List.mem_append] at h3 nm ⊢
    grind
  · simp only [List.mem_append] at ha h4
    grind
theorem noTbl_dct {P : Program} {w : World} {d : Addr} {xs : List Ent} : NoTbl (dctO P w d xs) := fun _ z => dctO_tbl z
theorem o_dct0 {σ : St} {H : Hp} {Q : VK} {X : Cx} (hP : X.prog = e.P) (hw : X.w = e.w) (h : tF e F W .dct0 σ H Q) : tNewK X σ H Q := by
  obtain ⟨w, fp, M, s, h⟩ := h
  intro p hp
  have h : AftO e W σ w H fp (.ok (.dic [] [], M)) Q := h
  obtain ⟨w', fp', x', s'⟩ := s.finO (d := .dic [] []) (v := .ref p) (Fin.dic (xs := []) hp .nil .nil .nil)
  rw [hP, hw]
  exact h w' _ fp' _ x' s'
theorem o_dct1 {a b : Ex} {σ : St} {H : Hp} {Q : VK} {X : Cx} (hP : X.prog = e.P) (hw : X.w = e.w) (h : tF e F W (.dct1 a b) σ H Q) : tDisp1 X (tE e F W a) (tE e F W b) σ H Q := by
  obtain ⟨w, fp, M, s, h⟩ := h
  intro p hp
  rw [hP, hw]
  have hI : w.I p = none := by
    cases q : w.I p with
    | none => rfl
    | some u => rw [s.sub p u q] at hp; cases hp
  have x0 : Xt w H fp w (upd H p (dctO e.P e.w p [])) (fun a => fp a ∧ a ≠ p) := by
    have x := (Xt.refl (w := w) (H := H) (fp := fp)).other (u := dctO e.P e.w p []) hp
    exact ⟨x.le, x.keep, fun a z => .inl z.1, x.inw⟩
  have s0 : SR e w (upd H p (dctO e.P e.w p [])) (fun a => fp a ∧ a ≠ p) M σ := (s.shrink hp).idle hI (fun z => z.2 rfl) fun o q => by rw [hp] at q; cases q
  have h : AftO e W σ w H fp ((evE F a M).bnd fun p => (evE F b p.2).bnd fun q => if keyD p.1 then .ok (.dic [p.1] [q.1], q.2) else .no) Q := h
  refine ⟨w, _, M, s0, ?_⟩
  cases ha : evE F a M with
  | no => rw [ha] at h; exact h.elim
  | ex ev m' =>
    rw [ha] at h
    exact fun w' H' fp' cls xd x s' q => h w' H' fp' cls xd (x0.trans x) s' q
  | ok p1 =>
    obtain ⟨d1, m1⟩ := p1
    rw [ha] at h
    simp only [R.bnd] at h
    intro w1 H1 fp1 x1 s1 v1 r1
    refine ⟨w1, fp1, m1, s1, ?_⟩
    cases hb : evE F b m1 with
    | no => rw [hb] at h; exact h.elim
    | ex ev m' =>
      rw [hb] at h
      exact fun w' H' fp' cls xd x s' q => h w' H' fp' cls xd (x0.trans (x1.trans x)) s' q
    | ok p2 =>
      obtain ⟨d2, m2⟩ := p2
      rw [hb] at h
      simp only at h
      by_cases hk : keyD d1 = true
      case neg => rw [if_neg hk] at h; exact h.elim
      rw [if_pos hk] at h
      intro w2 H2 fp2 x2 s2 v2 r2
      obtain ⟨hD2, n2, hI2⟩ := (x1.trans x2).awayO noTbl_dct upd_same (fun z => z.2 rfl) hI
      obtain ⟨ad, k, rfl, hn, ok⟩ := Rb.keyOk s2.sub (.inl (r1.mono x2.le)) hk
      refine ⟨hD2, k, ad, rfl, ok, ?_⟩
      have s3 := s2.idle (u := dctO e.P e.w p [(k, ad, v2)]) hI2 n2 fun o q => by rw [hD2] at q; cases q; exact .dct _ _ _ _
      have s4 := s3.builtD (ks := [d1]) (vs := [d2]) hI2 n2 upd_same (.cons (r1.mono x2.le) .nil) (.cons r2 .nil) (.cons ⟨hn, hk⟩ .nil)
      have x3 := (x0.trans (x1.trans x2)).other (u := dctO e.P e.w p [(k, ad, v2)]) hp
      refine h w2 _ _ (.ref p) ⟨x3.le, x3.keep, fun a z => ?_, x3.inw⟩ s4
      rcases z with z | z
      · exact x3.fpn a z
      · rw [z]; exact .inr (.of hp)
end Mi
/-! Part D5: a comprehension's reading. -/
namespace Mi
open PySem PySem.Spec L2
open PyProof.Rows hiding St
variable {e : En} {S : Tx} {F : Fh} {c : CC} {X : Cx} {W : WX}
/-- one turn -/
def compF (F : Fh) (x : Ex) (tg : Tg) (cd : Ex) (own : List Nat) (d : D) (s1 : Ms) : R (Option D × Ms) := match bindT tg d (wipeM own s1) with
  | some s2 => (condR cd (evE F cd s2) s2).bnd fun t => if t.1 then (evE F x t.2).bnd fun y => .ok (some y.1, y.2) else .ok (none, t.2)
  | none => .no
theorem evE_comp {x : Ex} {tg : Tg} {it : It} {cd : Ex} {own : List Nat} {M : Ms} : evE F (.comp x tg it cd own) M = (evI F it M).bnd fun p => (compL (compF F x tg cd own) p.1 p.2).bnd fun q => if decide (q.1.length ≤ sizeLine) && ownOk own p.2 then .ok (.lst q.1, rest own p.2 q.2) else .no := by
  simp only [evE]; rfl
/-- a block's test keeps to the machine -/
def CondR (e : En) (F : Fh) (cd : Ex) (tt : TT) : Prop := ∀ σ H w fp m b m' (K : Bool → Hp → Prop), SR e w H fp m σ → condR cd (evE F cd m) m = .ok (b, m') → (∀ w' H' fp', Xt w H fp w' H' fp' → SR e w' H' fp' m' σ → K b H') → tt σ H K
theorem cond_yes : CondR e F .om tYes := fun σ H w fp m b m' K s h k => by
  simp only [condR] at h
  cases h
  exact k w H fp .refl s
theorem cond_of {cd : Ex} (hc : isOm cd = false) : CondR e F cd (tT e F W0 cd) := fun σ H w fp m b m' K s h k => by
  have q : condR cd (evE F cd m) m = (evE F cd m).bnd fun t => match t.1 with
    | .bl b => .ok (b, t.2)
    | _ => .no := by cases cd <;> first | rfl | cases hc
  rw [q] at h
  cases hr : evE F cd m with
  | no => rw [hr] at h; cases h
  | ex ev mm => rw [hr] at h; cases h
  | ok p =>
    rw [hr] at h
    obtain ⟨d, m2⟩ := p
    cases d <;> cases h
    refine ⟨w, fp, m, s, ?_⟩
    rw [hr]
    exact fun w' H' fp' x s' => ⟨_, rfl, k w' H' fp' x s'⟩
theorem noEx_ok {α : Type} {r : R α} {a : α} (h : noEx r = .ok a) : r = .ok a := by
  cases r with
  | ok b => exact h
  | ex _ _ => cases h
  | no => cases h
theorem bnd_ok {α β : Type} {r : R α} {f : α → R β} {b : β} (h : r.bnd f = .ok b) : ∃ a, r = .ok a ∧ f a = .ok b := by
  cases r with
  | ok a => exact ⟨a, rfl, h⟩
  | ex _ _ => cases h
  | no => cases h
theorem compL_ex {f : D → Ms → R (Option D × Ms)} : ∀ {xs : List D} {m : Ms} {ev : Ev} {m' : Ms}, compL f xs m ≠ .ex ev m'
  | [], m, ev, m', h => by cases h
  | x :: xs, m, ev, m', h => by
    unfold compL at h
    cases q : f x m with
    | ok p =>
      rw [q] at h
      simp only [noEx, R.bnd] at h
      cases q2 : compL f xs p.2 with
      | ok _ => rw [q2] at h; cases h
      | no => rw [q2] at h; cases h
      | ex ev2 m2 => exact compL_ex q2
    | ex _ _ => rw [q] at h; cases h
    | no => rw [q] at h; cases h
theorem compL_cons {f : D → Ms → R (Option D × Ms)} {x : D} {xs : List D} {m mn : Ms} {l : List D} (h : compL f (x :: xs) m = .ok (l, mn)) : ∃ o m' l', f x m = .ok (o, m') ∧ compL f xs m' = .ok (l', mn) ∧ l = o.toList ++ l' := by
  unfold compL at h
  obtain ⟨p, h1, h2⟩ := bnd_ok h
  obtain ⟨q, h3, h4⟩ := bnd_ok h2
  cases h4
  exact ⟨p.1, p.2, q.1, noEx_ok h1, h3, rfl⟩
theorem o_comp {x : Ex} {tg : Tg} {it : It} {cd : Ex} {own : List Nat} {tt : TT} (ht : CondR e F cd tt) (hown : ∀ i ∈ tgs tg, i ∈ own) {σ : St} {H : Hp} {Q : VK} (h : tF e F W (.comp x tg it cd own) σ H Q) :
    tLc (tIt e F W it) (tG e tg) tt (tE e F W0 x) own σ H Q := by
  obtain ⟨w, fp, M, s, h⟩ := h
  rw [evE_comp] at h
  refine ⟨w, fp, M, s, (AftO.bnd h).imp fun ds m1 w1 H1 fp1 x1 s1 h J G Y wk hG hY p hp => ?_⟩
  simp only at h
  cases hr : compL (compF F x tg cd own) ds m1 with
  | no => rw [hr] at h; exact h.elim
  | ex ev mm => exact (compL_ex hr).elim
  | ok r =>
    obtain ⟨L, mn⟩ := r
    rw [hr] at h
    simp only [R.bnd] at h
    by_cases hok : (decide (L.length ≤ sizeLine) && ownOk own m1) = true
    case neg => rw [if_neg hok] at h; exact h.elim
    rw [if_pos hok] at h
    simp only [Bool.and_eq_true, decide_eq_true_eq] at hok
    obtain ⟨hL, hO⟩ := hok
    have hF := s1.ownF hO
    have hI1 : w1.I p = none := by
      cases q : w1.I p with
      | none => rfl
      | some u => rw [s1.sub p u q] at hp; cases hp
    -- what holds ahead of the turn i
    refine lc_it wk (fun i Hc => ∃ wi fpi mi acc ws l', Xt w1 H1 fp1 wi Hc fpi ∧ SR e wi Hc fpi (rest own m1 mi) σ ∧ ¬ fpi p ∧ wi.I p = none ∧ Hc p = some (.lst ws) ∧ Rps e wi acc ws ∧ compL (compF F x tg cd own) (ds.drop i) mi = .ok (l', mn) ∧ acc ++ l' = L)
      ?start ?still ?turn ?done
    case start =>
      refine ⟨w1, fun a => fp1 a ∧ a ≠ p, m1, [], [], L, ?_, ?_, fun z => z.2 rfl, hI1, upd_same, .nil, by rw [List.drop_zero]; exact hr, rfl⟩
      · have x := (Xt.refl (w := w1) (H := H1) (fp := fp1)).other (u := .lst []) hp
        exact ⟨x.le, x.keep, fun a z => .inl z.1, x.inw⟩
      · rw [rest_self]
        exact (s1.shrink hp).idle hI1 (fun z => z.2 rfl) fun o q => by rw [hp] at q; cases q
    case still =>
      rintro i Hc _ ⟨wi, fpi, mi, acc, ws, l', xi, si, _⟩
      exact hG Hc fun a o q => si.sub a o (xi.le.sub a o q)
    case done =>
      rintro Hc ⟨wi, fpi, mi, acc, ws, l', xi, si, n, hI, hD, r, hc, rfl⟩
      rw [List.drop_length] at hc
      cases hc
      rw [List.append_nil] at h
      have sb := si.built (ds := acc) hI n hD r
      refine h wi Hc (fun a => fpi a ∨ a = p) (.ref p) ⟨xi.le, xi.keep, fun a z => ?_, xi.inw⟩ sb
      rcases z with z | z
      · exact xi.fpn a z
      · rw [z]; exact .inr (.of hp)
    case turn =>
      rintro i v Hc Hc' hi ⟨wi, fpi, mi, acc, ws, l', xi, si, n, hI, hD, r, hc, hl⟩ y
      obtain ⟨d, hd, fin⟩ := hY i Hc v Hc' hi (fun a o q => si.sub a o (xi.le.sub a o q)) y
      have hdrop : ds.drop i = d :: ds.drop (i + 1) := by
        obtain ⟨h1, h2⟩ := List.getElem?_eq_some_iff.mp hd
        rw [← h2]; exact List.drop_eq_getElem_cons h1
      rw [hdrop] at hc
      obtain ⟨o, m4, l2, hf, hc2, rfl⟩ := compL_cons hc
      have s2 := si.wipe own
      rw [wipeM_rest] at s2
      obtain ⟨w2, fp2, x2, s2, rd⟩ := s2.fin (fin.mono xi.le)
      obtain ⟨hD2, n2, hI2⟩ := x2.away hD n hI
      unfold compF at hf
      cases hb : bindT tg d (wipeM own mi) with
      | none => rw [hb] at hf; cases hf
      | some m2 =>
        rw [hb] at hf
        obtain ⟨tb, hcd, hf⟩ := bnd_ok hf
        obtain ⟨b, m3⟩ := tb
        refine ⟨w2, fp2, wipeM own mi, d, m2, s2, rd, hb, fun σ2 s3 ag => ?_⟩
        have ag2 : Agr own σ σ2 := (wipe_agr σ own).trans (ag.mono hown)
        have hw : L2.wipe σ2 own = L2.wipe σ own := ag2.wipe
        refine ⟨hw, ht σ2 Hc' w2 fp2 m2 b m3 _ s3 hcd fun w3 H3 fp3 x3 s4 => ?_⟩
        have x03 := (xi.trans x2).trans x3
        obtain ⟨hD3, n3, hI3⟩ := x3.away hD2 n2 hI2
        have rest_ : ∀ {w4 : Wd} {H4 : Hp} {fp4 : Addr → Prop}, Xt w3 H3 fp3 w4 H4 fp4 → SR e w4 H4 fp4 m4 σ2 → SR e w4 H4 fp4 (rest own m1 m4) σ := fun x4 s5 => s5.rest (hF.mono (x03.trans x4).le) ag2
        cases b with
        | false =>
          simp only [Bool.false_eq_true, if_false] at hf ⊢
          cases hf
          exact ⟨w3, fp3, _, acc, ws, l2, x03, rest_ .refl s4, n3, hI3, hD3, r.mono (x2.trans x3).le, hc2, by simpa using hl⟩
        | true =>
          simp only [if_true] at hf ⊢
          obtain ⟨y4, hy, hf⟩ := bnd_ok hf
          obtain ⟨dy, m5⟩ := y4
          cases hf
          refine ⟨w3, fp3, m3, s4, ?_⟩
          rw [hy]
          intro w4 H4 fp4 x4 s5 vy ry
          obtain ⟨hD4, n4, hI4⟩ := x4.away hD3 n3 hI3
          have r4 := r.mono ((x2.trans x3).trans x4).le
          refine ⟨ws, hD4, ?_, w4, fp4, m5, acc ++ [dy], ws ++ [vy], l2, (x03.trans x4).other hp, (rest_ x4 s5).idle hI4 n4 fun o q => ?_, n4, hI4, upd_same, r4.append (.cons ry .nil), hc2, ?_⟩
          · have e1 := r.length
            have e2 : L.length = acc.length + (l2.length + 1) := by rw [← hl]; simp
            omega
          · rw [hD4] at q; cases q; exact .lst _
          · rw [← hl]; simp
end Mi
/-! Part D6: a comprehension of two clauses. -/
namespace Mi
open PySem PySem.Spec L2
open PyProof.Rows hiding St
variable {e : En} {S : Tx} {F : Fh} {c : CC} {X : Cx} {W : WX}
/-- the inner clause, turn by turn -/
theorem walk_in {J : L2.It} {n : Nat} {G : Hp → Prop} {Y : Nat → Hp → V → Hp → Prop} (w : Walk J n G Y) {H1 : Hp} {Nx : Hp → Prop} {T : V → Hp → (Hp → Prop) → Prop} (Pv : Nat → Hp → Prop) (h0 : Pv 0 H1) (hG : ∀ i H, i ≤ n → Pv i H → G H)
    (hs : ∀ i x H H', i < n → Pv i H → Y i H x H' → T x H' (Pv (i + 1))) (hd : ∀ H, Pv n H → Nx H) :
    ∃ W1 : Nat → Nat → Hp → Prop, (∃ m, W1 0 m H1) ∧ ∀ j k H, W1 j k H → (J.stop j H ∧ Nx H) ∨ (J.go j H ∧ ∃ N1 : Hp → Prop, (∀ H', N1 H' → ∃ k', k' < k ∧ W1 (j + 1) k' H') ∧ ∀ x H', J.yld j H x H' → T x H' N1) := by
  refine ⟨fun j k H => k = n - j ∧ j ≤ n ∧ Pv j H, ⟨n, by simp, Nat.zero_le _, h0⟩, ?_⟩
  rintro j k H ⟨rfl, hj, p⟩
  have q := hG j H hj p
  by_cases hlt : j < n
  · exact .inr ⟨w.goes j H hlt q, Pv (j + 1), fun H' p' => ⟨n - (j + 1), by omega, rfl, hlt, p'⟩, fun x H' y => hs j x H H' hlt p (w.yields j H x H' hlt q y)⟩
  · have z : j = n := by omega
    subst z
    exact .inl ⟨w.stops H q, hd H p⟩
def compI (F : Fh) (x : Ex) (tg2 : Tg) (d : D) (s3 : Ms) : R (Option D × Ms) := match bindT tg2 d (wipeM (tgs tg2) s3) with
  | some s4 => (evE F x s4).bnd fun y => .ok (some y.1, y.2)
  | none => .no
def compO (F : Fh) (x : Ex) (tg : Tg) (tg2 : Tg) (it2 : It) (own : List Nat) (d : D) (s1 : Ms) : R (List D × Ms) := match bindT tg d (wipeM own s1) with
  | some s2 => (evI F it2 s2).bnd fun r => compL (compI F x tg2) r.1 r.2
  | none => .no
theorem evE_comp2 {x : Ex} {tg tg2 : Tg} {it it2 : It} {own : List Nat} {M : Ms} : evE F (.comp2 x tg it tg2 it2 own) M = (evI F it M).bnd fun p => (compL2 (compO F x tg tg2 it2 own) p.1 p.2).bnd fun q => if decide (q.1.length ≤ sizeLine) && ownOk own p.2 then .ok (.lst q.1, rest own p.2 q.2) else .no := by
  simp only [evE]; rfl
theorem compL2_ex {f : D → Ms → R (List D × Ms)} : ∀ {xs : List D} {m : Ms} {ev : Ev} {m' : Ms}, compL2 f xs m ≠ .ex ev m'
  | [], m, ev, m', h => by cases h
  | x :: xs, m, ev, m', h => by
    unfold compL2 at h
    cases q : f x m with
    | ok p =>
      rw [q] at h
      simp only [noEx, R.bnd] at h
      cases q2 : compL2 f xs p.2 with
      | ok _ => rw [q2] at h; cases h
      | no => rw [q2] at h; cases h
      | ex ev2 m2 => exact compL2_ex q2
    | ex _ _ => rw [q] at h; cases h
    | no => rw [q] at h; cases h
theorem compL2_cons {f : D → Ms → R (List D × Ms)} {x : D} {xs : List D} {m mn : Ms} {l : List D} (h : compL2 f (x :: xs) m = .ok (l, mn)) : ∃ o m' l', f x m = .ok (o, m') ∧ compL2 f xs m' = .ok (l', mn) ∧ l = o ++ l' := by
  unfold compL2 at h
  obtain ⟨p, h1, h2⟩ := bnd_ok h
  obtain ⟨q, h3, h4⟩ := bnd_ok h2
  cases h4
  exact ⟨p.1, p.2, q.1, noEx_ok h1, h3, rfl⟩
theorem rest_put_in {own : List Nat} {m0 m : Ms} {i : Nat} {a : Sl} (h : i ∈ own) : rest own m0 (m.put i a) = rest own m0 m := by
  induction own with
  | nil => simp at h
  | cons v vs ih =>
    rw [rest_cons, rest_cons]
    by_cases hv : i ∈ vs
    · rw [ih hv]
    · have z : v = i := by
        rcases List.mem_cons.mp h with q | q
        · exact q.symm
        · exact (hv q).elim
      subst z
      have out : ∀ (vs : List Nat), v ∉ vs → rest vs m0 (m.put v a) = (rest vs m0 m).put v a := by
        intro vs
        induction vs with
        | nil => intro _; rfl
        | cons u us ih =>
          intro h
          rw [rest_cons, rest_cons, ih (fun q => h (by simp [q])), put_comm]
          exact fun q => h (by simp [q])
      rw [out vs hv, put_put]
theorem rest_wipeM {own : List Nat} {m0 m : Ms} : ∀ {vs : List Nat}, (∀ v ∈ vs, v ∈ own) → rest own m0 (wipeM vs m) = rest own m0 m
  | [], _ => rfl
  | v :: vs, h => by rw [wipeM_cons, rest_put_in (h v (by simp)), rest_wipeM fun u hu => h u (by simp [hu])]
theorem o_comp2 {x : Ex} {tg tg2 : Tg} {it it2 : It} {own : List Nat} (hown : ∀ i ∈ tgs tg, i ∈ own) (hown2 : ∀ i ∈ tgs tg2, i ∈ own) {σ : St} {H : Hp} {Q : VK} (h : tF e F W (.comp2 x tg it tg2 it2 own) σ H Q) :
    tLc2 (tIt e F W it) (tG e tg) tYes (tIt e F W0 it2) (tG e tg2) tYes (tE e F W0 x) own (tgs tg2) σ H Q := by
  obtain ⟨w, fp, M, s, h⟩ := h
  rw [evE_comp2] at h
  refine ⟨w, fp, M, s, (AftO.bnd h).imp fun ds m1 w1 H1 fp1 x1 s1 h J G Y wk hG hY p hp => ?_⟩
  simp only at h
  cases hr : compL2 (compO F x tg tg2 it2 own) ds m1 with
  | no => rw [hr] at h; exact h.elim
  | ex ev mm => exact (compL2_ex hr).elim
  | ok r =>
    obtain ⟨L, mn⟩ := r
    rw [hr] at h
    simp only [R.bnd] at h
    by_cases hok : (decide (L.length ≤ sizeLine) && ownOk own m1) = true
    case neg => rw [if_neg hok] at h; exact h.elim
    rw [if_pos hok] at h
    simp only [Bool.and_eq_true, decide_eq_true_eq] at hok
    obtain ⟨hL, hO⟩ := hok
    have hF := s1.ownF hO
    have hI1 : w1.I p = none := by
      cases q : w1.I p with
      | none => rfl
      | some u => rw [s1.sub p u q] at hp; cases hp
    refine walk_in wk (Nx := Q (.ref p)) (T := fun x H' N => tG e tg x (L2.wipe σ own) H' fun σ2 H2 => L2.wipe σ2 own = L2.wipe σ own ∧ tYes σ2 H2 fun b H3 => if b = true then _ else N H3) (fun i Hc => ∃ wi fpi mi acc ws l', Xt w1 H1 fp1 wi Hc fpi ∧ SR e wi Hc fpi (rest own m1 mi) σ ∧ ¬ fpi p ∧ wi.I p = none ∧ Hc p = some (.lst ws) ∧ Rps e wi acc ws ∧ compL2 (compO F x tg tg2 it2 own) (ds.drop i) mi = .ok (l', mn) ∧ acc ++ l' = L)
      ?start ?still ?turn ?done
    case start =>
      refine ⟨w1, fun a => fp1 a ∧ a ≠ p, m1, [], [], L, ?_, ?_, fun z => z.2 rfl, hI1, upd_same, .nil, by rw [List.drop_zero]; exact hr, rfl⟩
      · have x := (Xt.refl (w := w1) (H := H1) (fp := fp1)).other (u := .lst []) hp
        exact ⟨x.le, x.keep, fun a z => .inl z.1, x.inw⟩
      · rw [rest_self]
        exact (s1.shrink hp).idle hI1 (fun z => z.2 rfl) fun o q => by rw [hp] at q; cases q
    case still =>
      rintro i Hc _ ⟨wi, fpi, mi, acc, ws, l', xi, si, _⟩
      exact hG Hc fun a o q => si.sub a o (xi.le.sub a o q)
    case done =>
      rintro Hc ⟨wi, fpi, mi, acc, ws, l', xi, si, n, hI, hD, r, hc, rfl⟩
      rw [List.drop_length] at hc
      cases hc
      rw [List.append_nil] at h
      have sb := si.built (ds := acc) hI n hD r
      refine h wi Hc (fun a => fpi a ∨ a = p) (.ref p) ⟨xi.le, xi.keep, fun a z => ?_, xi.inw⟩ sb
      rcases z with z | z
      · exact xi.fpn a z
      · rw [z]; exact .inr (.of hp)
    case turn =>
      rintro i v Hc Hc' hi ⟨wi, fpi, mi, acc, ws, l', xi, si, n, hI, hD, r, hc, hl⟩ y
      obtain ⟨d, hd, fin⟩ := hY i Hc v Hc' hi (fun a o q => si.sub a o (xi.le.sub a o q)) y
      have hdrop : ds.drop i = d :: ds.drop (i + 1) := by
        obtain ⟨h1, h2⟩ := List.getElem?_eq_some_iff.mp hd
        rw [← h2]; exact List.drop_eq_getElem_cons h1
      rw [hdrop] at hc
      obtain ⟨o, m4, l2, hf, hc2, rfl⟩ := compL2_cons hc
      have s2 := si.wipe own
      rw [wipeM_rest] at s2
      obtain ⟨w2, fp2, x2, s2, rd⟩ := s2.fin (fin.mono xi.le)
      obtain ⟨hD2, n2, hI2⟩ := x2.away hD n hI
      unfold compO at hf
      cases hb : bindT tg d (wipeM own mi) with
      | none => rw [hb] at hf; cases hf
      | some m2 =>
        rw [hb] at hf
        obtain ⟨rm, hi2, hf⟩ := bnd_ok hf
        obtain ⟨rs, m3⟩ := rm
        simp only at hf
        refine ⟨w2, fp2, wipeM own mi, d, m2, s2, rd, hb, fun σ2 s3 ag => ?_⟩
        have ag2 : Agr own σ σ2 := (wipe_agr σ own).trans (ag.mono hown)
        refine ⟨ag2.wipe, ?_⟩
        show tIt e F W0 it2 σ2 Hc' _
        refine ⟨w2, fp2, m2, s3, ?_⟩
        rw [hi2]
        intro w3 H3 fp3 x3 s4 J1 G1 Y1 wk1 hG1 hY1
        obtain ⟨hD3, n3, hI3⟩ := x3.away hD2 n2 hI2
        have x03 := (xi.trans x2).trans x3
        have agw : Agr own σ (L2.wipe σ2 (tgs tg2)) := ag2.trans ((wipe_agr σ2 (tgs tg2)).mono hown2)
        refine walk_in wk1 (T := fun x H' N => tG e tg2 x (L2.wipe σ2 (tgs tg2)) H' fun σ3 H5 => L2.wipe σ3 (tgs tg2) = L2.wipe σ2 (tgs tg2) ∧ tYes σ3 H5 fun b H6 => if b = true then _ else N H6)
          (fun j Hj => ∃ wj fpj mj acc ws l3, Xt w1 H1 fp1 wj Hj fpj ∧ w3.Le wj ∧ SR e wj Hj fpj (wipeM (tgs tg2) mj) (L2.wipe σ2 (tgs tg2)) ∧ ¬ fpj p ∧ wj.I p = none ∧ Hj p = some (.lst ws) ∧ Rps e wj acc ws ∧ compL (compI F x tg2) (rs.drop j) mj = .ok (l3, m4) ∧ acc ++ (l3 ++ l2) = L) ?start1 ?still1 ?turn1 ?done1
        case start1 =>
          exact ⟨w3, fp3, m3, acc, ws, o, x03, .refl w3, s4.wipe _, n3, hI3, hD3, r.mono (x2.trans x3).le, by rw [List.drop_zero]; exact hf, hl⟩
        case still1 =>
          rintro j Hj _ ⟨wj, fpj, mj, acc, ws, l3, xj, lj, sj, _⟩
          exact hG1 Hj fun a u q => sj.sub a u (lj.sub a u q)
        case done1 =>
          rintro Hj ⟨wj, fpj, mj, acc, ws, l3, xj, lj, sj, nj, hIj, hDj, rj, hcj, hlj⟩
          rw [List.drop_length] at hcj
          cases hcj
          refine ⟨wj, fpj, _, acc, ws, l2, xj, ?_, nj, hIj, hDj, rj, hc2, by simpa using hlj⟩
          have z := sj.rest (hF.mono xj.le) agw
          rw [rest_wipeM hown2] at z
          exact z
        case turn1 =>
          rintro j u Hj Hj' hj ⟨wj, fpj, mj, acc, ws, l3, xj, lj, sj, nj, hIj, hDj, rj, hcj, hlj⟩ yj
          obtain ⟨dj, hdj, finj⟩ := hY1 j Hj u Hj' hj (fun a o q => sj.sub a o (lj.sub a o q)) yj
          have hdropj : rs.drop j = dj :: rs.drop (j + 1) := by
            obtain ⟨h1, h2⟩ := List.getElem?_eq_some_iff.mp hdj
            rw [← h2]; exact List.drop_eq_getElem_cons h1
          rw [hdropj] at hcj
          obtain ⟨oj, m5, l5, hfj, hcj2, rfl⟩ := compL_cons hcj
          obtain ⟨w6, fp6, x6, s6, rdj⟩ := sj.fin (finj.mono lj)
          obtain ⟨hD6, n6, hI6⟩ := x6.away hDj nj hIj
          unfold compI at hfj
          cases hbj : bindT tg2 dj (wipeM (tgs tg2) mj) with
          | none => rw [hbj] at hfj; cases hfj
          | some m6 =>
            rw [hbj] at hfj
            obtain ⟨ym, hy, hfj⟩ := bnd_ok hfj
            obtain ⟨dy, m7⟩ := ym
            cases hfj
            refine ⟨w6, fp6, wipeM (tgs tg2) mj, dj, m6, s6, rdj, hbj, fun σ3 s7 ag3 => ?_⟩
            have ag4 : Agr (tgs tg2) σ2 σ3 := (wipe_agr σ2 _).trans ag3
            refine ⟨ag4.wipe, ?_⟩
            show tE e F W0 x σ3 Hj' _
            refine ⟨w6, fp6, m6, s7, ?_⟩
            rw [hy]
            intro w8 H8 fp8 x8 s8 vy ry
            obtain ⟨hD8, n8, hI8⟩ := x8.away hD6 n6 hI6
            refine ⟨ws, hD8, ?_, w8, fp8, m7, acc ++ [dy], ws ++ [vy], l5, ((xj.trans x6).trans x8).other hp, lj.trans (x6.trans x8).le, ?_, n8, hI8, upd_same, (rj.mono (x6.trans x8).le).append (.cons ry .nil), hcj2, ?_⟩
            · have e1 := rj.length
              have e2 : L.length = acc.length + (l5.length + l2.length + 1) := by rw [← hlj]; simp
              omega
            · have z := s8.wipe (tgs tg2)
              rw [ag4.wipe] at z
              exact z.idle hI8 n8 fun o q => by rw [hD8] at q; cases q; exact .lst _
            · rw [← hlj]; simp
end Mi
/-! Part E: each expression that fits keeps to the machine. -/
namespace Mi
open PySem PySem.Spec L2
open PyProof.Rows hiding St
variable {e : En} {S : Tx} {F : Fh} {c : CC} {X : Cx} {W : WX}
/-- the context of a block within -/
theorem Ok.blk (o : Ok e S F c X W) (s : Shared) (H : Hp) (sc : Scope) (C : Addr) (cl : List (Str × Addr)) (fp : List Addr) : Ok e S F (blkCC c sc) (X.blk s H sc (compEnvC sc cl C X.env) fp) W0 := by
  refine ⟨o.P, o.w, o.K, o.mg, o.base, o.N, ?_, o.nd, o.calm, fun x h => ?_, o.un, takes0, o.bn, o.gi, o.ex, o.cal, o.lam, o.wrd, o.low⟩
  · show relS sc X.env.scope = relS sc c.sc
    rw [o.sc]
  · have h : (match sc.names.lookup x with | some .local => true | some .cell => true | _ => false) = true := h
    split at h
    · rename_i q
      have z := lookup_relS_keep (sc := c.sc) (by decide) q
      exact ⟨.inl z, .inr z⟩
    · rename_i q
      have z := lookup_relS_keep (sc := c.sc) (by decide) q
      refine ⟨.inr z, .inl ?_⟩
      show (sc.names.lookup x == some .cell) = true
      rw [q]; rfl
    · cases h
structure Snd (e : En) (S : Tx) (F : Fh) (m : Ex) : Prop where
  pe : ∀ c X W x, Ok e S F c X W → chkE S m c x = true → PE X x (tE e F W m)
  pf : isFr m = true → (∀ k es, m ≠ .call k es) → ∀ c X W x, Ok e S F c X W → chkE S m c x = true → PE X x (tF e F W m)
  pt : tst m = true → ∀ c X W x, Ok e S F c X W → chkE S m c x = true → PT X x (tT e F W m)
  pwA : ∀ a b, m = .band a b → tst m = true → ∀ c X W xs pos, Ok e S F c X W → chkE S m c (.BoolOp .And xs pos) = true → PW X (.BoolOp .And xs pos) (tT e F W m)
  pwO : ∀ a b, m = .bor a b → tst m = true → ∀ c X W xs pos, Ok e S F c X W → chkE S m c (.BoolOp .Or xs pos) = true → PW X (.BoolOp .Or xs pos) (tT e F W m)
/-- an operand -/
theorem Snd.po {m : Ex} (h : Snd e S F m) (o : Ok e S F c X W) {x : Expr} (hx : chkE S m c x = true) : PE X x (tO e F W m) := by
  by_cases q : ∃ i, m = .nm i
  · obtain ⟨i, rfl⟩ := q
    simp only [chkE] at hx
    unfold kNm at hx
    split at hx
    · exact PE.imp (s_nm o hx) fun σ H Q => i_nmO
    · cases hx
  · exact PE.imp (h.pe c X W x o hx) fun σ H Q => i_opd fun i z => q ⟨i, z⟩
def isDef : Expr → Bool
  | .Name .. | .Call .. | .Subscript .. => true
  | _ => false
theorem isTrue_def {x : Expr} {env : PySem.Env} (h : isDef x = true) : ∀ whole, isTrue x env whole = (do let v ← whole; standAt x.pos; holding [v] (truthy v)) := by
  cases x <;> first | exact fun _ => rfl | cases h
theorem pt_of {m : Ex} {x : Expr} (h : PE X x (tE e F W m)) (d : isDef x = true) : PT X x (tT e F W m) := PT.imp (pt_val h (isTrue_def d)) fun σ H Q => tT_E
theorem i_band {a b : Ex} {σ : St} {H : Hp} {Q : VK} (h : tE e F W (.band a b) σ H Q) : tAndV (tE e F W a) (tE e F W b) σ H Q := by
  obtain ⟨w, fp, M, s, h⟩ := h
  simp only [evE] at h
  refine ⟨w, fp, M, s, h.chkT.imp fun d m1 w1 H1 fp1 x1 s1 ⟨t, ht, h⟩ v r => ?_⟩
  subst ht
  cases r
  refine ⟨t, rfl, ?_⟩
  cases t with
  | true => exact ⟨w1, fp1, m1, s1, h⟩
  | false => exact h.now s1 _ (.bl _)
theorem i_bor {a b : Ex} {σ : St} {H : Hp} {Q : VK} (h : tE e F W (.bor a b) σ H Q) : tOrV (tE e F W a) (tE e F W b) σ H Q := by
  obtain ⟨w, fp, M, s, h⟩ := h
  simp only [evE] at h
  refine ⟨w, fp, M, s, h.chkT.imp fun d m1 w1 H1 fp1 x1 s1 ⟨t, ht, h⟩ v r => ?_⟩
  subst ht
  cases r
  refine ⟨t, rfl, ?_⟩
  cases t with
  | false => exact ⟨w1, fp1, m1, s1, h⟩
  | true => exact h.now s1 _ (.bl _)
theorem t_band {a b : Ex} {σ : St} {H : Hp} {Q : Bool → Hp → Prop} (h : tT e F W (.band a b) σ H Q) : tAnd (tT e F W a) (tT e F W b) σ H Q := by
  obtain ⟨w, fp, M, s, h⟩ := h
  simp only [evE] at h
  refine ⟨w, fp, M, s, Aft.imp (Aft.chkT h) fun d m1 w1 H1 fp1 x1 s1 ⟨t, ht, h⟩ => ⟨t, ht, ?_⟩⟩
  cases t with
  | true => exact ⟨w1, fp1, m1, s1, h⟩
  | false =>
    obtain ⟨b, hb, q⟩ := h.now s1
    cases hb
    exact q
theorem t_bor {a b : Ex} {σ : St} {H : Hp} {Q : Bool → Hp → Prop} (h : tT e F W (.bor a b) σ H Q) : tOr (tT e F W a) (tT e F W b) σ H Q := by
  obtain ⟨w, fp, M, s, h⟩ := h
  simp only [evE] at h
  refine ⟨w, fp, M, s, Aft.imp (Aft.chkT h) fun d m1 w1 H1 fp1 x1 s1 ⟨t, ht, h⟩ => ⟨t, ht, ?_⟩⟩
  cases t with
  | false => exact ⟨w1, fp1, m1, s1, h⟩
  | true =>
    obtain ⟨b, hb, q⟩ := h.now s1
    cases hb
    exact q
theorem t_bnot {a : Ex} {σ : St} {H : Hp} {Q : Bool → Hp → Prop} (h : tT e F W (.bnot a) σ H Q) : tNot (tT e F W a) σ H Q := by
  obtain ⟨w, fp, M, s, h⟩ := h
  simp only [evE] at h
  refine ⟨w, fp, M, s, Aft.imp (Aft.chkT h) fun d m1 w1 H1 fp1 x1 s1 ⟨t, ht, h⟩ => ⟨t, ht, ?_⟩⟩
  obtain ⟨b, hb, q⟩ := h.now s1
  cases hb
  exact q
theorem i_bnot {a : Ex} {σ : St} {H : Hp} {Q : VK} (h : tE e F W (.bnot a) σ H Q) : tNotV (tE e F W a) σ H Q := by
  obtain ⟨w, fp, M, s, h⟩ := h
  simp only [evE] at h
  refine ⟨w, fp, M, s, h.chkT.imp fun d m1 w1 H1 fp1 x1 s1 ⟨t, ht, h⟩ v r => ?_⟩
  subst ht
  cases r
  exact ⟨t, rfl, h.now s1 _ (.bl _)⟩
theorem i_ite {t a b : Ex} {σ : St} {H : Hp} {Q : VK} (h : tE e F W (.ite t a b) σ H Q) : tIf (tT e F W t) (tE e F W a) (tE e F W b) σ H Q := by
  obtain ⟨w, fp, M, s, h⟩ := h
  simp only [evE] at h
  refine ⟨w, fp, M, s, h.chkT.imp fun d m1 w1 H1 fp1 x1 s1 ⟨t, ht, h⟩ => ⟨t, ht, ?_⟩⟩
  cases t with
  | true => exact ⟨w1, fp1, m1, s1, h⟩
  | false => exact ⟨w1, fp1, m1, s1, h⟩
section
variable {a b d t m : Ex} {es : Exs} {it it2 : It}
theorem snd_nm (i : Nat) : Snd e S F (.nm i) where
  pe := fun c X W x o h => by
    simp only [chkE] at h
    unfold kNm at h
    split at h
    · exact PE.imp (s_nm o h) fun σ H Q => i_nm
    · cases h
  pf := fun h => by cases h
  pt := fun _ c X W x o h => by
    simp only [chkE] at h
    unfold kNm at h
    split at h
    · exact pt_of (PE.imp (s_nm o h) fun σ H Q => i_nm) rfl
    · cases h
  pwA := fun _ _ h => by cases h
  pwO := fun _ _ h => by cases h
theorem snd_ct (d : D) : Snd e S F (.ct d) where
  pe := fun c X W x o h => by
    simp only [chkE] at h
    unfold kCt at h
    split at h
    · exact s_ct h
    · cases h
  pf := fun h => by cases h
  pt := fun h => by cases h
  pwA := fun _ _ h => by cases h
  pwO := fun _ _ h => by cases h
theorem snd_gl (k : Nat) (i : Int) : Snd e S F (.gl k i) where
  pe := fun c X W x o h => by
    simp only [chkE] at h
    unfold kGl at h
    split at h
    · simp only [Bool.and_eq_true, decide_eq_true_eq] at h
      obtain ⟨t, ht⟩ := o.gi _ _ _ h.1.1
      refine PE.imp (pe_glob (o.gl h.1.2) (by rw [o.mg]; exact ht) (v := .int i) ⟨t, rfl⟩ (name_dbg h.2)) fun σ H Q ⟨w, fp, M, s, q⟩ => ?_
      simp only [evE] at q
      exact q.now s _ (.int i)
    · cases h
  pf := fun h => by cases h
  pt := fun h => by cases h
  pwA := fun _ _ h => by cases h
  pwO := fun _ _ h => by cases h
theorem snd_no (hm : ∀ c x, chkE S m c x = false) : Snd e S F m where
  pe := fun c X W x o h => by rw [hm] at h; cases h
  pf := fun _ _ c X W x o h => by rw [hm] at h; cases h
  pt := fun _ c X W x o h => by rw [hm] at h; cases h
  pwA := fun _ _ _ _ c X W xs pos o h => by rw [hm] at h; cases h
  pwO := fun _ _ _ _ c X W xs pos o h => by rw [hm] at h; cases h
theorem snd_bin {op : BOp} (ha : Snd e S F a) (hb : Snd e S F b) : Snd e S F (.bin op a b) where
  pe := fun c X W x o h => by
    simp only [chkE] at h
    unfold kBin at h
    split at h
    · simp only [Bool.and_eq_true] at h
      rw [isOp_of h.1.1]
      exact PE.imp (pe_op (o_bin o.K op) (ha.po o h.1.2) (hb.po o h.2)) fun σ H Q => i_op2 fun M => rfl
    · cases h
  pf := fun _ _ c X W x o h => by
    simp only [chkE] at h
    unfold kBin at h
    split at h
    · simp only [Bool.and_eq_true] at h
      rw [isOp_of h.1.1]
      exact PE.imp (pe_op (o_bin o.K op) (ha.po o h.1.2) (hb.po o h.2)) fun σ H Q => o_op2 fun M => rfl
    · cases h
  pt := fun h => by cases h
  pwA := fun _ _ h => by cases h
  pwO := fun _ _ h => by cases h
theorem snd_neg (ha : Snd e S F a) : Snd e S F (.neg a) where
  pe := fun c X W x o h => by
    simp only [chkE] at h
    unfold kNeg at h
    split at h
    · exact PE.imp (pe_un un_neg (ha.pe c X W _ o h)) fun σ H Q => i_un fun M => rfl
    · cases h
  pf := fun h => by cases h
  pt := fun h => by cases h
  pwA := fun _ _ h => by cases h
  pwO := fun _ _ h => by cases h
theorem snd_cmp {op : COp} (ha : Snd e S F a) (hb : Snd e S F b) : Snd e S F (.cmp op a b) where
  pe := fun c X W x o h => by
    simp only [chkE] at h
    unfold kCmp at h
    split at h
    · simp only [Bool.and_eq_true] at h
      obtain rfl := isCm_of h.1.1
      exact PE.imp (pe_cmpR (o_cmpC o.K o.P o.w o.un op) (ha.po o h.1.2) (hb.po o h.2) (nomark_of (plain_of h.2))) fun σ H Q => i_op2 fun M => rfl
    · cases h
  pf := fun h => by cases h
  pt := fun _ c X W x o h => by
    simp only [chkE] at h
    unfold kCmp at h
    split at h
    · simp only [Bool.and_eq_true] at h
      obtain rfl := isCm_of h.1.1
      exact PT.imp (pt_cmpR (o_cmpC o.K o.P o.w o.un op) (ha.po o h.1.2) (hb.po o h.2) (nomark_of (plain_of h.2))) fun σ H Q q => i_op2 (fun M => rfl) (tT_E q)
    · cases h
  pwA := fun _ _ h => by cases h
  pwO := fun _ _ h => by cases h
theorem marks2 {o1 o2 : CmpOp} {y z : Expr} (h : plainE z = true) : lastMarks [o1, o2] [y, z] = false := by
  show behindInMarks o2 z = false
  exact nomark_of h
theorem snd_cmp2 {op op' : COp} (ha : Snd e S F a) (hb : Snd e S F b) (hd : Snd e S F d) : Snd e S F (.cmp2 op op' a b d) where
  pe := fun c X W x o h => by
    simp only [chkE] at h
    unfold kCmp2 at h
    split at h
    · simp only [Bool.and_eq_true] at h
      obtain rfl := isCm_of h.1.1.1.1
      obtain rfl := isCm_of h.1.1.1.2
      exact PE.imp (pe_chain (o_cmpC o.K o.P o.w o.un op) (o_cmpC o.K o.P o.w o.un op') (ha.po o h.1.1.2) (hb.pe c X W _ o h.1.2) (hd.po o h.2) (marks2 (plain_of h.2))) fun σ H Q => i_cmp2
    · cases h
  pf := fun h => by cases h
  pt := fun _ c X W x o h => by
    simp only [chkE] at h
    unfold kCmp2 at h
    split at h
    · simp only [Bool.and_eq_true] at h
      obtain rfl := isCm_of h.1.1.1.1
      obtain rfl := isCm_of h.1.1.1.2
      exact PT.imp (pt_chain (o_cmpC o.K o.P o.w o.un op) (o_cmpC o.K o.P o.w o.un op') (ha.po o h.1.1.2) (hb.pe c X W _ o h.1.2) (hd.po o h.2) (marks2 (plain_of h.2))) fun σ H Q q => i_cmp2 (tT_E q)
    · cases h
  pwA := fun _ _ h => by cases h
  pwO := fun _ _ h => by cases h
theorem snd_band (ha : Snd e S F a) (hb : Snd e S F b) : Snd e S F (.band a b) := by
  have pw : tst (.band a b) = true → ∀ c X W xs pos, Ok e S F c X W → chkE S (.band a b) c (.BoolOp .And xs pos) = true → PW X (.BoolOp .And xs pos) (tT e F W (.band a b)) := fun ht c X W xs pos o h => by
    simp only [tst, Bool.and_eq_true] at ht
    simp only [chkE] at h
    unfold kAnd at h
    split at h
    · rename_i q
      cases q
      simp only [Bool.and_eq_true] at h
      exact PW.imp (pw_and (ha.pt ht.1 c X W _ o h.1) (pw_and1 (hb.pt ht.2 c X W _ o h.2))) fun σ H Q => t_band
    · rename_i q
      cases q
      simp only [Bool.and_eq_true] at h
      have hb2 := h.2
      have : ∃ a' b', b = .band a' b' := by
        cases b <;> first | exact ⟨_, _, rfl⟩ | (simp [chkE, kNm, kCt, kBin, kNeg, kCmp, kCmp2, kAnd, kOr, kNot, kIte, kTup, kLst, kIdx, kSlc, kGl, kWord, kCall, kIsi, kComp, kComp2, kRev, kGf, kCalv, kBad, kDct0, kDct1] at hb2)
      obtain ⟨a', b', hb'⟩ := this
      exact PW.imp (pw_and (ha.pt ht.1 c X W _ o h.1) (hb.pwA a' b' hb' ht.2 c X W _ _ o h.2)) fun σ H Q => t_band
    · cases h
  refine ⟨fun c X W x o h => ?_, fun h => (by cases h), fun ht c X W x o h => ?_, fun _ _ _ => pw, fun _ _ h => by cases h⟩
  · simp only [chkE] at h
    unfold kAnd at h
    split at h
    · simp only [Bool.and_eq_true] at h
      exact PE.imp (pe_and (ha.pe c X W _ o h.1) (pe_one (hb.pe c X W _ o h.2))) fun σ H Q => i_band
    · simp only [Bool.and_eq_true] at h
      exact PE.imp (pe_and (ha.pe c X W _ o h.1) (hb.pe c X W _ o h.2)) fun σ H Q => i_band
    · cases h
  · have h' := h
    simp only [chkE] at h
    unfold kAnd at h
    split at h
    · exact (pw ht c X W _ _ o h').pt
    · exact (pw ht c X W _ _ o h').pt
    · cases h
theorem snd_bor (ha : Snd e S F a) (hb : Snd e S F b) : Snd e S F (.bor a b) := by
  have pw : tst (.bor a b) = true → ∀ c X W xs pos, Ok e S F c X W → chkE S (.bor a b) c (.BoolOp .Or xs pos) = true → PW X (.BoolOp .Or xs pos) (tT e F W (.bor a b)) := fun ht c X W xs pos o h => by
    simp only [tst, Bool.and_eq_true] at ht
    simp only [chkE] at h
    unfold kOr at h
    split at h
    · rename_i q
      cases q
      simp only [Bool.and_eq_true] at h
      exact PW.imp (pw_or (ha.pt ht.1 c X W _ o h.1) (pw_or1 (hb.pt ht.2 c X W _ o h.2))) fun σ H Q => t_bor
    · rename_i q
      cases q
      simp only [Bool.and_eq_true] at h
      have hb2 := h.2
      have : ∃ a' b', b = .bor a' b' := by
        cases b <;> first | exact ⟨_, _, rfl⟩ | (simp [chkE, kNm, kCt, kBin, kNeg, kCmp, kCmp2, kAnd, kOr, kNot, kIte, kTup, kLst, kIdx, kSlc, kGl, kWord, kCall, kIsi, kComp, kComp2, kRev, kGf, kCalv, kBad, kDct0, kDct1] at hb2)
      obtain ⟨a', b', hb'⟩ := this
      exact PW.imp (pw_or (ha.pt ht.1 c X W _ o h.1) (hb.pwO a' b' hb' ht.2 c X W _ _ o h.2)) fun σ H Q => t_bor
    · cases h
  refine ⟨fun c X W x o h => ?_, fun h => (by cases h), fun ht c X W x o h => ?_, fun _ _ h => (by cases h), fun _ _ _ => pw⟩
  · simp only [chkE] at h
    unfold kOr at h
    split at h
    · simp only [Bool.and_eq_true] at h
      exact PE.imp (pe_or (ha.pe c X W _ o h.1) (pe_one (hb.pe c X W _ o h.2))) fun σ H Q => i_bor
    · simp only [Bool.and_eq_true] at h
      exact PE.imp (pe_or (ha.pe c X W _ o h.1) (hb.pe c X W _ o h.2)) fun σ H Q => i_bor
    · cases h
  · have h' := h
    simp only [chkE] at h
    unfold kOr at h
    split at h
    · exact (pw ht c X W _ _ o h').pt
    · exact (pw ht c X W _ _ o h').pt
    · cases h
theorem snd_bnot (ha : Snd e S F a) : Snd e S F (.bnot a) where
  pe := fun c X W x o h => by
    simp only [chkE] at h
    unfold kNot at h
    split at h
    · simp only [Bool.and_eq_true] at h
      exact PE.imp (pe_not (ha.pe c X W _ o h.2)) fun σ H Q => i_bnot
    · cases h
  pf := fun h => by cases h
  pt := fun _ c X W x o h => by
    simp only [chkE] at h
    unfold kNot at h
    split at h
    · simp only [Bool.and_eq_true] at h
      exact PT.imp (pt_not (ha.pt h.1 c X W _ o h.2)) fun σ H Q => t_bnot
    · cases h
  pwA := fun _ _ h => by cases h
  pwO := fun _ _ h => by cases h
theorem snd_ite (ht : Snd e S F t) (ha : Snd e S F a) (hb : Snd e S F b) : Snd e S F (.ite t a b) where
  pe := fun c X W x o h => by
    simp only [chkE] at h
    unfold kIte at h
    split at h
    · simp only [Bool.and_eq_true] at h
      exact PE.imp (pe_ifExp (ht.pt h.1.1.1 c X W _ o h.1.1.2) (ha.pe c X W _ o h.1.2) (hb.pe c X W _ o h.2)) fun σ H Q => i_ite
    · cases h
  pf := fun h => by cases h
  pt := fun h => by cases h
  pwA := fun _ _ h => by cases h
  pwO := fun _ _ h => by cases h
/-- several expressions -/
structure Snds (e : En) (S : Tx) (F : Fh) (ms : Exs) : Prop where
  pa : ∀ c X W xs, Ok e S F c X W → chkEs S ms c xs = true → PA X xs (tEs e F W ms)
  po : ∀ c X W xs, Ok e S F c X W → chkEs S ms c xs = true → PA X xs (tOs e F W ms)
theorem snds_nil : Snds e S F .nil where
  pa := fun c X W xs o h => by
    simp only [chkEs] at h
    unfold kNil at h
    split at h
    · refine PA.imp pa_nil ?_
      rintro σ H Q ⟨w, fp, M, s, h⟩
      simp only [evEs] at h
      exact h.now s _ .nil
    · cases h
  po := fun c X W xs o h => by
    simp only [chkEs] at h
    unfold kNil at h
    split at h
    · refine PA.imp pa_nil ?_
      rintro σ H Q ⟨w, fp, M, s, h⟩
      simp only [evOs] at h
      exact h.now s _ .nil
    · cases h
theorem snds_cons (ha : Snd e S F a) (hr : Snds e S F es) : Snds e S F (.cons a es) where
  pa := fun c X W xs o h => by
    simp only [chkEs] at h
    unfold kCons at h
    split at h
    · simp only [Bool.and_eq_true] at h
      refine PA.imp (pa_cons (ha.pe c X W _ o h.1.2) (hr.pa c X W _ o h.2) (star_of h.1.1)) ?_
      rintro σ H Q ⟨w, fp, M, s, h⟩
      simp only [evEs] at h
      refine ⟨w, fp, M, s, h.bnd.imp fun d m1 w1 H1 fp1 x1 s1 h v r => ?_⟩
      refine ⟨w1, fp1, m1, s1, h.bnd.imp fun ds m2 w2 H2 fp2 x2 s2 h vs rs => ?_⟩
      exact h.now s2 _ (.cons (r.mono x2.le) rs)
    · cases h
  po := fun c X W xs o h => by
    simp only [chkEs] at h
    unfold kCons at h
    split at h
    · simp only [Bool.and_eq_true] at h
      refine PA.imp (pa_cons (ha.po o h.1.2) (hr.po c X W _ o h.2) (star_of h.1.1)) ?_
      rintro σ H Q ⟨w, fp, M, s, h⟩
      simp only [evOs] at h
      refine ⟨w, fp, M, s, h.bnd.imp fun d m1 w1 H1 fp1 x1 s1 h v r => ?_⟩
      refine ⟨w1, fp1, m1, s1, h.bnd.imp fun ds m2 w2 H2 fp2 x2 s2 h vs rs => ?_⟩
      exact h.now s2 _ (.cons (r.mono x2.le) rs)
    · cases h
theorem snd_tup (hs : Snds e S F es) : Snd e S F (.tup es) where
  pe := fun c X W x o h => by
    simp only [chkE] at h
    unfold kTup at h
    split at h
    · exact PE.imp (pe_tup (hs.pa c X W _ o h)) fun σ H Q => i_tup
    · cases h
  pf := fun h => by cases h
  pt := fun h => by cases h
  pwA := fun _ _ h => by cases h
  pwO := fun _ _ h => by cases h
theorem snd_lst (hs : Snds e S F es) : Snd e S F (.lst es) where
  pe := fun c X W x o h => by
    simp only [chkE] at h
    unfold kLst at h
    split at h
    · exact PE.imp (pe_lst (hs.pa c X W _ o h)) fun σ H Q => i_lst
    · cases h
  pf := fun _ _ c X W x o h => by
    simp only [chkE] at h
    unfold kLst at h
    split at h
    · exact PE.imp (pe_lst (hs.pa c X W _ o h)) fun σ H Q => o_lst
    · cases h
  pt := fun h => by cases h
  pwA := fun _ _ h => by cases h
  pwO := fun _ _ h => by cases h
theorem snd_idx (ha : Snd e S F a) (hb : Snd e S F b) : Snd e S F (.idx a b) where
  pe := fun c X W x o h => by
    simp only [chkE] at h
    unfold kIdx at h
    split at h
    · simp only [Bool.and_eq_true] at h
      exact PE.imp (pe_ix (x_idx o.K) (ha.po o h.1.2) (hb.pe c X W _ o h.2) (ix_of h.1.1)) fun σ H Q => i_idx
    · cases h
  pf := fun h => by cases h
  pt := fun _ c X W x o h => by
    simp only [chkE] at h
    unfold kIdx at h
    split at h
    · simp only [Bool.and_eq_true] at h
      exact pt_of (PE.imp (pe_ix (x_idx o.K) (ha.po o h.1.2) (hb.pe c X W _ o h.2) (ix_of h.1.1)) fun σ H Q => i_idx) rfl
    · cases h
  pwA := fun _ _ h => by cases h
  pwO := fun _ _ h => by cases h
/-- a part of a slice -/
theorem Snd.part (ha : Snd e S F a) (o : Ok e S F c X W) {x : Option Expr} (h : kP (isOm a) (chkE S a c) x = true) : PO X x (tP e F W a) := by
  unfold kP at h
  split at h
  · have q : a = .om := by cases a <;> first | rfl | cases h
    subst q
    refine PO.imp po_none ?_
    rintro σ H Q ⟨w, fp, M, s, h⟩
    simp only [evP] at h
    exact h.now s
  · rename_i x
    have q : ∀ M, evP a (evE F a M) M = (evE F a M).bnd fun p => match p.1 with
        | .int i => .ok (some i, p.2)
        | _ => .no := by
      intro M
      cases a <;> first | rfl | (simp [chkE] at h)
    refine PO.imp (po_some (ha.pe c X W _ o h)) ?_
    rintro σ H Q ⟨w, fp, M, s, h⟩
    rw [q] at h
    refine ⟨w, fp, M, s, h.bnd.imp fun d m1 w1 H1 fp1 x1 s1 h v r => ?_⟩
    cases d with
    | int i => cases r; exact ⟨i, rfl, h.now s1⟩
    | _ => exact h.elim
theorem snd_slc (ha : Snd e S F a) (hb : Snd e S F b) (hd : Snd e S F d) : Snd e S F (.slc a b d) where
  pe := fun c X W x o h => by
    simp only [chkE] at h
    unfold kSlc at h
    split at h
    · simp only [Bool.and_eq_true] at h
      exact PE.imp (pe_slice (x_slc o.K) (ha.po o h.1.1) (hb.part o h.1.2) (hd.part o h.2)) fun σ H Q => i_slc
    · cases h
  pf := fun _ _ c X W x o h => by
    simp only [chkE] at h
    unfold kSlc at h
    split at h
    · simp only [Bool.and_eq_true] at h
      exact PE.imp (pe_slice (x_slc o.K) (ha.po o h.1.1) (hb.part o h.1.2) (hd.part o h.2)) fun σ H Q => o_slc
    · cases h
  pt := fun h => by cases h
  pwA := fun _ _ h => by cases h
  pwO := fun _ _ h => by cases h
end
end Mi
/-! Part E2: calls, comprehensions, what is walked; the whole of expressions. -/
namespace Mi
open PySem PySem.Spec L2
open PyProof.Rows hiding St
variable {e : En} {S : Tx} {F : Fh} {c : CC} {X : Cx} {W : WX}
/-- a call without arguments -/
theorem pe_callN {CX : CXT} {k : Nat} {f : Addr} {fd : FuncData} {ps : List Str} {sp : Sp} {E : St → XK} {x : Str} {p pos : Pos} (Fo : FnOk X.prog X.w X.K X.mg X.base CX k f fd ps sp) (hr : Room k X.A) (hg : Gl X x) (hm : X.mg x = some (.ref f)) (hk : PySem.W.keepIn X.K (.ref f) = true) (hb : Binds X.K fd ps [])
    (hx : ∀ σ, PassesAt CX X σ (E σ)) (hd : (x == ("__debug__" : Str)) = false) : PE X (.Call (.Name x p) [] [] pos) (tCallS sp E tNil) :=
  ⟨fun pins s σ H Q I h => wpAny_Call_Name_kw (ld_glob I hg hm (PySem.W.callWith_K0 I.kIn hk (run_fnS (us := []) Fo hr hb (hx σ) I .nil h)) hd)⟩
theorem s_call (o : Ok e S F c X W) {k : Nat} {x : Str} {p pos : Pos} {es : Exs} {xs : List Expr} (h1 : S.f[k]? = some x) (h2 : glB c.sc x = true) (h3 : nameB x = true) (h4 : chkEs S es c xs = true) (ht : Snds e S F es) :
    ∃ np, (∀ args ob, F.run k args ob ≠ .no → args.length = np) ∧ PE X (.Call (.Name x p) xs [] pos) (tCallS (spF e F np k) (WE W) (tOs e F W es)) := by
  obtain ⟨lv, fd, ps, hr, hf, hb, hm, hk, hn⟩ := o.cal k x h1
  rw [← o.P, ← o.w, ← o.K, ← o.mg, ← o.base] at hf
  have hm' : X.mg x = some (.ref (e.fa k)) := by rw [o.mg]; exact hm
  have hk' : PySem.W.keepIn X.K (.ref (e.fa k)) = true := by rw [o.K]; exact hk
  have hb' : Binds X.K fd ps [] := by rw [o.K]; exact hb
  have ht := ht.po c X W xs o h4
  refine ⟨ps.length, hn, ?_⟩
  cases xs with
  | nil =>
    have q := pe_callN (p := p) (pos := pos) hf hr (o.gl h2) hm' hk' hb' (fun σ => passAt o.tk σ) (name_dbg h3)
    refine PE.imp q fun σ H Q h => ?_
    have he : es = .nil := by
      cases es with
      | nil => rfl
      | cons a r => simp [chkEs, kCons] at h4
    subst he
    obtain ⟨w, fp, M, s, h⟩ := h
    simp only [evOs] at h
    exact h.now s [] .nil
  | cons y ys =>
    have hs : plainE y = true := by
      cases es <;> simp only [chkEs] at h4
      · simp [kNil] at h4
      · simp only [kCons, Bool.and_eq_true] at h4; exact h4.1.1
    have hbk : (backTo pos (starEach ys X.env)).any (·.1) = false := by
      have z := back_star (pos := pos) (env := X.env) h4
      rw [star_of hs] at z
      have z : (false || (backTo pos (starEach ys X.env)).any (·.1)) = false := z
      simpa using z
    exact pe_callS hf hr (o.gl h2) hm' hk' hb' (fun σ => passAt o.tk σ) ht (name_dbg h3) (star_of hs) hbk
theorem i_call {k np : Nat} {es : Exs} (hnp : ∀ args ob, F.run k args ob ≠ .no → args.length = np) {σ : St} {H : Hp} {Q : VK} (h : tE e F W (.call k es) σ H Q) : tCallS (spF e F np k) (WE W) (tOs e F W es) σ H Q := by
  obtain ⟨w, fp, M, s, h⟩ := h
  simp only [evE] at h
  refine ⟨w, fp, M, s, h.bnd.imp fun os m1 w1 H1 fp1 x1 s1 h vs rs => ?_⟩
  have h := Aft.bnd (f := fun p : (D × Bool) × Ms => R.ok (p.1.1, p.2)) h
  refine call_ok s1 rs hnp (fun q => ?_) (fun ev m' q => ?_) fun d own m' q w' H' fp' v x s' => ?_
  · rw [q] at h; exact h
  · rw [q] at h; exact h
  · rw [q] at h
    obtain ⟨w2, fp2, x2, s2, r⟩ := SR.un1 (m := m') s' (valS_res own d)
    exact (h w2 H' fp2 (x.trans x2) s2).now s2 v r
/-- a value that is owned where it is a list, by evR -/
def tR (e : En) (F : Fh) (W : WX) (fr : Bool) (m : Ex) : TE := fun σ H Q => ∃ w fp M, SR e w H fp M σ ∧ (match evR F fr m M with
  | .ok p => ∀ w' H' fp' v, Xt w H fp w' H' fp' → SR e w' H' fp' ⟨resS fr p.1 :: p.2.sl, p.2.ob⟩ (some v :: σ) → Q v H'
  | .ex ev m' => ∀ w' H' fp' cls xd, Xt w H fp w' H' fp' → SR e w' H' fp' m' σ → ExR e w' ev cls xd → W cls xd σ H'
  | .no => False)
theorem o_call {k np : Nat} {es : Exs} (hnp : ∀ args ob, F.run k args ob ≠ .no → args.length = np) {σ : St} {H : Hp} {Q : VK} (h : tR e F W true (.call k es) σ H Q) : tCallS (spF e F np k) (WE W) (tOs e F W es) σ H Q := by
  obtain ⟨w, fp, M, s, h⟩ := h
  have h : AftO e W σ w H fp ((evOs F es M).bnd fun p => (calF F k p.1 p.2).bnd fun q => if q.1.2 || !isLst q.1.1 then .ok (q.1.1, q.2) else .no) Q := h
  refine ⟨w, fp, M, s, (AftO.bnd h).imp fun os m1 w1 H1 fp1 x1 s1 h vs rs => ?_⟩
  refine call_ok s1 rs hnp (fun q => ?_) (fun ev m' q => ?_) fun d own m' q w' H' fp' v x s' => ?_
  · rw [q] at h; exact h
  · rw [q] at h; exact h
  · rw [q] at h
    simp only [R.bnd] at h
    by_cases z : (own || !isLst d) = true
    · rw [if_pos z] at h
      refine h w' H' fp' v x ?_
      have : resS own d = ownS d := by
        cases own with
        | true => rfl
        | false => exact (ownS_not (by simpa using z)).symm
      rw [← this]; exact s'
    · rw [if_neg z] at h; exact h.elim
section
variable {a b d t m : Ex} {es : Exs} {it it2 : It}
theorem snd_call (k : Nat) (hs : Snds e S F es) : Snd e S F (.call k es) where
  pe := fun c X W x o h => by
    simp only [chkE] at h
    unfold kCall at h
    split at h
    · simp only [Bool.and_eq_true, decide_eq_true_eq] at h
      obtain ⟨np, hn, q⟩ := s_call o h.1.1.1 h.1.1.2 h.1.2 h.2 hs
      exact PE.imp q fun σ H Q => i_call hn
    · cases h
  pf := fun _ h => (h k es rfl).elim
  pt := fun _ c X W x o h => by
    simp only [chkE] at h
    unfold kCall at h
    split at h
    · simp only [Bool.and_eq_true, decide_eq_true_eq] at h
      obtain ⟨np, hn, q⟩ := s_call o h.1.1.1 h.1.1.2 h.1.2 h.2 hs
      exact pt_of (PE.imp q fun σ H Q => i_call hn) rfl
    · cases h
  pwA := fun _ _ h => by cases h
  pwO := fun _ _ h => by cases h
theorem nmF_in : ∀ f, nmF f ∈ bnames
  | .len | .abs | .int | .min2 | .max2 | .all | .any | .tuple | .list | .max1 | .min1 | .sum1 | .str1 => by simp [nmF, bnames]
theorem nmF_ne : ∀ f, nmF f ≠ "__name__" ∧ (nmF f == ("__debug__" : Str)) = false
  | .len | .abs | .int | .min2 | .max2 | .all | .any | .tuple | .list | .max1 | .min1 | .sum1 | .str1 => by decide +kernel
theorem s_bi (o : Ok e S F c X W) {f : Bi} {x : Str} {p pos : Pos} {xs : List Expr} (h1 : glN c x (nmF f) = true) (h2 : chkEs S es c xs = true) (hc : isCons es = true) (hs : Snds e S F es) : PE X (.Call (.Name x p) xs [] pos) (tCB (rF e f) (tOs e F W es)) := by
  obtain ⟨rfl, hg⟩ := o.gln h1
  have ht := hs.po c X W xs o h2
  cases xs with
  | nil => cases es <;> simp [chkEs, kCons, isCons] at h2 hc
  | cons y ys =>
    have hp : plainE y = true := by
      cases es <;> simp only [chkEs] at h2
      · simp [kNil] at h2
      · simp only [kCons, Bool.and_eq_true] at h2; exact h2.1.1
    have hbk : (backTo pos (starEach ys X.env)).any (·.1) = false := by
      have z := back_star (pos := pos) (env := X.env) h2
      rw [star_of hp] at z
      have z : (false || (backTo pos (starEach ys X.env)).any (·.1)) = false := z
      simpa using z
    have hr := f_bi (e := e) o.K o.calm (by have := o.un; omega) f
    have hb := f_boot f
    cases hv : vaF f with
    | builtin id =>
      rw [hv] at hr hb
      exact pe_callB hr hg (o.none (nmF_in f)) hb ht (nmF_ne f).1 (nmF_ne f).2 (star_of hp) hbk
    | type T =>
      rw [hv] at hr hb
      exact pe_callTy hr hg (o.none (nmF_in f)) hb ht (nmF_ne f).1 (nmF_ne f).2 (star_of hp) hbk
    | _ => cases f <;> cases hv
theorem snd_bi (f : Bi) (hs : Snds e S F es) : Snd e S F (.bi f es) where
  pe := fun c X W x o h => by
    simp only [chkE, Bool.and_eq_true] at h
    obtain ⟨h, hc⟩ := h
    unfold kCall at h
    split at h
    · simp only [Bool.and_eq_true] at h
      exact PE.imp (s_bi o h.1 h.2 hc hs) fun σ H Q => i_bi
    · cases h
  pf := fun _ _ c X W x o h => by
    simp only [chkE, Bool.and_eq_true] at h
    obtain ⟨h, hc⟩ := h
    unfold kCall at h
    split at h
    · simp only [Bool.and_eq_true] at h
      exact PE.imp (s_bi o h.1 h.2 hc hs) fun σ H Q => o_bi
    · cases h
  pt := fun _ c X W x o h => by
    simp only [chkE, Bool.and_eq_true] at h
    obtain ⟨h, hc⟩ := h
    unfold kCall at h
    split at h
    · simp only [Bool.and_eq_true] at h
      exact pt_of (PE.imp (s_bi o h.1 h.2 hc hs) fun σ H Q => i_bi) rfl
    · cases h
  pwA := fun _ _ h => by cases h
  pwO := fun _ _ h => by cases h
/-! ### backwards; defs as values -/
theorem i_rev {a : Ex} (hK : X.K = e.K) {σ : St} {H : Hp} {Q : VK} (h : tE e F W (.rev a) σ H Q) : tRevA X.K (tO e F W a) σ H Q := by
  obtain ⟨w, fp, M, s, h⟩ := h
  have h : Aft e W σ w H fp ((opd a (evE F a M) M).bnd fun p => op1 revD p.1 p.2) fun d _ w' H' _ => ∀ v, Rp e w' d v → Q v H' := h
  refine ⟨w, fp, M, s, h.bnd.imp fun x m1 w1 H1 fp1 x1 s1 h vx rx => ?_⟩
  simp only [op1] at h
  cases h1 : Mi.dr m1 x with
  | none => rw [h1] at h; exact h.elim
  | some d =>
    rw [h1] at h
    simp only [lift] at h
    have rb := s1.dr h1 rx
    have rr : ∀ {ds : List D} {ws : List V}, Rps e w1 ds ws → Rps e w1 ds.reverse ws.reverse := fun {ds ws} r => by
      have gen : ∀ (ds : List D) (ws : List V) (es : List D) (us : List V), Rps e w1 ds ws → Rps e w1 es us → Rps e w1 (ds.reverseAux es) (ws.reverseAux us) := by
        intro ds
        induction ds with
        | nil => intro ws es us r r'; cases r; exact r'
        | cons d ds ih => intro ws es us r r'; cases r with | @cons _ v _ vs r t => exact ih vs (d :: es) (v :: us) t (.cons r r')
      exact gen ds ws [] [] r .nil
    cases d with
    | lst ds =>
      obtain ⟨p, ws, rfl, hH, r1⟩ := rb.lst s1.sub
      refine ⟨p, ws, rfl, .inl ⟨SqL.of hH, fun q hq => ?_⟩⟩
      obtain ⟨w', fp', x', s', r'⟩ := s1.fin (.inl (.lst hq (rr r1)))
      exact h w' _ fp' x' s' _ r'
    | tup ds =>
      obtain ⟨p, ws, rfl, _, hH, r1⟩ := rb.tup s1.sub
      refine ⟨p, ws, rfl, .inr ⟨SqT.of hH, fun q hq => ?_⟩⟩
      obtain ⟨w', fp', x', s', r'⟩ := s1.fin (.inl (.tup hq (rr r1)))
      exact h w' _ fp' x' s' _ r'
    | _ => exact h.elim
theorem snd_rev (ha : Snd e S F a) : Snd e S F (.rev a) where
  pe := fun c X W x o h => by
    simp only [chkE] at h
    unfold kRev at h
    split at h
    · exact PE.imp (pe_revA (ha.po o h)) fun σ H Q => i_rev o.K
    · cases h
  pf := fun h => by cases h
  pt := fun h => by cases h
  pwA := fun _ _ h => by cases h
  pwO := fun _ _ h => by cases h
theorem snd_gf (k : Nat) : Snd e S F (.gf k) where
  pe := fun c X W x o h => by
    simp only [chkE] at h
    unfold kGf at h
    split at h
    · simp only [Bool.and_eq_true, decide_eq_true_eq] at h
      obtain ⟨lv, fd, ps, hr, hf, hb, hm, hk, hn⟩ := o.cal k _ h.1.1
      refine PE.imp (pe_glob (v := .ref (e.fa k)) (o.gl h.1.2) (by rw [o.mg]; exact hm) rfl (name_dbg h.2)) fun σ H Q ⟨w, fp, M, s, h⟩ => ?_
      have h : Aft e W σ w H fp (.ok (.fn k, M)) fun d _ w' H' _ => ∀ v, Rp e w' d v → Q v H' := h
      exact h.now s _ (.fn k)
    · cases h
  pf := fun h => by cases h
  pt := fun h => by cases h
  pwA := fun _ _ h => by cases h
  pwO := fun _ _ h => by cases h
/-- a call of what the i-th slot holds -/
def tCallV (i : Nat) (P : Addr → Sp → Prop) (E : St → XK) (t : TA) : TE := fun σ H Q => ∃ f sp, σ[i]? = some (some (.ref f)) ∧ P f sp ∧ t σ H fun vs H1 => sp vs H1 Q (E σ)
theorem pe_callV {P : Addr → Sp → Prop} {i : Nat} {x : Str} {p pos : Pos} {y : Expr} {ys : List Expr} {t : TA} {E : St → XK} (hP : ∀ f sp, P f sp → ∃ k fd ps, Room k X.A ∧ FnOk X.prog X.w X.K X.mg X.base (L2.CX X.prog X.w) k f fd ps sp ∧ Binds X.K fd ps [] ∧ PySem.W.keepIn X.K (.ref f) = true)
    (hN : X.N[i]? = some x) (hv : Vis X.env.scope x) (hx : ∀ σ, PassesAt (L2.CX X.prog X.w) X σ (E σ)) (ha : PA X (y :: ys) t) (hdb : (x == ("__debug__" : Str)) = false) (hcd : (x == ("__classdict__" : Str)) = false)
    (he : starEach (y :: ys) X.env = (false, eval y X.env) :: starEach ys X.env) (hpl : (backTo pos (starEach ys X.env)).any (·.1) = false) : PE X (.Call (.Name x p) (y :: ys) [] pos) (tCallV i P E t) := by
  refine ⟨fun pins s σ H Q I h => ?_⟩
  obtain ⟨f, sp, hs, hp, ht⟩ := h
  obtain ⟨k, fd, ps, hr, Fo, hb, hk⟩ := hP f sp hp
  refine wpAny_Call_Name_kw (thn ((pe_var (pos := p) hN hv hdb hcd).run pins s σ H (fun v H1 => v = .ref f ∧ H1 = H) I ⟨.ref f, hs, rfl, rfl⟩) fun u s1 ⟨v, H1, I1, r1, q1⟩ => ?_)
  obtain ⟨rfl, rfl⟩ := q1
  cases r1
  refine PySem.W.callWith_K (h₀ := X.base) I.ok.mod.kin hk (thn (ha.run pos pins s1 σ _ _ I1 ht) fun us s2 ⟨vs, H2, I2, r, q⟩ => ⟨I2.kIn, ?_⟩) he hpl
  exact run_fnS Fo hr hb (hx σ) I2 r q
def PV (e : En) (S : Tx) (F : Fh) (ks : List Nat) (f : Addr) (sp : Sp) : Prop := ∃ k x np, k ∈ ks ∧ S.f[k]? = some x ∧ f = e.fa k ∧ sp = spF e F np k ∧ ∀ args ob, F.run k args ob ≠ .no → args.length = np
theorem i_calv {i : Nat} {ks : List Nat} {es : Exs} (o : Ok e S F c X W) (hks : ks.all (fun k => decide (k < S.f.length)) = true) {σ : St} {H : Hp} {Q : VK} (h : tE e F W (.calv i ks es) σ H Q) : tCallV i (fun f sp => ∃ k x fd ps lv, k ∈ ks ∧ S.f[k]? = some x ∧ f = e.fa k ∧ sp = spF e F ps.length k ∧ Room lv X.A ∧ FnOk e.P e.w e.K e.mg e.base (L2.CX e.P e.w) lv (e.fa k) fd ps (spF e F ps.length k) ∧ Binds e.K fd ps [] ∧ PySem.W.keepIn e.K (.ref (e.fa k)) = true) (WE W) (tOs e F W es) σ H Q := by
  obtain ⟨w, fp, M, s, h⟩ := h
  have h : Aft e W σ w H fp (xCalv F i ks (evOs F es) M) fun d _ w' H' _ => ∀ v, Rp e w' d v → Q v H' := h
  unfold xCalv at h
  split at h
  · rename_i k hsl
    split at h
    · rename_i hk
      have hk : k ∈ ks := by simpa using hk
      have hlt : k < S.f.length := by simpa using List.all_eq_true.mp hks k hk
      obtain ⟨lv, fd, ps, hr, hf, hb, hm, hkp, hn⟩ := o.cal k _ (List.getElem?_eq_getElem hlt)
      obtain ⟨v, hv⟩ := s.var hsl (by rintro ⟨⟩)
      have rv := s.dr (o := .sl i) (v := v) (d := .fn k) (by show (match M.sl[i]? with | some (.va d) => some d | some (.ow d) => some d | _ => none) = _; rw [hsl]) hv
      have hvk : v = .ref (e.fa k) := by
        rcases rv with r | r
        · cases r; rfl
        · cases r
      subst hvk
      refine ⟨e.fa k, spF e F ps.length k, hv, ⟨k, _, fd, ps, lv, hk, List.getElem?_eq_getElem hlt, rfl, rfl, hr, hf, hb, hkp⟩, ?_⟩
      exact i_call (k := k) hn ⟨w, fp, M, s, h⟩
    · exact h.elim
  · exact h.elim
theorem s_calv (o : Ok e S F c X W) {i : Nat} {ks : List Nat} {es : Exs} {x : Expr} (h : chkE S (.calv i ks es) c x = true) (hs : Snds e S F es) : PE X x (tE e F W (.calv i ks es)) := by
  simp only [chkE] at h
  unfold kCalv at h
  split at h
  · rename_i x p y ys pos
    simp only [Bool.and_eq_true, decide_eq_true_eq] at h
    obtain ⟨⟨⟨⟨h1, h2⟩, h3⟩, h4⟩, h5⟩ := h
    have ht := hs.po c X W _ o h5
    have hp : plainE y = true := by
      cases es <;> simp only [chkEs] at h5
      · simp [kNil] at h5
      · simp only [kCons, Bool.and_eq_true] at h5; exact h5.1.1
    have hbk : (backTo pos (starEach ys X.env)).any (·.1) = false := by
      have z := back_star (pos := pos) (env := X.env) h5
      rw [star_of hp] at z
      have z : (false || (backTo pos (starEach ys X.env)).any (·.1)) = false := z
      simpa using z
    refine PE.imp (pe_callV (E := WE W) (t := tOs e F W es) ?_ (by rw [o.N]; exact h1) (by rw [o.sc]; exact vis_of h2) (fun σ => passAt o.tk σ) ht (name_dbg h3) (name_cd h3) (star_of hp) hbk) fun σ H Q => i_calv o h4
    rintro f sp ⟨k, x', fd, ps, lv, a1, a2, rfl, rfl, a3, a4, a5, a6⟩
    rw [← o.P, ← o.w, ← o.K, ← o.mg, ← o.base] at a4
    exact ⟨lv, fd, ps, a3, a4, by rw [o.K]; exact a5, by rw [o.K]; exact a6⟩
  · cases h
theorem snd_calv (i : Nat) (ks : List Nat) (hs : Snds e S F es) : Snd e S F (.calv i ks es) where
  pe := fun c X W x o h => s_calv o h hs
  pf := fun h => by cases h
  pt := fun _ c X W x o h => pt_of (s_calv o h hs) (by
    simp only [chkE] at h
    unfold kCalv at h
    split at h
    · rfl
    · cases h)
  pwA := fun _ _ h => by cases h
  pwO := fun _ _ h => by cases h
theorem tyS_in : ∀ t, tyS t ∈ bnames
  | .int | .bool | .str | .tuple | .list => by simp [tyS, bnames]
theorem tyS_boot : ∀ t, bootBuiltins (tyS t) = some (.type (tyN t))
  | .int | .bool | .str | .tuple | .list => by decide +kernel
theorem tyS_ne : ∀ t, tyS t ≠ "__name__" ∧ (tyS t == ("__debug__" : Str)) = false
  | .int | .bool | .str | .tuple | .list => by decide +kernel
theorem isi_ne : ("isinstance" : Str) ≠ "__name__" ∧ (("isinstance" : Str) == ("__debug__" : Str)) = false := by decide +kernel
theorem s_isi (o : Ok e S F c X W) {t : Ty} {x z : Str} {p p2 pos : Pos} {y : Expr} (h1 : glN c x "isinstance" = true) (h2 : glN c z (tyS t) = true) (h3 : plainE y = true) (h4 : chkE S a c y = true) (ha : Snd e S F a) :
    PE X (.Call (.Name x p) [y, .Name z p2] [] pos) (tE e F W (.isi t a)) := by
  obtain ⟨rfl, hg⟩ := o.gln h1
  obtain ⟨rfl, hg2⟩ := o.gln h2
  have pt : PE X (.Name (tyS t) p2) (tC (.ty (tyN t))) := pe_bltn hg2 (o.none (tyS_in t)) (tyS_boot t) rfl (tyS_ne t).1 (tyS_ne t).2
  refine PE.imp (pe_callB (f_isi (e := e) o.K t) hg (o.none (by simp [bnames])) (by decide +kernel) (pa_cons (ha.po (W := W) o h4) (pa_cons pt pa_nil) (star_of h3)) isi_ne.1 isi_ne.2 (star_of h3)) fun σ H Q => i_isi
theorem snd_isi (t : Ty) (ha : Snd e S F a) : Snd e S F (.isi t a) where
  pe := fun c X W x o h => by
    simp only [chkE] at h
    unfold kIsi at h
    split at h
    · simp only [Bool.and_eq_true] at h
      exact s_isi o h.1.1.1 h.1.1.2 h.1.2 h.2 ha
    · cases h
  pf := fun h => by cases h
  pt := fun _ c X W x o h => by
    simp only [chkE] at h
    unfold kIsi at h
    split at h
    · simp only [Bool.and_eq_true] at h
      exact pt_of (s_isi o h.1.1.1 h.1.1.2 h.1.2 h.2 ha) rfl
    · cases h
  pwA := fun _ _ h => by cases h
  pwO := fun _ _ h => by cases h
/-- something walked -/
structure SndI (e : En) (S : Tx) (F : Fh) (it : It) : Prop where
  pi : ∀ c X W t x, Ok e S F c X W → chkI S it c t x = true → PI X t x (tIt e F W it)
  fs : ∀ c t x, chkI S it c t x = true → ∀ env v, foldedSetIterable x env v = pure v
theorem fold_of {x : Expr} (h : plainE x = true) : ∀ env v, foldedSetIterable x env v = pure v := by
  cases x <;> first | exact fun _ _ => rfl | cases h
theorem sndi_seq (ha : Snd e S F a) : SndI e S F (.seq a) where
  pi := fun c X W t x o h => by
    simp only [chkI, kSeq, Bool.and_eq_true] at h
    have q := ha.pe c X W x o h.2
    exact PI.imp (PI.or (pi_list q) (pi_tup q)) fun σ H R => i_seq o.K
  fs := fun c t x h => by
    simp only [chkI, kSeq, Bool.and_eq_true] at h
    exact fold_of h.1
theorem sndi_rng1 (ha : Snd e S F a) : SndI e S F (.rng1 a) where
  pi := fun c X W t x o h => by
    simp only [chkI] at h
    unfold kRng1 at h
    split at h
    · simp only [Bool.and_eq_true] at h
      obtain ⟨rfl, hg⟩ := o.gln h.1.1
      exact PI.imp (pi_range1 hg (o.none (by simp [bnames])) (pa_cons (ha.pe c X W _ o h.2) pa_nil (star_of h.1.2)) (star_of h.1.2)) fun σ H R => i_rng1
    · cases h
  fs := fun c t x h => by
    simp only [chkI] at h
    unfold kRng1 at h
    split at h
    · exact fun _ _ => rfl
    · cases h
theorem sndi_rng2 (ha : Snd e S F a) (hb : Snd e S F b) : SndI e S F (.rng2 a b) where
  pi := fun c X W t x o h => by
    simp only [chkI] at h
    unfold kRng2 at h
    split at h
    · simp only [Bool.and_eq_true] at h
      obtain ⟨rfl, hg⟩ := o.gln h.1.1.1.1
      have s1 := h.1.1.1.2
      have s2 := h.1.1.2
      refine PI.imp (pi_range2 hg (o.none (by simp [bnames])) (pa_cons (ha.pe c X W _ o h.1.2) (pa_cons (hb.pe c X W _ o h.2) pa_nil (star_of s2)) (star_of s1)) ?_ (star_of s2)) fun σ H R => i_rng2
      rw [star_of s1, star_of s2]; rfl
    · cases h
  fs := fun c t x h => by
    simp only [chkI] at h
    unfold kRng2 at h
    split at h
    · exact fun _ _ => rfl
    · cases h
theorem sndi_zip (ha : Snd e S F a) (hb : Snd e S F b) : SndI e S F (.zip a b) where
  pi := fun c X W t x o h => by
    simp only [chkI] at h
    unfold kZip at h
    split at h
    · simp only [Bool.and_eq_true] at h
      obtain ⟨rfl, hg⟩ := o.gln h.1.1.1.1
      have s1 := h.1.1.1.2
      have s2 := h.1.1.2
      refine PI.imp (pi_zipS hg (o.none (by simp [bnames])) (pa_cons (ha.pe c X W _ o h.1.2) (pa_cons (hb.pe c X W _ o h.2) pa_nil (star_of s2)) (star_of s1)) (star_of s1) ?_) fun σ H R => i_zip
      rw [star_of s2]; rfl
    · cases h
  fs := fun c t x h => by
    simp only [chkI] at h
    unfold kZip at h
    split at h
    · exact fun _ _ => rfl
    · cases h
theorem sndi_enu (ha : Snd e S F a) : SndI e S F (.enu a) where
  pi := fun c X W t x o h => by
    simp only [chkI] at h
    unfold kEnu at h
    split at h
    · simp only [Bool.and_eq_true] at h
      obtain ⟨rfl, hg⟩ := o.gln h.1.1
      exact PI.imp (PI.or (pi_enum hg (o.none (by simp [bnames])) (pa_cons (ha.pe c X W _ o h.2) pa_nil (star_of h.1.2)) (star_of h.1.2)) (pi_enumT hg (o.none (by simp [bnames])) (pa_cons (ha.pe c X W _ o h.2) pa_nil (star_of h.1.2)) (star_of h.1.2))) fun σ H R => i_enu o.K
    · cases h
  fs := fun c t x h => by
    simp only [chkI] at h
    unfold kEnu at h
    split at h
    · exact fun _ _ => rfl
    · cases h
theorem own_map (N : List Str) (own : List Nat) : (ownN N own).map (·.2) = own := by
  unfold ownN
  rw [List.map_map]
  exact List.map_id' own
theorem all_in {own is : List Nat} (h : is.all own.contains = true) : ∀ i ∈ is, i ∈ own := fun i hi => by
  have := (List.all_eq_true.mp h) i hi
  simpa using this
/-- a comprehension, its list owned -/
theorem s_comp {tg : Tg} {own : List Nat} {x : Ex} {cd : Ex} (hx : Snd e S F x) (hi : SndI e S F it) (hd : Snd e S F cd) (o : Ok e S F c X W) {y : Expr} (h : chkE S (.comp x tg it cd own) c y = true) :
    ∃ tt, CondR e F cd tt ∧ (∀ i ∈ tgs tg, i ∈ own) ∧ PE X y (tLc (tIt e F W it) (tG e tg) tt (tE e F W0 x) own) := by
  simp only [chkE] at h
  unfold kComp at h
  split at h
  · simp only [Bool.and_eq_true] at h
    obtain ⟨⟨⟨⟨⟨h1, h2⟩, h3⟩, h4⟩, h5⟩, h6⟩ := h
    have hom : cd = .om := by cases cd <;> first | rfl | cases h6
    subst hom
    refine ⟨tYes, cond_yes, all_in h4, ?_⟩
    suffices q : PE X _ (tLc (tIt e F W it) (tG e tg) tYes (tE e F W0 x) ((ownN c.N own).map (·.2))) by
      rw [own_map] at q
      exact q
    exact pe_lc (own := ownN c.N own) o.calm (by rw [o.N]; exact o.nd) (hi.pi c X W _ _ o h2) (by rw [o.N, o.sc]; exact blkOk_by h1) (fun s H C cl fp => s_tg (o.blk s H _ C cl fp) h3) (fun s H C cl fp => pts_nil) (fun s H C cl fp => hx.pe _ _ _ _ (o.blk s H _ C cl fp) h5) (hi.fs c _ _ h2 _)
  · simp only [Bool.and_eq_true, Bool.not_eq_true'] at h
    obtain ⟨⟨⟨⟨⟨⟨h1, h2⟩, h3⟩, h4⟩, h5⟩, h6⟩, h7, h8⟩ := h
    refine ⟨tT e F W0 cd, cond_of h6, all_in h4, ?_⟩
    suffices q : PE X _ (tLc (tIt e F W it) (tG e tg) (tT e F W0 cd) (tE e F W0 x) ((ownN c.N own).map (·.2))) by
      rw [own_map] at q
      exact q
    exact pe_lc (own := ownN c.N own) o.calm (by rw [o.N]; exact o.nd) (hi.pi c X W _ _ o h2) (by rw [o.N, o.sc]; exact blkOk_by h1) (fun s H C cl fp => s_tg (o.blk s H _ C cl fp) h3) (fun s H C cl fp => pts_one (hd.pt h7 _ _ _ _ (o.blk s H _ C cl fp) h8)) (fun s H C cl fp => hx.pe _ _ _ _ (o.blk s H _ C cl fp) h5) (hi.fs c _ _ h2 _)
  · cases h
theorem snd_comp {tg : Tg} {own : List Nat} {x : Ex} {cd : Ex} (hx : Snd e S F x) (hi : SndI e S F it) (hd : Snd e S F cd) : Snd e S F (.comp x tg it cd own) where
  pe := fun c X W y o h => by
    obtain ⟨tt, h1, h2, q⟩ := s_comp hx hi hd o h
    exact PE.imp q fun σ H Q z => o_comp h1 h2 (tE_F z)
  pf := fun _ _ c X W y o h => by
    obtain ⟨tt, h1, h2, q⟩ := s_comp hx hi hd o h
    exact PE.imp q fun σ H Q z => o_comp h1 h2 z
  pt := fun h => by cases h
  pwA := fun _ _ h => by cases h
  pwO := fun _ _ h => by cases h
theorem s_comp2 {tg tg2 : Tg} {own : List Nat} {x : Ex} (hx : Snd e S F x) (hi : SndI e S F it) (hi2 : SndI e S F it2) (o : Ok e S F c X W) {y : Expr} (h : chkE S (.comp2 x tg it tg2 it2 own) c y = true) :
    (∀ i ∈ tgs tg, i ∈ own) ∧ (∀ i ∈ tgs tg2, i ∈ own) ∧ PE X y (tLc2 (tIt e F W it) (tG e tg) tYes (tIt e F W0 it2) (tG e tg2) tYes (tE e F W0 x) own (tgs tg2)) := by
  simp only [chkE] at h
  unfold kComp2 at h
  split at h
  · simp only [Bool.and_eq_true] at h
    obtain ⟨⟨⟨⟨⟨⟨⟨h1, h2⟩, h3⟩, h4⟩, h4'⟩, h5⟩, h6⟩, h7⟩ := h
    refine ⟨all_in h4, all_in h4', ?_⟩
    suffices q : PE X _ (tLc2 (tIt e F W it) (tG e tg) tYes (tIt e F W0 it2) (tG e tg2) tYes (tE e F W0 x) ((ownN c.N own).map (·.2)) (tgs tg2)) by
      rw [own_map] at q
      exact q
    exact pe_lc2 (own := ownN c.N own) (vs1 := tgs tg2) o.calm (by rw [o.N]; exact o.nd) (hi.pi c X W _ _ o h2) (by rw [o.N, o.sc]; exact blkOk_by h1) (by rw [own_map]; exact all_in h4') (fun s H C cl fp => s_tg (o.blk s H _ C cl fp) h3) (fun s H C cl fp => pts_nil)
      (fun s H C cl fp => hi2.pi _ _ _ _ _ (o.blk s H _ C cl fp) h5) (fun s H C cl fp => s_tg (o.blk s H _ C cl fp) h6) (fun s H C cl fp => pts_nil) (fun s H C cl fp => hx.pe _ _ _ _ (o.blk s H _ C cl fp) h7) (hi.fs c _ _ h2 _) (hi2.fs _ _ _ h5)
  · cases h
theorem snd_comp2 {tg tg2 : Tg} {own : List Nat} {x : Ex} (hx : Snd e S F x) (hi : SndI e S F it) (hi2 : SndI e S F it2) : Snd e S F (.comp2 x tg it tg2 it2 own) where
  pe := fun c X W y o h => by
    obtain ⟨h1, h2, q⟩ := s_comp2 hx hi hi2 o h
    exact PE.imp q fun σ H Q z => o_comp2 h1 h2 (tE_F z)
  pf := fun _ _ c X W y o h => by
    obtain ⟨h1, h2, q⟩ := s_comp2 hx hi hi2 o h
    exact PE.imp q fun σ H Q z => o_comp2 h1 h2 z
  pt := fun h => by cases h
  pwA := fun _ _ h => by cases h
  pwO := fun _ _ h => by cases h
end
theorem noPar_of {ps : Arguments} (h : noPar ps = true) : ps = ⟨[], [], none, [], [], none, []⟩ := by
  unfold noPar at h
  split at h
  · rfl
  · cases h
theorem Ok.lamC (o : Ok e S F c X W) {lv : Nat} (hlow : ∀ (k : Nat) (x : Str), S.f[k]? = some x → ∃ fd ps, FnOk e.P e.w e.K e.mg e.base (L2.CX e.P e.w) lv (e.fa k) fd ps (spF e F.low ps.length k) ∧ Binds e.K fd ps [] ∧ e.mg x = some (.ref (e.fa k)) ∧ PySem.W.keepIn e.K (.ref (e.fa k)) = true ∧ ∀ args ob, F.low.run k args ob ≠ .no → args.length = ps.length)
    {A : Around} {outer : List PySem.Env} {s : Shared} {H : Hp} {E : XK} {f c' : Addr} {sc : Scope} (hr : Room lv (A.deeper (LamX.lamEnv X sc s.heap.objs.size f c'))) : Ok e S F.low ⟨c.N, sc, fun _ => false, false⟩ (LamX.lamCx X A outer s H E sc f c') (fun cls d _ H => E cls d H) := by
  refine ⟨o.P, o.w, o.K, o.mg, o.base, o.N, rfl, o.nd, rfl, (fun x h => by cases h), ?_, takes_of rfl rfl rfl rfl, o.bn, o.gi, o.ex, fun k x hx => ?_, (fun h => by cases h), o.wrd, (fun h => by cases h)⟩
  · have := hr.un
    show (A.deeper (LamX.lamEnv X sc s.heap.objs.size f c')).units + 65 < cLine
    omega
  · obtain ⟨fd, ps, a1, a2, a3, a4, a5⟩ := hlow k x hx
    exact ⟨lv, fd, ps, hr, a1, a2, a3, a4, a5⟩
/-- the state behind what leaves all but the tables -/
theorem SR.extN {w : Wd} {H H1 : Hp} {fp : Addr → Prop} {m : Ms} {σ : St} (s : SR e w H fp m σ) (x : LamX.ExtN H H1) (t : LamX.Tabs e.T H1) : SR e w H1 fp m σ ∧ Xt w H fp w H1 fp := by
  have big : ∀ a o, H a = some o → Big o → H1 a = some o := fun a o h b => x a o h fun ps z => by
    subst z
    exact Big.tbl b
  obtain ⟨fs, fo, h1, h2, h3, h4⟩ := s.parts
  refine ⟨⟨fun a o q => x a o (s.sub a o q) fun ps z => ?_, s.dis, t, fs, fo, h1.mono (.refl w) fun a ha o q => ?_, h2.mono (.refl w) fun a ha o q => ?_, h3, h4⟩, ⟨.refl w, fun a o h _ n => x a o h n, fun _ h => .inl h, fun _ _ h => .inl h⟩⟩
  · subst z; exact w.nt a ps q
  · obtain ⟨o', q1, q2⟩ := h1.there a ha
    rw [q] at q1; cases q1
    exact big a o q q2
  · obtain ⟨o', q1, q2⟩ := h2.there a ha
    rw [q] at q1; cases q1
    exact big a o q q2
theorem i_word {k : Nat} {wd : Wdf} {b : Ex} {σ : St} {H : Hp} {Q : VK} (hF : F.deep = true) (h : tE e F W (.word k wd b) σ H Q) : LamX.tLam e.T (TTw e wd) (fun E => tE e F.low (fun cls d _ H => E cls d H) b) σ H Q := by
  obtain ⟨w, fp, M, s, h⟩ := h
  refine ⟨s.tab, fun H1 x t => ?_⟩
  obtain ⟨s1, x1⟩ := s.extN x t
  refine ⟨w, fp, M, s1, ?_⟩
  have h := h.step x1
  simp only [evE, xWord, hF, if_true] at h
  revert h
  cases evE F.low b M with
  | no => exact id
  | ok p =>
    intro h w' H' fp' x' s' v r
    have h := h w' H' fp' x' s'
    unfold wdV
    revert h
    cases wd.w0 with
    | some w0 => exact fun h => h _ (.str w0)
    | none => exact fun h => h _ r
  | ex ev m =>
    intro h w' H' fp' cls xd x' s' r
    unfold wordR at h
    simp only at h
    cases hw : wordOf wd ev with
    | none => rw [hw] at h; exact h.elim
    | some w0 =>
      rw [hw] at h
      exact ⟨w', ev, w0, s'.sub, r, hw, h w' H' fp' x' s' _ (.str w0)⟩
theorem snd_word (k : Nat) (wd : Wdf) {b : Ex} (hb : ∀ {e : En} {S : Tx} {F : Fh}, Snd e S F b) : Snd e S F (.word k wd b) where
  pe := fun c X W x o h => by
    by_cases hF : F.deep = true
    · simp only [chkE] at h
      unfold kWord at h
      split at h
      · simp only [Bool.and_eq_true, decide_eq_true_eq] at h
        obtain ⟨⟨⟨⟨⟨⟨h1, h2⟩, h3⟩, h4⟩, h5⟩, h6⟩, h7⟩ := h
        obtain ⟨g, pg, bg, sg, dV, kV, doc, pm, cdv, ct, oc, an, od, osl, Ng, a, a1, a2, a3, a4, a5, a6, a7, a8, a9, a10⟩ := (o.wrd _ _ _ h2).ex
        obtain ⟨cc, P, b1, b2, b3, b4⟩ := o.lam h1
        obtain ⟨lv, hr, hlow⟩ := o.low h1 hF
        have hp := noPar_of h5
        subst hp
        refine PE.imp (LamX.pe_lamcall (T := e.T) (TT := TTw e wd) (t := fun E => tE e F.low (fun cls d _ H => E cls d H) b) (g := g) (c := cc) (P := P) (k := lv) (a := a) (Ng := Ng) (o.gl h3) (by rw [o.mg]; exact a1) (by rw [o.K]; exact a2) (by rw [o.K]; exact a3) (by rw [o.K]; exact a4) (by rw [o.K]; exact a5) a6 a7 a8
          (a10 X _ o.P o.w o.K o.mg o.base) (by rw [o.base, o.mg]; exact b2) b1 b3 b4 hr (by rw [o.sc]; exact LamX.lamS_by h6) rfl (fun q cl pm cv ctv => rfl)
          (fun A outer s H E f c' hr2 => hb.pe _ _ _ _ (o.lamC hlow hr2) h7) (name_dbg h4) (name_dbg a9) (name_cd a9)) fun σ H Q => i_word hF
      · cases h
    · refine PE.imp (t := fun _ _ _ => False) ⟨fun _ _ _ _ _ _ q => q.elim⟩ fun σ H Q ⟨w, fp, M, s, h⟩ => ?_
      simp only [evE, xWord, hF] at h
      exact h
  pf := fun h => by cases h
  pt := fun h => by cases h
  pwA := fun _ _ h => by cases h
  pwO := fun _ _ h => by cases h
theorem snd_bad : Snd e S F .bad where
  pe := fun c X W x o h => ⟨fun pins s σ H Q I q => by
    obtain ⟨w, fp, M, _, h⟩ := q
    have h : False := h
    exact h.elim⟩
  pf := fun h => by cases h
  pt := fun h => by cases h
  pwA := fun _ _ h => by cases h
  pwO := fun _ _ h => by cases h
theorem snd_dct0 : Snd e S F .dct0 where
  pe := fun c X W x o h => by
    simp only [chkE] at h
    unfold kDct0 at h
    split at h
    · exact PE.imp pe_newK fun σ H Q h => o_dct0 o.P o.w (tE_F h)
    · cases h
  pf := fun _ _ c X W x o h => by
    simp only [chkE] at h
    unfold kDct0 at h
    split at h
    · exact PE.imp pe_newK fun σ H Q h => o_dct0 o.P o.w h
    · cases h
  pt := fun h => by cases h
  pwA := fun _ _ h => by cases h
  pwO := fun _ _ h => by cases h
theorem snd_dct1 {a b : Ex} (ha : Snd e S F a) (hb : Snd e S F b) : Snd e S F (.dct1 a b) where
  pe := fun c X W x o h => by
    simp only [chkE] at h
    unfold kDct1 at h
    split at h
    · simp only [Bool.and_eq_true] at h
      exact PE.imp (pe_disp1 o.un (ha.pe c X W _ o h.1.2) (hb.pe c X W _ o h.2)) fun σ H Q h => o_dct1 o.P o.w (tE_F h)
    · cases h
  pf := fun _ _ c X W x o h => by
    simp only [chkE] at h
    unfold kDct1 at h
    split at h
    · simp only [Bool.and_eq_true] at h
      exact PE.imp (pe_disp1 o.un (ha.pe c X W _ o h.1.2) (hb.pe c X W _ o h.2)) fun σ H Q h => o_dct1 o.P o.w h
    · cases h
  pt := fun h => by cases h
  pwA := fun _ _ h => by cases h
  pwO := fun _ _ h => by cases h
mutual
theorem sndE {e : En} {S : Tx} {F : Fh} : ∀ m : Ex, Snd e S F m
  | .nm i => snd_nm i
  | .ct d => snd_ct d
  | .gl k i => snd_gl k i
  | .om => snd_no fun c x => by simp only [chkE]
  | .bin _ a b => snd_bin (sndE a) (sndE b)
  | .neg a => snd_neg (sndE a)
  | .cmp _ a b => snd_cmp (sndE a) (sndE b)
  | .cmp2 _ _ a b d => snd_cmp2 (sndE a) (sndE b) (sndE d)
  | .band a b => snd_band (sndE a) (sndE b)
  | .bor a b => snd_bor (sndE a) (sndE b)
  | .bnot a => snd_bnot (sndE a)
  | .ite t a b => snd_ite (sndE t) (sndE a) (sndE b)
  | .tup es => snd_tup (sndEs es)
  | .lst es => snd_lst (sndEs es)
  | .idx a i => snd_idx (sndE a) (sndE i)
  | .slc a lo hi => snd_slc (sndE a) (sndE lo) (sndE hi)
  | .call k es => snd_call k (sndEs es)
  | .bi f es => snd_bi f (sndEs es)
  | .isi t a => snd_isi t (sndE a)
  | .comp x tg it cd own => snd_comp (sndE x) (sndI it) (sndE cd)
  | .comp2 x tg it tg2 it2 own => snd_comp2 (sndE x) (sndI it) (sndI it2)
  | .word k wd b => snd_word k wd (sndE b)
  | .rev a => snd_rev (sndE a)
  | .gf k => snd_gf k
  | .calv i ks es => snd_calv i ks (sndEs es)
  | .bad => snd_bad
  | .dct0 => snd_dct0
  | .dct1 a b => snd_dct1 (sndE a) (sndE b)
theorem sndEs {e : En} {S : Tx} {F : Fh} : ∀ ms : Exs, Snds e S F ms
  | .nil => snds_nil
  | .cons a r => snds_cons (sndE a) (sndEs r)
theorem sndI {e : En} {S : Tx} {F : Fh} : ∀ it : It, SndI e S F it
  | .seq a => sndi_seq (sndE a)
  | .rng1 a => sndi_rng1 (sndE a)
  | .rng2 a b => sndi_rng2 (sndE a) (sndE b)
  | .zip a b => sndi_zip (sndE a) (sndE b)
  | .enu a => sndi_enu (sndE a)
end
end Mi
/-! Part X: try with several clauses «except C as e». -/
namespace Mi
open PySem PySem.Spec PyProof.Rows L2
abbrev Clause := Value × Nat × (Addr → Value → Option Addr → TS)
/-- the ends of a suite: its name goes -/
def endsAs (D : Ends) (i : Nat) : Ends := { nx := fun q G => D.nx (q.set i none) G, rt := D.rt, bk := fun q G => D.bk (q.set i none) G, ct := fun q G => D.ct (q.set i none) G }
def wCl (K : PySem.W.Frag) (Wo : WX) (D : Ends) : List Clause → WX
  | [] => Wo
  | (c, i, ts) :: r => fun k d q G => ∃ b, PySem.W.exmOne K k c = some b ∧ (b = true → ∀ a, G a = none → ts a k d (endsAs D i) (q.set i (some (.ref a))) G) ∧ (b = false → wCl K Wo D r k d q G)
inductive ClOk (X : Cx) : List ExceptHandler → List Clause → Prop
  | nil : ClOk X [] []
  | cons {x n : Str} {c : Value} {i : Nat} {ts : Addr → Value → Option Addr → TS} {b0 : Stmt} {su : List Stmt} {p1 p2 : Pos} {hds : List ExceptHandler} {l : List Clause} (hc : Names X x c) (hi : X.N[i]? = some n) (hl : X.env.kindOf n = some .local)
      (hsu : ∀ (a : Addr) (oe : Obj) (k : Value) (d : Option Addr) (pn : List (Addr × Obj)), Zc k d oe → (∃ vs, oe.data = .fields vs) → PSs (X.suite a ((a, oe) :: pn)) (b0 :: su) (ts a k d)) (r : ClOk X hds l) :
      ClOk X (.ExceptHandler (some (.Name x p1)) (some n) (b0 :: su) p2 :: hds) ((c, i, ts) :: l)
theorem ps_tryA {X : Cx} {body : List Stmt} {g0 : ExceptHandler} {gs : List ExceptHandler} {l : List Clause} {pos : Pos} {tb : WX → TS} {Wo : WX} (hs : X.stack = X.env :: X.outer) (hf : X.env.frame = some X.env.locals) (hN : X.N.Nodup) (tk : Takes X Wo)
    (hb : ∀ (V : WX) (pn : List (Addr × Obj)) (xe : Value → Shared → Prop), Takes (X.tr pn xe) V → PassesOwn (model X.prog X.w) X.A X.env xe → PSs (X.tr pn xe) body (tb V))
    (hh : ClOk X (g0 :: gs) l) : PS X (.Try body (g0 :: gs) [] [] pos) (fun D q G => tb (wCl X.K Wo D l) D q G) := by
  refine ⟨fun pins s q0 G0 D I h => ?_⟩
  have ok := I.ok
  have hfr : X.A.frames = some (X.env :: X.outer) := (ok.frames).trans (by rw [hs])
  refine wpAny_Try_except ?_
  refine wpAny_mono ((hb (wCl X.K Wo D l) (X.pn ++ pins) (fun u t1 => wpAny (model X.prog X.w) X.A (noteFrame u X.env) (fun _ t2 => wpAny (model X.prog X.w) X.A (setFlight u none) (fun _ t3 =>
    wpAny (model X.prog X.w) X.A (handleBy u X.env (g0 :: gs)) (SP X pins D) X.xe t3) X.xe t2) X.xe t1) (fun u t xx => ?_) PassesOwn.looking).run [] s q0 G0 D (I.toTry _) h) (fun f t hsp => ?_) (fun u t z => z)
  · obtain ⟨a, B, sI, pi', q1, G1, k, d, rfl, J0, nb, up, sky, na, os, ag, w⟩ := xx
    have J : Inv X pins q1 G1 sI := J0.ofTry ok
    have sk : Sky B (X.env :: X.outer) a (Zc k d) X.env.locals t.heap := (by rw [← hs]; exact sky)
    show wpAny (model X.prog X.w) X.A (noteFrame (.ref a) X.env) _ _ _
    refine Sky.land Zc.steady hfr hf sk fun h3 fl3 up3 => ?_
    have J3 : Inv X pins q1 G1 { t with heap := h3 } := J.landed nb fl3.1 (up.trans up3) os ag
    obtain ⟨o3, v3, e3, z3, d3⟩ := fl3.there
    have nfr : a ∉ frs (X.env :: X.outer) := fun hm => by
      obtain ⟨_, o', e', hnf⟩ := fl3.2.2.1.mem hm
      rw [e3] at e'
      cases e'
      exact hnf _ d3
    have nL : a ≠ X.env.locals := fun z => nfr (List.mem_filterMap.mpr ⟨X.env, List.mem_cons_self, (by rw [hf, z])⟩)
    have nF : a ∉ X.fs := fun hm => by
      obtain ⟨v, hv, z⟩ := List.mem_filterMap.mp hm
      exact nfr (List.mem_filterMap.mpr ⟨v, List.mem_cons_of_mem _ hv, z⟩)
    have S3 := J3.suite e3 d3 na nL nF
    have go : ∀ {hd2 : List ExceptHandler} {l2 : List Clause}, ClOk X hd2 l2 → wCl X.K Wo D l2 k d q1 G1 → wpAny (model X.prog X.w) X.A (handleBy (.ref a) X.env hd2) (SP X pins D) X.xe { t with heap := h3 } := by
      intro hd2 l2 hk
      induction hk with
      | nil =>
        intro w
        refine wpAny_handleBy_nil ?_
        obtain ⟨_, _, _, oe, vs, T, oT, ts', he, hz, hd, h1, hr⟩ := id fl3
        unfold PySem.passOn
        refine wpAny_bind (wpAny_field he hd h1 ?_)
        rw [if_neg (show ¬ ((Value.ref T == Value.none) = true) by simp)]
        have fin : wpAny (model X.prog X.w) X.A (setFlight (.ref a) X.env.frame) (fun _ t4 => wpAny (model X.prog X.w) X.A (throw (.ref a) : Sem Flow) (SP X pins D) X.xe t4) X.xe { t with heap := h3 } := by
          rw [hf]
          refine HandSPX.setFlight_upZ fl3 fun h4 hh4 up4 => wpAny_throw (tk _ _ ⟨a, B, sI, pins, q1, G1, k, d, rfl, J, nb, (up.trans up3).trans up4, .inr (.inr (by rw [hs]; exact hh4)), na, os, ag, w⟩)
        first
          | exact wpAny_bind fin
          | exact wpAny_bind (wpAny_pure (wpAny_bind fin))
      | @cons x n c i ts b0 su p1 p2 hds l3 hc hi hl hsu r ih =>
        intro w
        obtain ⟨b, hb1, hyes, hno⟩ := w
        refine wpAny_handleBy_cons (codeAny_handlers_test ?_) (by intro z; cases z)
        have LT : PySem.W.Looks (model X.prog X.w) h3 (typeOf (.ref a)) k := fun A Q E s kk z => wpAny_typeOf_ref (kk _ _ e3) (by rw [z3.1]; exact z)
        have LM := PySem.W.exm_one (M := model X.prog X.w) J3.kIn LT hb1
        have test : ∀ {Q : Value → Shared → Prop} {E : Value → Shared → Prop}, Q c { t with heap := h3 } → wpAny (model X.prog X.w) (X.A.mark (some (.ref a))) (eval (.Name x p1) X.env) Q E { t with heap := h3 } := fun {Q E} z => by
          obtain ⟨hg, hdb, hm | ⟨hm, hv, hnn⟩⟩ := hc
          · exact ld_glob (X := X.suite a ((a, o3) :: (X.pn ++ pins))) S3 hg hm z hdb
          · exact ld_blt (X := X.suite a ((a, o3) :: (X.pn ++ pins))) S3 hg hm hv z hnn hdb
        refine test (LM.here ?_)
        cases b with
        | false => exact ih (hno rfl)
        | true =>
          refine codeAny_handlers_suite_as ?_
          refine HandSPX.lands_againZ fl3 fun h4 fl4 up4 => ?_
          have J4 : Inv X pins q1 G1 { t with heap := h4 } := J.landed nb fl4.1 ((up.trans up3).trans up4) os ag
          obtain ⟨o4, v4, e4, z4, d4⟩ := fl4.there
          have S4 := J4.suite e4 d4 na nL nF
          refine store_ok (X := X.suite a ((a, o4) :: (X.pn ++ pins))) (v := .ref a) S4 hN hi (.inl hl) rfl (fun s5 S5 => ?_) (.inr hl)
          refine wpAny_mono ((hsu a o4 k d (X.pn ++ pins) z4 ⟨_, d4⟩).run [] s5 _ G1 _ S5 (hyes rfl a na)) (fun f s6 hsp => ?_) (fun _ _ z => z.elim)
          have bye : ∀ {q6 : L2.St} {G6 : Hp} {Q : Shared → Prop}, Inv (X.suite a ((a, o4) :: (X.pn ++ pins))) [] q6 G6 s6 → (∀ s7, Inv X pins (q6.set i none) G6 s7 → Q s7) →
              wpAny (model X.prog X.w) X.A (do bindName X.env n .none; unbindBehindTheSuite X.env n p2) (fun _ s7 => Q s7) X.xe s6 := fun {q6 G6 Q} S6 hq => gone_ok (S6.unsuite ok) hN hi hl hq
          cases f with
          | next =>
            obtain ⟨_, _, S6, z6⟩ := hsp
            exact bye S6 fun s7 J7 => ⟨_, _, J7, z6⟩
          | brk =>
            obtain ⟨_, _, S6, z6⟩ := hsp
            exact bye S6 fun s7 J7 => ⟨_, _, J7, z6⟩
          | cont =>
            obtain ⟨_, _, S6, z6⟩ := hsp
            exact bye S6 fun s7 J7 => ⟨_, _, J7, z6⟩
          | ret u =>
            obtain ⟨_, _, _, S6, r6, z6⟩ := hsp
            exact bye S6 fun s7 J7 => ⟨_, _, _, J7, r6, z6⟩
    exact go hh w
  · cases f with
    | next =>
      obtain ⟨_, _, J', z⟩ := hsp
      exact wpAny_execs_nil ⟨_, _, J'.ofTry ok, z⟩
    | brk =>
      obtain ⟨_, _, J', z⟩ := hsp
      exact ⟨_, _, J'.ofTry ok, z⟩
    | cont =>
      obtain ⟨_, _, J', z⟩ := hsp
      exact ⟨_, _, J'.ofTry ok, z⟩
    | ret u =>
      obtain ⟨_, _, _, J', r, z⟩ := hsp
      exact ⟨_, _, _, J'.ofTry ok, r, z⟩
end Mi
/-! Part X1: isinstance of a caught error that bears a dict of its own. -/
namespace Mi
open PySem PySem.W PySem.Spec PySem.Calls PyProof.Rows L2
section
variable {prog : Program} {w : World} {A : Around} {E : Value → Shared → Prop} {K : Frag} {x D : Addr} {ox od : Obj}
theorem kin_cls2 {s : Shared} {Q : Option Value → Shared → Prop} (C : ExcC K D) (X : K.In s.heap) (I : InstAt s.heap x ox D (some od)) (h : Q (some (.ref D)) { s with toks := s.toks + 1 }) : wpAny (model prog w) A (getAttr? (.ref x) "__class__") Q E s := by
  have hf : findObj K D (some od) "__class__" = some (.bind (.builtin "getset_descriptor.__get__") (.builtin "object.__class__")) := by
    obtain ⟨cd, hc⟩ := Option.isSome_iff_exists.mp (show (clsIn K D).isSome = true by obtain ⟨cd, hc, _⟩ := any_some C.hd; rw [hc]; rfl)
    unfold findObj; rw [hc, Option.bind_some, C.ha, Option.bind_some]
    simp [C.hn, C.ht]
  obtain ⟨hp, g, d, t, os⟩ := s
  have M0 := I.type (M := model prog w)
  have M3 := looks_find (M := model prog w) X I hf
  have sb : Looks (model prog w) hp (isInstance (.ref x) (.type "BaseException")) true := M0.andThen (looks_subIn X C.hs)
  have e2 : (Value.builtin "BaseException.__getattribute__" == Value.builtin "object.__getattribute__") = false := by decide +kernel
  have e1 : (onTheHeap (Value.ref D) && Value.builtin "BaseException.__getattribute__" == Value.builtin "object.__getattribute__") = false := by rw [e2] <;> rfl
  unfold getAttr? getAttrBy? getAttrBy
  refine wpAny_bind (wpAny_mkText (wpAny_bind (wpAny_attempt (wpAny_holding (wpAny_bind (M0.at (wpAny_bind ((looks_findIn (M := model prog w) X C.hg).at ?_))))))))
  show wpAny _ _ (if (onTheHeap (Value.ref D) && Value.builtin "BaseException.__getattribute__" == .builtin "object.__getattribute__") = true then _ else _) _ _ _
  rw [e1, if_neg (by decide)]; unfold getAttrByItsOwn hookBefore
  refine wpAny_bind ?_; rw [if_pos (show onTheHeap (Value.ref D) = true from rfl)]
  refine (looks_findIn (M := model prog w) X C.hk).at (wpAny_bind (wpAny_attempt (wpAny_holding ?_)))
  unfold callGetattribute; rw [show (false && onTheHeap (Value.builtin "BaseException.__getattribute__")) = false from rfl, if_neg (by decide)]
  unfold boundAndCalled; rw [PySem.F.excAttr_ValueError.ga.bind (.ref x)]
  refine wpAny_bind (wpAny_pure (?_ : wpAny _ _ (call (.builtin "BaseException.__getattribute__") [.ref x, .str "__class__" t]) _ _ _))
  refine wpAny_call (codeAny_call_builtin PySem.F.excAttr_ValueError.ga.plain PySem.F.entry_bexc_ga (@check_slot (model prog w) _ _ ⟨hp, g, d, t + 1, os⟩ "BaseException.__getattribute__" "BaseException" "__getattribute__" (.ref x) [.str "__class__" t] [] _ (by decide +kernel) (by decide +kernel) sb (PySem.F.args_bexc_ga (.ref x) (.str "__class__" t)) ?_))
  unfold Builtin.«object.__getattribute__»
  refine wpAny_bind (wpAny_of_eq (a := ((Value.ref x : Value), [Value.str "__class__" t])) (by first | rfl | (simp only [slotArgs] <;> rfl)) (wpAny_bind (wpAny_pure (wpAny_bind (M0.at (wpAny_bind (M3.at ?_)))))))
  show wpAny _ _ (holding [Value.builtin "object.__class__"] (call (.builtin "getset_descriptor.__get__") [.builtin "object.__class__", .ref x, .ref D]) >>= (ret ·)) _ _ _
  refine wpAny_bind (wpAny_holding (wpAny_call (class_get (s := ⟨hp, g, d, t + 1, os⟩) (ox := ox) (od := some od) X I C.hm (wpAny_pure (?_ : wpAny _ _ (handedOut (.ref D)) _ _ _)))))
  rw [handedOut_of (v := .ref D) rfl]
  first | exact wpAny_pure (wpAny_pure h) | exact wpAny_pure h | exact wpAny_pure (wpAny_bind (wpAny_pure (wpAny_pure h)))
theorem kitx2 (C : ExcC K D) : KitX K (.ref x) (.ref D) (fun h => InstAt h x ox D (some od)) := by
  have z := handS_kitx_exc (x := x) (ox := ox) C.hg C.hk C.hs C.hd C.ha C.hn C.ht C.hm
  have it : ∀ (M : Model) (h : Heap), K.In h → InstAt h x ox D (some od) → Looks M h (isType (.ref D)) true := fun M h X I => by
    obtain ⟨cdD, hcD, _⟩ := any_some C.hd
    unfold clsIn at hcD
    split at hcD
    · rename_i c' d' cd' sl' ho
      intro A' Q' E' s' k q
      unfold isType loadHead
      exact wpAny_bind (wpAny_loadPart (k _ _ (X _ _ ho)) (wpAny_pure q))
    · cases hcD
  exact ⟨fun _ _ _ I => I.type, it, z.ne, fun X I k => kin_cls2 C X I k⟩
end
/-- isinstance(e, c), e the exception that the suite holds, with a dict of its own -/
def rIsE2 (K : Frag) (D a dd : Addr) : List V → Hp → VK → Prop := fun xs H Q => ∃ (c : V) (cv : Value) (b : Bool) (fs : List (Str × V)), xs = [.ref a, c] ∧ (∀ u, RelV c u → u = cv) ∧ kitOne K (.ref D) cv = some b ∧ H dd = some (.xd fs) ∧ Q (.bl b) H
theorem call_isE2 {X : Cx} {a D dd : Addr} {oe : Obj} {pn : List (Addr × Obj)} (C : ExcC X.K D) (hz : Zc (.ref D) (some dd) oe) (hf : ∃ vs, oe.data = .fields vs) : CallR (X.suite a ((a, oe) :: pn)) (.builtin "isinstance") (rIsE2 X.K D a dd) := by
  intro pins s σ H xs us Q I r h
  obtain ⟨c, cv, b, fs, rfl, hcv, e, hd, q⟩ := h
  obtain ⟨mA, hns, _⟩ : ObjOk X.prog X.w H s.heap dd (.xd fs) := I.hok dd _ hd
  obtain ⟨od, ho, _⟩ := lookIn_ns hns
  cases r with
  | cons rx rr =>
  cases rr with
  | cons rt rr =>
  cases rr
  cases rx
  have ec := hcv _ rt
  subst ec
  obtain ⟨hget, _⟩ := I.pin (a, oe) (List.mem_append.mpr (.inl List.mem_cons_self))
  obtain ⟨vs, hv⟩ := hf
  have J : InstAt s.heap a oe D (some od) := ⟨hget, hz.1, by unfold notCls; rw [hv] <;> rfl, by rw [hz.2]; exact ho⟩
  exact kia_one (kitx2 C) I.kIn J e (fun z => nomatch z) fun tk => ⟨.bl b, H, I.kept (t' := tk) fun _ _ z => z, rfl, q⟩
end Mi
/-! Part X2: the defs that tell an exception by a word. -/
namespace Mi
open PySem PySem.Spec PyProof.Rows L2
/-- what is known of an own class for isinstance(e, W) -/
structure WordC (K : PySem.W.Frag) (D we : Addr) : Prop where
  c : ExcC K D
  k : PySem.W.kitOne K (.ref D) (.ref we) = some true
/-- return w if isinstance(e, W) else w2 -/
theorem suite_word {X : Cx} {a we : Addr} {oe : Obj} {k : Value} {d : Option Addr} {pn : List (Addr × Obj)} {i : Nat} {n wn w w2 : Str} {p1 p2 p3 p4 p5 p6 p7 p8 : Pos} {j1 j2 : Nat}
    (hi : X.N[i]? = some n) (hn : X.env.scope.names.lookup n = some .local) (nd : nameB n = true) (gI : X.env.scope.names.lookup ("isinstance" : Str) = some .globalImplicit) (mI : X.mg "isinstance" = none)
    (gW : X.env.scope.names.lookup wn = some .globalImplicit) (mW : X.mg wn = some (.ref we)) (wd : nameB wn = true) (hz : Zc k d oe) (hf : ∃ vs, oe.data = .fields vs) :
    PSs (X.suite a ((a, oe) :: pn)) [.Return (some (.IfExp (.Call (.Name "isinstance" p1) [.Name n p2, .Name wn p3] [] p4) (.Constant (.str w) j1 p5) (.Constant (.str w2) j2 p6) p7)) p8]
      (fun D q G => ∃ D0, k = .ref D0 ∧ d = none ∧ WordC X.K D0 we ∧ (∃ q0 : L2.St, q = q0.set i (some (.ref a))) ∧ D.rt (.str w) G) := by
  refine ⟨fun pins s q G D I h => ?_⟩
  obtain ⟨D0, rfl, rfl, wc, ⟨q0, rfl⟩, hD⟩ := h
  have hq : (q0.set i (some (V.ref a)))[i]? = some (some (.ref a)) := by
    have h1 : (q0.set i (some (V.ref a))).length = X.N.length := I.len
    have h2 := (List.getElem?_eq_some_iff.mp hi).1
    rw [List.length_set] at h1
    exact List.getElem?_set_self (by omega)
  have pI := pe_callB (X := X.suite a ((a, oe) :: pn)) (p := p1) (pos := p4) (call_isE wc.c hz hf) gI mI (by decide +kernel) (pa_cons (pe_var (X := X.suite a ((a, oe) :: pn)) (pos := p2) hi (.inl hn) (name_dbg nd) (name_cd nd)) (pa_cons (pe_glob (X := X.suite a ((a, oe) :: pn)) (pos := p3) gW mW (v := .ref we) rfl (name_dbg wd)) pa_nil)) isi_ne.1 isi_ne.2
  refine (pss_one (ps_ret (pos := p8) (pe_ifExp (pos := p7) (pt_val pI) (pe_str (j := j1) (pos := p5)) (pe_str (j := j2) (pos := p6))))).run pins s _ G D I ?_
  refine ⟨.ref a, hq, ?_⟩
  exact ⟨.ref we, .ref we, true, rfl, fun u r => r, wc.k, true, rfl, hD⟩
/-- what the name that holds the exception reads -/
theorem exc_slot {X : Cx} {pins : List (Addr × Obj)} {q0 : L2.St} {G : Hp} {s : Shared} {i : Nat} {n : Str} {a : Addr} (I : Inv X pins (q0.set i (some (.ref a))) G s) (hi : X.N[i]? = some n) : (q0.set i (some (V.ref a)))[i]? = some (some (.ref a)) := by
  have h1 : (q0.set i (some (V.ref a))).length = X.N.length := I.len
  have h2 := (List.getElem?_eq_some_iff.mp hi).1
  rw [List.length_set] at h1
  exact List.getElem?_set_self (by omega)
/-- what is known of a class whose instances bear a limit -/
structure LimC (K : PySem.W.Frag) (D we : Addr) : Prop extends WordC K D we where
  no : PySem.W.findIn K (.ref D) "limit" = some none
theorem LimC.xf {K : PySem.W.Frag} {D we : Addr} (h : LimC K D we) : XfC K D := ⟨h.c.hg, h.c.hk, h.c.hs, h.c.hd⟩
/-- return w if isinstance(e, W) and e.limit == m else w2 -/
theorem suite_lim {X : Cx} {a we D0 : Addr} {oe : Obj} {k : Value} {d : Option Addr} {pn : List (Addr × Obj)} {i : Nat} {n wn w w2 : Str} {m : Int} {p1 p2 p3 p4 p5 p6 p7 p8 p9 p10 p11 p12 p13 : Pos} {j1 j2 j3 : Nat}
    (hi : X.N[i]? = some n) (hn : X.env.scope.names.lookup n = some .local) (nd : nameB n = true) (gI : X.env.scope.names.lookup ("isinstance" : Str) = some .globalImplicit) (mI : X.mg "isinstance" = none)
    (gW : X.env.scope.names.lookup wn = some .globalImplicit) (mW : X.mg wn = some (.ref we)) (wd : nameB wn = true) (lc : LimC X.K D0 we) (hz : Zc k d oe) (hf : ∃ vs, oe.data = .fields vs) :
    PSs (X.suite a ((a, oe) :: pn)) [.Return (some (.IfExp (.BoolOp .And [.Call (.Name "isinstance" p1) [.Name n p2, .Name wn p3] [] p4, .Compare (.Attribute (.Name n p9) "limit" p10) [.Eq] [.Constant (.int m) j3 p11] p12] p13) (.Constant (.str w) j1 p5) (.Constant (.str w2) j2 p6) p7)) p8]
      (fun D q G => ∃ dd i0, k = .ref D0 ∧ d = some dd ∧ G dd = some (.xd [(("limit" : Str), .int i0)]) ∧ (∃ q0 : L2.St, q = q0.set i (some (.ref a))) ∧ D.rt (.str (if i0 = m then w else w2)) G) := by
  refine ⟨fun pins s q G D I h => ?_⟩
  obtain ⟨dd, i0, rfl, rfl, hd, ⟨q0, rfl⟩, hD⟩ := h
  have hq := exc_slot I hi
  have pI := pe_callB (X := X.suite a ((a, oe) :: pn)) (p := p1) (pos := p4) (call_isE2 lc.c hz hf) gI mI (by decide +kernel) (pa_cons (pe_var (X := X.suite a ((a, oe) :: pn)) (pos := p2) hi (.inl hn) (name_dbg nd) (name_cd nd)) (pa_cons (pe_glob (X := X.suite a ((a, oe) :: pn)) (pos := p3) gW mW (v := .ref we) rfl (name_dbg wd)) pa_nil)) isi_ne.1 isi_ne.2
  have pF := pe_xf (X := X) (pn := pn) (n := "limit") (pos := p10) lc.xf lc.no hz hf (pe_var (X := X.suite a ((a, oe) :: pn)) (pos := p9) hi (.inl hn) (name_dbg nd) (name_cd nd))
  have pC := pt_cmpR (pos := p12) op_eq pF (pe_int (i := m) (j := j3) (pos := p11)) rfl
  refine (pss_one (ps_ret (pos := p8) (pe_ifExp (pos := p7) (pw_and (pos := p13) (pt_val pI) (pw_and1 pC)).pt (pe_str (j := j1) (pos := p5)) (pe_str (j := j2) (pos := p6))))).run pins s _ G D I ?_
  refine ⟨.ref a, hq, .ref we, .ref we, true, _, rfl, fun u r => r, lc.k, hd, true, rfl, ?_⟩
  refine ⟨.ref a, hq, rfl, rfl, dd, _, .int i0, rfl, hd, by simp, rfl, decide (V.int i0 = .int m), rfl, ?_⟩
  by_cases z : i0 = m
  · subst z
    simp only [if_true] at hD
    rw [show decide (V.int i0 = V.int i0) = true by simp]
    exact hD
  · rw [show decide (V.int i0 = V.int m) = false by simpa using z]
    rw [if_neg z] at hD
    exact hD
/-- return p + str(e.limit) if isinstance(e, W) else w2 -/
theorem suite_many {X : Cx} {a we D0 : Addr} {oe : Obj} {k : Value} {d : Option Addr} {pn : List (Addr × Obj)} {i : Nat} {n wn w w2 : Str} {p1 p2 p3 p4 p5 p6 p7 p8 p9 p10 p11 p12 p13 : Pos} {j1 j2 j3 : Nat}
    (hi : X.N[i]? = some n) (hn : X.env.scope.names.lookup n = some .local) (nd : nameB n = true) (gI : X.env.scope.names.lookup ("isinstance" : Str) = some .globalImplicit) (mI : X.mg "isinstance" = none)
    (gS : X.env.scope.names.lookup ("str" : Str) = some .globalImplicit) (mS : X.mg "str" = none)
    (gW : X.env.scope.names.lookup wn = some .globalImplicit) (mW : X.mg wn = some (.ref we)) (wd : nameB wn = true) (lc : LimC X.K D0 we) (hz : Zc k d oe) (hf : ∃ vs, oe.data = .fields vs) :
    PSs (X.suite a ((a, oe) :: pn)) [.Return (some (.IfExp (.Call (.Name "isinstance" p1) [.Name n p2, .Name wn p3] [] p4) (.BinOp (.Constant (.str w) j1 p5) .Add (.Call (.Name "str" p9) [.Attribute (.Name n p10) "limit" p11] [] p12) p13) (.Constant (.str w2) j2 p6) p7)) p8]
      (fun D q G => ∃ dd i0, k = .ref D0 ∧ d = some dd ∧ G dd = some (.xd [(("limit" : Str), .int i0)]) ∧ i0.natAbs.log2 < 1920 ∧ w.length + (strI i0).length ≤ sizeLine ∧ (∃ q0 : L2.St, q = q0.set i (some (.ref a))) ∧ D.rt (.str (w ++ strI i0)) G) := by
  refine ⟨fun pins s q G D I h => ?_⟩
  obtain ⟨dd, i0, rfl, rfl, hd, hl, hw, ⟨q0, rfl⟩, hD⟩ := h
  have hq := exc_slot I hi
  have pI := pe_callB (X := X.suite a ((a, oe) :: pn)) (p := p1) (pos := p4) (call_isE2 lc.c hz hf) gI mI (by decide +kernel) (pa_cons (pe_var (X := X.suite a ((a, oe) :: pn)) (pos := p2) hi (.inl hn) (name_dbg nd) (name_cd nd)) (pa_cons (pe_glob (X := X.suite a ((a, oe) :: pn)) (pos := p3) gW mW (v := .ref we) rfl (name_dbg wd)) pa_nil)) isi_ne.1 isi_ne.2
  have pF := pe_xf (X := X) (pn := pn) (n := "limit") (pos := p11) lc.xf lc.no hz hf (pe_var (X := X.suite a ((a, oe) :: pn)) (pos := p10) hi (.inl hn) (name_dbg nd) (name_cd nd))
  have pS := pe_callTy (X := X.suite a ((a, oe) :: pn)) (p := p9) (pos := p12) call_str_int gS mS (by decide +kernel) (pa_cons pF pa_nil) (by decide +kernel) (by decide +kernel)
  have pB := pe_op (pos := p13) op_add_str (pe_str (x := w) (j := j1) (pos := p5)) pS
  refine (pss_one (ps_ret (pos := p8) (pe_ifExp (pos := p7) (pt_val pI) pB (pe_str (j := j2) (pos := p6))))).run pins s _ G D I ?_
  refine ⟨.ref a, hq, .ref we, .ref we, true, _, rfl, fun u r => r, lc.k, hd, true, rfl, ?_⟩
  exact ⟨.ref a, hq, rfl, rfl, dd, _, .int i0, rfl, hd, by simp, i0, rfl, hl, w, strI i0, rfl, rfl, hw, hD⟩
end Mi
/-! Part X3: word defs, their texts. -/
namespace Mi
open PySem PySem.Spec PyProof.Rows L2
def kSuite (en wn : Str) : Wo → List Stmt → Bool
  | .isa w, [.Return (some (.IfExp (.Call (.Name f _) [.Name n2 _, .Name c' _] [] _) (.Constant (.str u) _ _) (.Constant (.str _) _ _) _)) _] => decide (f = "isinstance") && decide (n2 = en) && decide (c' = wn) && decide (u = w)
  | .lim m w, [.Return (some (.IfExp (.BoolOp .And [.Call (.Name f _) [.Name n2 _, .Name c' _] [] _, .Compare (.Attribute (.Name n3 _) g _) [.Eq] [.Constant (.int m') _ _] _] _) (.Constant (.str u) _ _) (.Constant (.str v) _ _) _)) _] =>
    decide (f = "isinstance") && decide (n2 = en) && decide (c' = wn) && decide (u = w) && decide (n3 = en) && decide (g = "limit") && decide (m' = m) && decide (v = "else")
  | .many w, [.Return (some (.IfExp (.Call (.Name f _) [.Name n2 _, .Name c' _] [] _) (.BinOp (.Constant (.str u) _ _) .Add (.Call (.Name g _) [.Attribute (.Name n3 _) h _] [] _) _) (.Constant (.str _) _ _) _)) _] =>
    decide (f = "isinstance") && decide (n2 = en) && decide (c' = wn) && decide (u = w) && decide (g = "str") && decide (n3 = en) && decide (h = "limit")
  | _, _ => false
def isaO : Wo → Bool
  | .isa _ => true
  | _ => false
def kClause (S : Tx) (en wn : Str) (c : Nat) (o : Wo) : ExceptHandler → Bool
  | .ExceptHandler (some (.Name z _)) (some n) su _ => decide (S.c[c]? = some z) && nameB z && decide (n = en) && kSuite en wn o su && (isaO o || S.lm.contains c)
  | _ => false
def kClauses (S : Tx) (en wn : Str) : List (Nat × Wo) → List ExceptHandler → Bool
  | [], [] => true
  | (c, o) :: r, h :: hs => kClause S en wn c o h && kClauses S en wn r hs
  | _, _ => false
def suiteT (e : En) (we : Addr) (i : Nat) (c : Nat) (o : Wo) (a : Addr) (k : Value) (d : Option Addr) : TS := fun D q G => ∃ w ev s, (∀ a o, w.I a = some o → G a = some o) ∧ ExR e w ev k d ∧ ev.c = c ∧ woR o ev.fs = some s ∧ (∃ q0 : L2.St, q = q0.set i (some (.ref a))) ∧ D.rt (.str s) G
def clausesOf (e : En) (we : Addr) (i : Nat) (cl : List (Nat × Wo)) : List Clause := cl.map fun p => (.ref (e.ca p.1), i, suiteT e we i p.1 p.2)
/-- what is known of the classes -/
structure ExcF (e : En) (S : Tx) (wn : Str) (we : Addr) : Prop where
  m : e.mg wn = some (.ref we)
  ex : ∀ (c : Nat) (x : Str), S.c[c]? = some x → e.mg x = some (.ref (e.ca c)) ∧ WordC e.K (e.ca c) we
  exm : ∀ (c j : Nat), c < S.c.length → j < S.c.length → PySem.W.exmOne e.K (.ref (e.ca c)) (.ref (e.ca j)) = some (decide (c = j))
  lim : ∀ c, c ∈ S.lm → LimC e.K (e.ca c) we
variable {e : En} {S : Tx}
theorem pss_imp {X : Cx} {x : List Stmt} {t t' : TS} (h : PSs X x t) (i : ∀ D σ H, t' D σ H → t D σ H) : PSs X x t' := ⟨fun pins s σ H D I q => h.run pins s σ H D I (i D σ H q)⟩
theorem mem_lk {α : Type} {c : Nat} {o : α} : ∀ {l : List (Nat × α)}, l.lookup c = some o → (c, o) ∈ l
  | [], h => by simp at h
  | (a, b) :: l, h => by
    rw [List.lookup_cons] at h
    split at h
    · rename_i q
      have q : c = a := by simpa using q
      subst q; cases h; exact List.mem_cons_self
    · exact List.mem_cons_of_mem _ (mem_lk h)
theorem wCl_of {wn : Str} {we : Addr} {i : Nat} {D : Ends} (f : ExcF e S wn we) : ∀ {cl : List (Nat × Wo)} {w : Wd} {ev : Ev} {k : Value} {d : Option Addr} {q : L2.St} {G : Hp} {o : Wo} {s : Str}, (∀ p ∈ cl, p.1 < S.c.length) → (∀ a o, w.I a = some o → G a = some o) → ExR e w ev k d → cl.lookup ev.c = some o → woR o ev.fs = some s → D.rt (.str s) G → wCl e.K (fun _ _ _ _ => False) D (clausesOf e we i cl) k d q G
  | [], _, _, _, _, _, _, _, _, _, _, _, h, _, _ => by simp at h
  | (c, o') :: r, w, ev, k, d, q, G, o, s, hc, sub, x, h, hs, hq => by
    have hl : ev.c < S.c.length := hc (ev.c, o) (mem_lk h)
    have hk : k = .ref (e.ca ev.c) := by cases x <;> rfl
    refine ⟨decide (ev.c = c), by rw [hk]; exact f.exm _ _ hl (hc _ List.mem_cons_self), fun hb a _ => ?_, fun hb => ?_⟩
    · have hb := of_decide_eq_true hb
      rw [List.lookup_cons, hb] at h
      simp only [beq_self_eq_true, Option.some.injEq] at h
      subst h
      exact ⟨w, ev, s, sub, x, hb, hs, ⟨q, rfl⟩, hq⟩
    · have hb := of_decide_eq_false hb
      rw [List.lookup_cons] at h
      have : (ev.c == c) = false := by simpa using hb
      rw [this] at h
      exact wCl_of f (fun p hp => hc p (List.mem_cons_of_mem _ hp)) sub x h hs hq
/-- the context of a suite -/
structure SuC (e : En) (S : Tx) (X : Cx) (i : Nat) (en wn : Str) (we : Addr) : Prop where
  f : ExcF e S wn we
  K : X.K = e.K
  mg : X.mg = e.mg
  hi : X.N[i]? = some en
  hn : X.env.scope.names.lookup en = some .local
  nd : nameB en = true
  gI : X.env.scope.names.lookup ("isinstance" : Str) = some .globalImplicit
  mI : X.mg "isinstance" = none
  mS : X.mg "str" = none
  gW : X.env.scope.names.lookup wn = some .globalImplicit
  wd : nameB wn = true
theorem su_ok {X : Cx} {i : Nat} {en wn : Str} {we a : Addr} {oe : Obj} {k : Value} {d : Option Addr} {pn : List (Addr × Obj)} {c : Nat} {o : Wo} {su : List Stmt} (s : SuC e S X i en wn we) (gS : isaO o = false → X.env.scope.names.lookup ("str" : Str) = some .globalImplicit) (hs : kSuite en wn o su = true) (hc : c < S.c.length) (hl : (isaO o || S.lm.contains c) = true) (hz : Zc k d oe) (hf : ∃ vs, oe.data = .fields vs) :
    PSs (X.suite a ((a, oe) :: pn)) su (suiteT e we i c o a k d) := by
  have mW : X.mg wn = some (.ref we) := by rw [s.mg]; exact s.f.m
  have limc : isaO o = false → LimC X.K (e.ca c) we := fun h => by
    rw [h] at hl
    rw [s.K]
    exact s.f.lim c (by simpa using hl)
  unfold kSuite at hs
  split at hs
  · simp only [Bool.and_eq_true, decide_eq_true_eq] at hs
    obtain ⟨⟨⟨rfl, rfl⟩, rfl⟩, rfl⟩ := hs
    refine pss_imp (suite_word (X := X) (a := a) (oe := oe) (k := k) (d := d) (pn := pn) s.hi s.hn s.nd s.gI s.mI s.gW mW s.wd hz hf) fun D σ H h => ?_
    obtain ⟨w, ev, s', sub, x, hc', hs, hq, hD⟩ := h
    cases x with
    | plain => cases hs; cases hc'; exact ⟨_, rfl, rfl, by rw [s.K]; exact (s.f.ex _ _ (List.getElem?_eq_getElem hc)).2, hq, hD⟩
    | lim _ _ => cases hs
  · simp only [Bool.and_eq_true, decide_eq_true_eq] at hs
    obtain ⟨⟨⟨⟨⟨⟨⟨rfl, rfl⟩, rfl⟩, rfl⟩, rfl⟩, rfl⟩, rfl⟩, rfl⟩ := hs
    refine pss_imp (suite_lim (X := X) (a := a) (oe := oe) (k := k) (d := d) (pn := pn) s.hi s.hn s.nd s.gI s.mI s.gW mW s.wd (limc rfl) hz hf) fun D σ H h => ?_
    obtain ⟨w, ev, s', sub, x, hc', hs, hq, hD⟩ := h
    cases x with
    | plain => cases hs
    | lim hw r =>
      cases r with
      | int j => cases hs; cases hc'; exact ⟨_, _, rfl, rfl, sub _ _ hw, hq, hD⟩
      | _ => cases hs
  · simp only [Bool.and_eq_true, decide_eq_true_eq] at hs
    obtain ⟨⟨⟨⟨⟨⟨rfl, rfl⟩, rfl⟩, rfl⟩, rfl⟩, rfl⟩, rfl⟩ := hs
    refine pss_imp (suite_many (j3 := 0) (X := X) (a := a) (oe := oe) (k := k) (d := d) (pn := pn) s.hi s.hn s.nd s.gI s.mI (gS rfl) s.mS s.gW mW s.wd (limc rfl) hz hf) fun D σ H h => ?_
    obtain ⟨w, ev, s', sub, x, hc', hs, hq, hD⟩ := h
    cases x with
    | plain => cases hs
    | lim hw r =>
      cases r with
      | int j =>
        cases hc'
        unfold woR at hs
        simp only at hs
        split at hs
        · rename_i hh
          cases hs
          exact ⟨_, _, rfl, rfl, sub _ _ hw, hh.1, hh.2, hq, hD⟩
        · cases hs
      | _ => cases hs
  · cases hs
theorem cl_ok {X : Cx} {i : Nat} {en wn : Str} {we : Addr} (s : SuC e S X i en wn we) : ∀ {cl : List (Nat × Wo)} {hds : List ExceptHandler}, (∀ p ∈ cl, isaO p.2 = false → X.env.scope.names.lookup ("str" : Str) = some .globalImplicit) → (∀ p ∈ cl, ∀ z, S.c[p.1]? = some z → X.env.scope.names.lookup z = some .globalImplicit) → kClauses S en wn cl hds = true → ClOk X hds (clausesOf e we i cl)
  | [], [], _, _, _ => .nil
  | [], _ :: _, _, _, h => by simp [kClauses] at h
  | _ :: _, [], _, _, h => by simp [kClauses] at h
  | (c, o) :: cl, hd :: hds, hS, hg, h => by
    simp only [kClauses, Bool.and_eq_true] at h
    obtain ⟨h1, h2⟩ := h
    have r := cl_ok (hds := hds) s (fun p hp => hS p (List.mem_cons_of_mem _ hp)) (fun p hp => hg p (List.mem_cons_of_mem _ hp)) h2
    unfold kClause at h1
    split at h1
    · rename_i z _ n su _
      simp only [Bool.and_eq_true, decide_eq_true_eq] at h1
      obtain ⟨⟨⟨⟨a1, a2⟩, rfl⟩, a4⟩, a5⟩ := h1
      have hc : c < S.c.length := (List.getElem?_eq_some_iff.mp a1).1
      have ne : ∃ b0 su', su = b0 :: su' := by
        unfold kSuite at a4
        split at a4 <;> first | exact ⟨_, _, rfl⟩ | cases a4
      obtain ⟨b0, su', rfl⟩ := ne
      exact .cons ⟨hg _ List.mem_cons_self _ a1, name_dbg a2, .inl (by rw [s.mg]; exact (s.f.ex c z a1).1)⟩ s.hi s.hn (fun a oe k d pn hz hf => su_ok s (hS _ List.mem_cons_self) a4 hc a5 hz hf) r
    · cases h1
/-! ### the text -/
def glbB (sc : Scope) (x : Str) : Bool := decide (sc.names.lookup x = some .globalImplicit)
def wBody (a : Str) (wd : Wdf) : List Stmt → Option (List ExceptHandler)
  | [.Try [.Expr (.Call (.Name x _) [] [] _) _] hds [] [] _, .Return (some (.Constant (.str w) _ _)) _] => if decide (x = a) && decide (wd.w0 = some w) then some hds else none
  | [.Try [.Return (some (.Call (.Name x _) [] [] _)) _] hds [] [] _] => if decide (x = a) && decide (wd.w0 = none) then some hds else none
  | _ => none
/-- the check: a the parameter, en the name of the exceptions, wn the base class -/
def chkWord (S : Tx) (d : He.DefD) (wd : Wdf) (a en wn : Str) : Bool :=
  (match wBody a wd d.body with
  | some (h :: hs) => kClauses S en wn wd.cl (h :: hs)
  | _ => false) && decide (d.at_ = (d.name, none)) && d.dfl.isEmpty && d.kwd.isEmpty && decide (d.qual = d.name) && decide (a ≠ en) && decide (d.scope.names.lookup en = some .local) && nameB en && nameB wn && nameB a && glbB d.scope "isinstance" && (wd.cl.all (fun p => isaO p.2) || glbB d.scope "str") && glbB d.scope wn &&
  wd.cl.all (fun p => match S.c[p.1]? with
    | some z => glbB d.scope z
    | none => false) && decide (wd.all = none)
theorem word_gives {X : Cx} {Ng : List Str} {x a q en wn : Str} {sg : Scope} {g we : Addr} {cdg : Value} {i : Nat} {wd : Wdf} {h0 : ExceptHandler} {hds : List ExceptHandler} {bg : List Stmt} (nd : Ng.Nodup) (f : ExcF e S wn we) (hK : X.K = e.K) (hmg : X.mg = e.mg) (hi : Ng[i]? = some en) (hn : sg.names.lookup en = some .local) (ned : nameB en = true)
    (gI : sg.names.lookup ("isinstance" : Str) = some .globalImplicit) (mI : X.mg "isinstance" = none) (mS : X.mg "str" = none) (gS : ∀ p ∈ wd.cl, isaO p.2 = false → sg.names.lookup ("str" : Str) = some .globalImplicit) (gW : sg.names.lookup wn = some .globalImplicit) (wwd : nameB wn = true) (hb : wBody a wd bg = some (h0 :: hds)) (hk : kClauses S en wn wd.cl (h0 :: hds) = true)
    (hc : ∀ p ∈ wd.cl, ∃ z, S.c[p.1]? = some z ∧ sg.names.lookup z = some .globalImplicit) (hall : wd.all = none) (hst : ∀ f : Addr, (L2.start Ng [V.ref f])[0]? = some (some (V.ref f))) :
    LamX.GivesTo X Ng x sg g cdg bg a q (TTw e wd) := by
  intro f0 c' s G Q tl act hco h
  have sc : SuC e S ((cxOf C8.CX0 X.prog X.w X.K X.mg X.base Ng x sg g cdg X.A X.stack s G C8.E0).nox) i en wn we := ⟨f, hK, hmg, hi, hn, ned, gI, mI, mS, gW, wwd⟩
  have cl := cl_ok (cl := wd.cl) (hds := h0 :: hds) sc (fun p hp => gS p hp) (fun p hp z hz => by
    obtain ⟨z', h1, h2⟩ := hc p hp
    rw [hz] at h1; cases h1; exact h2) hk
  have clen : ∀ p ∈ wd.cl, p.1 < S.c.length := fun p hp => by
    obtain ⟨z', h1, h2⟩ := hc p hp
    exact (List.getElem?_eq_some_iff.mp h1).1
  have land : ∀ {D : Ends} {k : Value} {d : Option Addr} {q1 : L2.St} {G1 : Hp}, (∀ w G', Q (.str w) G' → D.rt (.str w) G') → wordX e wd (fun w G' => Q (.str w) G') k d G1 → wCl e.K (fun _ _ _ _ => False) D (clausesOf e we i wd.cl) k d q1 G1 := fun {D k d q1 G1} hD ⟨w, ev, s, sub, x, hw, hq⟩ => by
    unfold wordOf at hw
    cases hl : wd.cl.lookup ev.c with
    | none => rw [hl, hall] at hw; cases hw
    | some o => rw [hl] at hw; exact wCl_of f clen sub x hl hw (hD _ _ hq)
  unfold wBody at hb
  split at hb
  · split at hb
    · rename_i hcond
      simp only [Bool.and_eq_true, decide_eq_true_eq] at hcond
      obtain ⟨rfl, hw0⟩ := hcond
      cases hb
      refine ⟨_, pss_cons (ps_tryA (X := (cxOf C8.CX0 X.prog X.w X.K X.mg X.base Ng x sg g cdg X.A X.stack s G C8.E0).nox) (Wo := fun _ _ _ _ => False)
          (tb := fun V D q0 G0 => ∃ Ech : XK, (∀ k d q1 G1, Ech k d G1 → V k d q1 G1) ∧ q0[0]? = some (some (.ref f0)) ∧ G0 c' = some (LamX.CodeO c' q) ∧ tl Ech G0 fun _ G1 => D.nx q0 G1)
          rfl rfl nd LamX.takes0 (fun V pn xe tk _ => ?_) cl) (pss_one (ps_ret pe_str)), ?_⟩
      · refine ⟨fun pins s' q0 G0 D I hh => ?_⟩
        obtain ⟨Ech, hV, h1, h2, h3⟩ := hh
        exact (pss_one (ps_expr (act V pn xe Ech _ _ tk hV))).run pins s' q0 G0 D I ⟨h1, h2, h3⟩
      · refine ⟨wordX e wd fun w G' => Q (.str w) G', fun k d q1 G1 hw => ?_, hst f0, hco, ?_⟩
        · show wCl X.K _ _ _ _ _ _ _
          rw [hK]
          exact land (fun _ _ h => h) hw
        · unfold TTw wdV at h
          rw [hw0] at h
          exact h
    · cases hb
  · split at hb
    · rename_i hcond
      simp only [Bool.and_eq_true, decide_eq_true_eq] at hcond
      obtain ⟨rfl, hw0⟩ := hcond
      cases hb
      refine ⟨_, pss_one (ps_tryA (X := (cxOf C8.CX0 X.prog X.w X.K X.mg X.base Ng x sg g cdg X.A X.stack s G C8.E0).nox) (Wo := fun _ _ _ _ => False)
          (tb := fun V D q0 G0 => ∃ Ech : XK, (∀ k d q1 G1, Ech k d G1 → V k d q1 G1) ∧ q0[0]? = some (some (.ref f0)) ∧ G0 c' = some (LamX.CodeO c' q) ∧ tl Ech G0 D.rt)
          rfl rfl nd LamX.takes0 (fun V pn xe tk _ => ?_) cl), ?_⟩
      · refine ⟨fun pins s' q0 G0 D I hh => ?_⟩
        obtain ⟨Ech, hV, h1, h2, h3⟩ := hh
        exact (pss_one (ps_ret (act V pn xe Ech _ _ tk hV))).run pins s' q0 G0 D I ⟨h1, h2, h3⟩
      · refine ⟨wordX e wd fun w G' => Q (.str w) G', fun k d q1 G1 hw => ?_, hst f0, hco, ?_⟩
        · show wCl X.K _ _ _ _ _ _ _
          rw [hK]
          exact land (fun _ _ h => h) hw
        · unfold TTw wdV at h
          rw [hw0] at h
          exact h
    · cases hb
  · cases hb
end Mi
/-! Part F: statements: targets. -/
namespace Mi
open PySem PySem.Spec L2
open PyProof.Rows hiding St
variable {e : En} {S : Tx} {F : Fh} {c : CC} {X : Cx} {W : WX} {A : List Nat}
/-! ### indices that change nothing -/
def isC : Ex → Bool
  | .ct (.int _) => true
  | .nm _ => true
  | .idx (.nm _) k => isC k
  | .bin .add a b => isC a && isC b
  | .bin .sub a b => isC a && isC b
  | _ => false
def tQ (e : En) (m : Ex) : TE := fun σ H Q => ∃ w fp M x, SR e w H fp M σ ∧ evC m M = some x ∧ Q (.int x) H
theorem s_int {y : Int} {x : Expr} (h : kCt (.int y) x = true) : PE X x (tC (.int y)) := by
  unfold kCt at h
  split at h
  · rename_i k n pos
    cases k <;> simp only [constB, Bool.false_eq_true, decide_eq_true_eq] at h
    subst h
    exact pe_int
  · cases h
theorem s_nmV (o : Ok e S F c X W) {i : Nat} {x : Expr} (h : kNm c i x = true) : PE X x (tVar i) := by
  unfold kNm at h
  split at h
  · exact s_nm o h
  · cases h
theorem q_int {i : Int} {w : Wd} {H H' : Hp} {v : V} {Q : VK} (fin : Fin e w H (.int i) v H') (k : Q (.int i) H) : Q v H' := by
  cases fin with
  | id r _ => cases r; exact k
theorem s_calm (o : Ok e S F c X W) : ∀ {m : Ex} {x : Expr}, chkE S m c x = true → isC m = true → PE X x (tQ e m) := by
  intro m
  fun_induction isC m with
  | case1 i =>
    intro x h _
    simp only [chkE] at h
    refine PE.imp (s_int h) ?_
    rintro σ H Q ⟨w, fp, M, x, s, q, k⟩
    simp only [evC, Option.some.injEq] at q
    subst q
    exact k
  | case2 i =>
    intro x h _
    simp only [chkE] at h
    refine PE.imp (s_nmV o h) ?_
    rintro σ H Q ⟨w, fp, M, x, s, q, k⟩
    simp only [evC] at q
    split at q
    · cases q
      rename_i hs
      obtain ⟨v, w', fp', h1, h2, h3, h4⟩ := s.frz hs rfl
      cases h4
      exact ⟨_, h1, k⟩
    · cases q
  | case3 i k ih =>
    intro x h hm
    simp only [chkE] at h
    unfold kIdx at h
    split at h
    · simp only [Bool.and_eq_true] at h
      refine PE.imp (pe_ix (x_idx (e := e) o.K) (s_nmV o h.1.2) (ih h.2 hm) (ix_of h.1.1)) ?_
      rintro σ H Q ⟨w, fp, M, x, s, q, k⟩
      simp only [evC] at q
      obtain ⟨y, q0, q⟩ := Option.bind_eq_some_iff.mp q
      split at q
      · rename_i a hs
        obtain ⟨d, q1, q2⟩ := Option.bind_eq_some_iff.mp q
        obtain ⟨v, w', fp', h1, h2, h3, h4⟩ := s.frz hs rfl
        refine ⟨v, h1, w, fp, M, y, s, q0, ?_⟩
        refine ⟨w', a, _, d, h3.sub, .inl h4, .inl (.int _), q1, fun u H' fin => ?_⟩
        unfold asInt? at q2
        split at q2 <;> cases q2
        rcases fin with fin | ⟨rfl, r⟩
        · cases fin with
          | id r _ => cases r; exact k
        · cases r; exact k
      · cases q
    · cases h
  | case4 a b iha ihb =>
    intro x h hm
    simp only [chkE] at h
    unfold kBin at h
    split at h
    · simp only [Bool.and_eq_true] at h hm
      rw [isOp_of h.1.1]
      refine PE.imp (pe_op (o_bin (e := e) o.K .add) (iha h.1.2 hm.1) (ihb h.2 hm.2)) ?_
      rintro σ H Q ⟨w, fp, M, x, s, q, k⟩
      simp only [evC] at q
      obtain ⟨x1, q1, q⟩ := Option.bind_eq_some_iff.mp q
      obtain ⟨y1, q2, q⟩ := Option.bind_eq_some_iff.mp q
      cases q
      exact ⟨w, fp, M, x1, s, q1, w, fp, M, y1, s, q2, w, _, _, _, s.sub, .inl (.int _), .inl (.int _), rfl, fun u H' fin => q_int fin k⟩
    · cases h
  | case5 a b iha ihb =>
    intro x h hm
    simp only [chkE] at h
    unfold kBin at h
    split at h
    · simp only [Bool.and_eq_true] at h hm
      rw [isOp_of h.1.1]
      refine PE.imp (pe_op (o_bin (e := e) o.K .sub) (iha h.1.2 hm.1) (ihb h.2 hm.2)) ?_
      rintro σ H Q ⟨w, fp, M, x, s, q, k⟩
      simp only [evC] at q
      obtain ⟨x1, q1, q⟩ := Option.bind_eq_some_iff.mp q
      obtain ⟨y1, q2, q⟩ := Option.bind_eq_some_iff.mp q
      cases q
      exact ⟨w, fp, M, x1, s, q1, w, fp, M, y1, s, q2, w, _, _, _, s.sub, .inl (.int _), .inl (.int _), rfl, fun u H' fin => q_int fin k⟩
    · cases h
  | case6 => intro x h hm; cases hm
/-! ### targets -/
def tLv (e : En) (A : List Nat) (l : Lv) : TG := fun v σ H Q => ∃ w fp M d M', SR e w H fp M σ ∧ Rp e w d v ∧ stL l d M = some M' ∧ ∀ w' H' fp' σ', Xt w H fp w' H' fp' → SR e w' H' fp' M' σ' → Agr A σ σ' → Q σ' H'
def kLv (S : Tx) (A : List Nat) (c : CC) : Lv → Expr → Bool
  | .nm i _, .Name x _ => chkN c i x && A.contains i
  | .ix i k, .Subscript x y _ => kNm c i x && plainE y && isC k && chkE S k c y
  | .ix2 i j k, .Subscript (.Subscript x y _) z _ => kNm c i x && plainE y && isC j && chkE S j c y && plainE z && isC k && chkE S k c z
  | .kx i j, .Subscript x y _ => kNm c i x && plainE y && kNm c j y
  | _, _ => false
theorem asg_sub {o i : Expr} {pos : Pos} {env : PySem.Env} (h : plainE i = true) : ∀ v, assign (.Subscript o i pos) env v = (do
      let ov ← holding [v] (eval o env)
      let iv ← holding [v, ov] (eval i env)
      standAt pos
      holding [v, ov, iv] (setItem ov iv v)
      release [v, ov, iv] []) := by
  cases i <;> first | exact fun _ => rfl | cases h
theorem SR.dpVar {w : Wd} {H : Hp} {fp : Addr → Prop} {m : Ms} {σ : St} {i : Nat} {s : Sl} (S : SR e w H fp m σ) (h : m.sl[i]? = some s) (hn : s ≠ .un) : ∃ v, σ[i]? = some (some v) := S.var h hn
theorem s_lv (o : Ok e S F c X W) {l : Lv} {t : Expr} (h : kLv S A c l t = true) : PG X t (tLv e A l) := by
  unfold kLv at h
  split at h
  · simp only [Bool.and_eq_true, List.contains_iff_mem] at h
    refine PG.imp (s_name o h.1) ?_
    rintro v σ H Q ⟨w, fp, M, d, M', s, r, hb, q⟩
    cases hb
    exact q w H fp _ .refl (s.putV r) (.set h.2)
  · simp only [Bool.and_eq_true] at h
    refine PG.imp (pg_sub (s_nmV o h.1.1.1) (s_calm o h.2 h.1.2) set_list (asg_sub h.1.1.2)) ?_
    rintro v σ H Q ⟨w, fp, M, d, M', s, r, hb, q⟩
    simp only [stL] at hb
    split at hb
    · rename_i j ds h1 h2
      obtain ⟨ds', h3, rfl⟩ := map_some hb
      obtain ⟨u, hu⟩ := s.var h2 (by simp)
      refine ⟨u, hu, w, fp, M, j, s, h1, ?_⟩
      unfold setI at h3
      obtain ⟨n, h4, rfl⟩ := map_some h3
      obtain ⟨a, ws, rfl, hH, rs, k⟩ := s.mut (ds' := ds.set n d) h2 hu
      obtain ⟨x2, s2⟩ := k _ (rs.set r n)
      refine ⟨a, ws, j, n, rfl, rfl, hH, by rw [← rs.length]; exact h4, ?_⟩
      exact q w _ fp σ x2 s2 (.refl _ _)
    · cases hb
  · simp only [Bool.and_eq_true] at h
    refine PG.imp (pg_sub (pe_ix ix_list (s_nmV o h.1.1.1.1.1.1) (s_calm o h.1.1.1.2 h.1.1.1.1.2) (ix_of h.1.1.1.1.1.2)) (s_calm o h.2 h.1.2) set_list (asg_sub h.1.1.2)) ?_
    rintro v σ H Q ⟨w, fp, M, d, M', s, r, hb, q⟩
    simp only [stL] at hb
    split at hb
    · rename_i x y rs h1 h1' h2
      split at hb
      · rename_i hx
        simp only [Bool.and_eq_true, decide_eq_true_eq] at hx
        obtain ⟨r', h3, rfl⟩ := map_some hb
        obtain ⟨u, hu⟩ := s.var h2 (by simp)
        refine ⟨u, hu, w, fp, M, x, s, h1, ?_⟩
        unfold setI at h3
        obtain ⟨n, h4, rfl⟩ := map_some h3
        have hx2 : x.toNat < rs.length := by omega
        obtain ⟨a, ws, b, us, rfl, hH, hl, hw, hHb, rr, k⟩ := s.mut2 (j := x.toNat) (ds := rs.getD x.toNat []) (ds' := (rs.getD x.toNat []).set n d) h2 hu (by simp [List.getD_eq_getElem?_getD, hx2])
        obtain ⟨x2, s2⟩ := k _ (rr.set r n)
        refine ⟨a, ws, x, .ref b, rfl, rfl, SqL.of hH, ?_, ?_⟩
        · unfold atI ixN
          rw [if_pos hx.1, if_pos (by omega)]
          exact hw
        · refine ⟨w, fp, M, y, s, h1', ?_⟩
          refine ⟨b, us, y, n, rfl, rfl, hHb, by rw [← rr.length]; exact h4, ?_⟩
          exact q w _ fp σ x2 s2 (.refl _ _)
      · cases hb
    · cases hb
  · simp only [Bool.and_eq_true] at h
    refine PG.imp (pg_sub (s_nmV o h.1.1) (s_nmV o h.2) (set_K o.un) (asg_sub h.1.2)) ?_
    rintro v σ H Q ⟨w, fp, M, d, M', s, r, hb, q⟩
    simp only [stL] at hb
    split at hb
    · rename_i k ks vs h1 h2
      split at hb
      · rename_i hk
        simp only [Bool.and_eq_true, decide_eq_true_eq] at hk
        cases hb
        obtain ⟨u, hu⟩ := s.var h2 (by simp)
        obtain ⟨kv, w', fp', hk1, xk, sk, rk⟩ := s.frz h1 rfl
        have z : ∀ j, M.sl[j]? = some (.va k) → M.put j (.va k) = M := fun j h => by unfold Ms.put; rw [set_same h]
        rw [z _ h1] at sk
        obtain ⟨a, xs, rfl, hH, r1, r2, pr, kk⟩ := sk.mutD h2 hu
        obtain ⟨ad, n, rfl, hn, ok⟩ := Rb.keyOk sk.sub (.inl rk) hk.1
        obtain ⟨ks', vs', e1, a1, a2, a3⟩ := put_ents hn hk.1 rk (r.mono xk.le) pr r1 r2
        obtain ⟨x2, s2⟩ := kk ks' vs' _ a1 a2 a3
        have hl : xs.length < sizeLine := by
          have := r1.length
          rw [List.length_map] at this
          omega
        refine ⟨_, hu, _, hk1, ad, a, n, xs, rfl, rfl, by rw [o.P, o.w]; exact hH, ents_ok sk.sub r1 pr, ok, hl, ?_⟩
        rw [o.P, o.w]
        refine q w' _ fp' σ (xk.trans x2) ?_ (.refl _ _)
        rw [e1]
        exact s2
      · cases hb
    · cases hb
  · cases h
end Mi
/-! Part F2: statements: what holds behind them; values stored. -/
namespace Mi
open PySem PySem.Spec L2
open PyProof.Rows hiding St
variable {e : En} {S : Tx} {F : Fh} {c : CC} {X : Cx} {W : WX} {A : List Nat}
/-- what must hold for a statement's run to give what is wanted -/
def AftS (e : En) (W : WX) (A : List Nat) (σ : St) (w : Wd) (H : Hp) (fp : Addr → Prop) (o : Out) (D : Ends) : Prop := match o with
  | .nx m => ∀ w' H' fp' σ', Xt w H fp w' H' fp' → SR e w' H' fp' m σ' → Agr A σ σ' → D.nx σ' H'
  | .bk m => ∀ w' H' fp' σ', Xt w H fp w' H' fp' → SR e w' H' fp' m σ' → Agr A σ σ' → D.bk σ' H'
  | .ct m => ∀ w' H' fp' σ', Xt w H fp w' H' fp' → SR e w' H' fp' m σ' → Agr A σ σ' → D.ct σ' H'
  | .rt d own m => ∀ w' H' fp' σ' v, Xt w H fp w' H' fp' → SR e w' H' fp' ⟨resS own d :: m.sl, m.ob⟩ (some v :: σ') → Agr A σ σ' → D.rt v H'
  | .ex ev m => ∀ w' H' fp' σ' cls xd, Xt w H fp w' H' fp' → SR e w' H' fp' m σ' → Agr A σ σ' → ExR e w' ev cls xd → W cls xd σ' H'
  | .no => False
section
variable {σ σ' : St} {w w' : Wd} {H H' : Hp} {fp fp' : Addr → Prop} {D : Ends} {o : Out}
theorem AftS.step (h : AftS e W A σ w H fp o D) (x : Xt w H fp w' H' fp') (a : Agr A σ σ') : AftS e W A σ' w' H' fp' o D := by
  cases o with
  | no => exact h
  | nx m => exact fun w2 H2 fp2 σ2 y s b => h w2 H2 fp2 σ2 (x.trans y) s (a.trans b)
  | bk m => exact fun w2 H2 fp2 σ2 y s b => h w2 H2 fp2 σ2 (x.trans y) s (a.trans b)
  | ct m => exact fun w2 H2 fp2 σ2 y s b => h w2 H2 fp2 σ2 (x.trans y) s (a.trans b)
  | rt d own m => exact fun w2 H2 fp2 σ2 v y s b => h w2 H2 fp2 σ2 v (x.trans y) s (a.trans b)
  | ex ev m => exact fun w2 H2 fp2 σ2 cls xd y s b => h w2 H2 fp2 σ2 cls xd (x.trans y) s (a.trans b)
/-- a step of an expression ahead -/
theorem AftS.out {α : Type} {r : R (α × Ms)} {f : α × Ms → Out} (h : AftS e W A σ w H fp (r.out f) D) : Aft e W σ w H fp r fun a m' w' H' fp' => AftS e W A σ w' H' fp' (f (a, m')) D := by
  cases r with
  | no => exact h
  | ex ev m' => exact fun w' H' fp' cls xd x s q => h w' H' fp' σ cls xd x s (.refl _ _) q
  | ok p => exact fun w' H' fp' x s => AftS.step (o := f p) h x (.refl _ _)
theorem AftS.nxt {m : Ms} (h : AftS e W A σ w H fp (.nx m) D) (s : SR e w H fp m σ) : D.nx σ H := h w H fp σ .refl s (.refl _ _)
end
variable (e F W)
def tS (A : List Nat) (m : Sm) : TS := fun D σ H => ∃ w fp M, SR e w H fp M σ ∧ AftS e W A σ w H fp (evS F m M) D
def tSs (A : List Nat) (m : Sms) : TS := fun D σ H => ∃ w fp M, SR e w H fp M σ ∧ AftS e W A σ w H fp (evSs F m M) D
variable {e F W}
theorem PS.imp {x : Stmt} {t t' : TS} (h : PS X x t) (i : ∀ D σ H, t' D σ H → t D σ H) : PS X x t' := ⟨fun pins s σ H D I q => h.run pins s σ H D I (i D σ H q)⟩
theorem PSs.imp {x : List Stmt} {t t' : TS} (h : PSs X x t) (i : ∀ D σ H, t' D σ H → t D σ H) : PSs X x t' := ⟨fun pins s σ H D I q => h.run pins s σ H D I (i D σ H q)⟩
/-! ### values, owned or not -/
theorem tR_E {m : Ex} {σ : St} {H : Hp} {Q : VK} (h : tR e F W false m σ H Q) : tE e F W m σ H Q := by
  obtain ⟨w, fp, M, s, h⟩ := h
  have q : evR F false m M = evE F m M := rfl
  rw [q] at h
  refine ⟨w, fp, M, s, ?_⟩
  cases hr : evE F m M with
  | no => rw [hr] at h; exact h
  | ex ev m' => rw [hr] at h; exact h
  | ok p =>
    rw [hr] at h
    exact fun w' H' fp' x s' v r => h w' H' fp' v x (SR.va (ss := p.2.sl) (ob := p.2.ob) s' r)
theorem evR_fr {m : Ex} {M : Ms} (hf : isFr m = true) (hc : ∀ k es, m ≠ .call k es) : evR F true m M = evE F m M := by
  unfold evR
  rw [if_pos rfl, if_pos hf]
  cases m <;> first | rfl | exact (hc _ _ rfl).elim
theorem tR_F {m : Ex} (hf : isFr m = true) (hc : ∀ k es, m ≠ .call k es) {σ : St} {H : Hp} {Q : VK} (h : tR e F W true m σ H Q) : tF e F W m σ H Q := by
  obtain ⟨w, fp, M, s, h⟩ := h
  rw [evR_fr hf hc] at h
  exact ⟨w, fp, M, s, h⟩
theorem tR_no {m : Ex} (hf : isFr m = false) {σ : St} {H : Hp} {Q : VK} (h : tR e F W true m σ H Q) : False := by
  obtain ⟨w, fp, M, s, h⟩ := h
  have q : evR F true m M = .no := by
    unfold evR
    rw [if_pos rfl, if_neg (by rw [hf]; decide)]
  rw [q] at h
  exact h
theorem sR (o : Ok e S F c X W) {fr : Bool} {m : Ex} {x : Expr} (h : chkE S m c x = true) : PE X x (tR e F W fr m) := by
  cases fr with
  | false => exact PE.imp ((sndE m).pe c X W x o h) fun σ H Q => tR_E
  | true =>
    by_cases hf : isFr m = true
    · by_cases hc : ∃ k es, m = .call k es
      · obtain ⟨k, es, rfl⟩ := hc
        simp only [chkE] at h
        unfold kCall at h
        split at h
        · simp only [Bool.and_eq_true, decide_eq_true_eq] at h
          obtain ⟨np, hn, q⟩ := s_call o h.1.1.1 h.1.1.2 h.1.2 h.2 (sndEs es)
          exact PE.imp q fun σ H Q => o_call hn
        · cases h
      · have hc : ∀ k es, m ≠ .call k es := fun k es z => hc ⟨k, es, z⟩
        exact PE.imp ((sndE m).pf hf hc c X W x o h) fun σ H Q => tR_F hf hc
    · exact PE.imp ((sndE m).pe c X W x o h) fun σ H Q z => (tR_no (by simpa using hf) z).elim
theorem tR_mono {fr : Bool} {m : Ex} {σ : St} {H : Hp} {Q Q' : VK} (h : tR e F W fr m σ H Q) (i : ∀ v H', Q v H' → Q' v H') : tR e F W fr m σ H Q' := by
  obtain ⟨w, fp, M, s, h⟩ := h
  refine ⟨w, fp, M, s, ?_⟩
  cases hr : evR F fr m M with
  | no => rw [hr] at h; exact h
  | ex ev m' => rw [hr] at h; exact h
  | ok p => rw [hr] at h; exact fun w' H' fp' v x s' => i v H' (h w' H' fp' v x s')
/-! ### comprehensions whose store comes within -/
def compB : Expr → Bool
  | .ListComp .. | .SetComp .. | .DictComp .. => true
  | _ => false
def isComp : Ex → Bool
  | .comp .. | .comp2 .. => true
  | _ => false
theorem sw_no {x : Expr} (h : compB x = false) (t : Option Expr) (l : Nat) (env : PySem.Env) : swapsWith x t l env = pure false := by
  cases x <;> first | rfl | cases h
theorem sw_sub {x o i : Expr} {p : Pos} (l : Nat) (env : PySem.Env) : swapsWith x (some (.Subscript o i p)) l env = pure false := by
  cases x <;> rfl
theorem sw_tup {x : Expr} {ts : List Expr} {k : Nat} {p : Pos} (l : Nat) (env : PySem.Env) : swapsWith x (some (.Tuple ts k p)) l env = pure false := by
  cases x <;> rfl
theorem comp_no {m : Ex} {x : Expr} (h : chkE S m c x = true) (hm : isComp m = false) : compB x = false := by
  cases x <;> first | rfl | (cases m <;> first | (cases hm; done) | simp [chkE, kNm, kCt, kBin, kNeg, kCmp, kCmp2, kAnd, kOr, kNot, kIte, kTup, kLst, kIdx, kSlc, kGl, kWord, kCall, kIsi, kComp, kComp2, kRev, kGf, kCalv, kBad, plainE, kDct0, kDct1] at h)
def swB (gs : Scope) (vp pp : Pos) (y : Str) (env : PySem.Env) : Bool := env.blockKind == .function && env.kindOf y == some .local && pp.line == vp.line && !(gs.names.any fun (n, k) => n == y && (k == .local || k == .cell))
theorem sw_comp {elt : Expr} {gens : List Comprehension} {sc : Scope} {pos pp : Pos} {y : Str} (l : Nat) (env : PySem.Env) : swapsWith (.ListComp elt gens sc pos) (some (.Name y pp)) l env = pure (swB sc pos pp y env) := rfl
theorem swB_loc {gs : Scope} {vp pp : Pos} {y : Str} {env : PySem.Env} (h : swB gs vp pp y env = true) : env.scope.names.lookup y = some .local := by
  unfold swB at h
  simp only [Bool.and_eq_true, beq_iff_eq] at h
  exact h.1.1.2
theorem s_compA {it : It} {tg : Tg} {own : List Nat} {x cd : Ex} {te : TE} (hte : ∀ c X y, Ok e S F c X W0 → chkE S x c y = true → PE X y te) (o : Ok e S F c X W) {y : Expr} (h : chkE S (.comp x tg it cd own) c y = true) {i : Nat} {z : Str} {pp spos : Pos} (hz : chkN c i z = true) :
    ∃ tt, CondR e F cd tt ∧ (∀ i ∈ tgs tg, i ∈ own) ∧ PS X (.Assign [.Name z pp] y spos) (tAsg (tLc (tIt e F W it) (tG e tg) tt te own) (gName i)) := by
  obtain ⟨n1, n2, n3⟩ := s_chkN o hz
  have nN : X.N.Nodup := by rw [o.N]; exact o.nd
  simp only [chkE] at h
  unfold kComp at h
  split at h
  · rename_i elt t it' sc pos
    simp only [Bool.and_eq_true] at h
    obtain ⟨⟨⟨⟨⟨h1, h2⟩, h3⟩, h4⟩, h5⟩, h6⟩ := h
    have hom : cd = .om := by cases cd <;> first | rfl | cases h6
    subst hom
    refine ⟨tYes, cond_yes, all_in h4, ?_⟩
    suffices q : PS X _ (tAsg (tLc (tIt e F W it) (tG e tg) tYes te ((ownN c.N own).map (·.2))) (gName i)) by
      rw [own_map] at q
      exact q
    by_cases hsw : swB sc pos pp z X.env = true
    · exact ps_setLc (own := ownN c.N own) o.calm nN n1 (swB_loc hsw) (by rw [sw_comp, hsw]) ((sndI it).pi c X W _ _ o h2) (by rw [o.N, o.sc]; exact blkOk_by h1) (fun s H C cl fp => s_tg (o.blk s H _ C cl fp) h3) (fun s H C cl fp => pts_nil) (fun s H C cl fp => hte _ _ _ (o.blk s H _ C cl fp) h5) ((sndI (e := e) (F := F) it).fs c _ _ h2 _)
    · exact ps_set nN n1 n2 (pe_lc (own := ownN c.N own) o.calm nN ((sndI it).pi c X W _ _ o h2) (by rw [o.N, o.sc]; exact blkOk_by h1) (fun s H C cl fp => s_tg (o.blk s H _ C cl fp) h3) (fun s H C cl fp => pts_nil) (fun s H C cl fp => hte _ _ _ (o.blk s H _ C cl fp) h5) ((sndI (e := e) (F := F) it).fs c _ _ h2 _)) (by rw [sw_comp]; simp only [hsw]) n3
  · rename_i elt t it' y1 sc pos
    simp only [Bool.and_eq_true, Bool.not_eq_true'] at h
    obtain ⟨⟨⟨⟨⟨⟨h1, h2⟩, h3⟩, h4⟩, h5⟩, h6⟩, h7, h8⟩ := h
    refine ⟨tT e F W0 cd, cond_of h6, all_in h4, ?_⟩
    suffices q : PS X _ (tAsg (tLc (tIt e F W it) (tG e tg) (tT e F W0 cd) te ((ownN c.N own).map (·.2))) (gName i)) by
      rw [own_map] at q
      exact q
    by_cases hsw : swB sc pos pp z X.env = true
    · exact ps_setLc (own := ownN c.N own) o.calm nN n1 (swB_loc hsw) (by rw [sw_comp, hsw]) ((sndI it).pi c X W _ _ o h2) (by rw [o.N, o.sc]; exact blkOk_by h1) (fun s H C cl fp => s_tg (o.blk s H _ C cl fp) h3) (fun s H C cl fp => pts_one ((sndE cd).pt h7 _ _ _ _ (o.blk s H _ C cl fp) h8)) (fun s H C cl fp => hte _ _ _ (o.blk s H _ C cl fp) h5) ((sndI (e := e) (F := F) it).fs c _ _ h2 _)
    · exact ps_set nN n1 n2 (pe_lc (own := ownN c.N own) o.calm nN ((sndI it).pi c X W _ _ o h2) (by rw [o.N, o.sc]; exact blkOk_by h1) (fun s H C cl fp => s_tg (o.blk s H _ C cl fp) h3) (fun s H C cl fp => pts_one ((sndE cd).pt h7 _ _ _ _ (o.blk s H _ C cl fp) h8)) (fun s H C cl fp => hte _ _ _ (o.blk s H _ C cl fp) h5) ((sndI (e := e) (F := F) it).fs c _ _ h2 _)) (by rw [sw_comp]; simp only [hsw]) n3
  · cases h
theorem s_compA2 {it it2 : It} {tg tg2 : Tg} {own : List Nat} {x : Ex} (o : Ok e S F c X W) {y : Expr} (h : chkE S (.comp2 x tg it tg2 it2 own) c y = true) {i : Nat} {z : Str} {pp spos : Pos} (hz : chkN c i z = true) :
    (∀ i ∈ tgs tg, i ∈ own) ∧ (∀ i ∈ tgs tg2, i ∈ own) ∧ PS X (.Assign [.Name z pp] y spos) (tAsg (tLc2 (tIt e F W it) (tG e tg) tYes (tIt e F W0 it2) (tG e tg2) tYes (tE e F W0 x) own (tgs tg2)) (gName i)) := by
  obtain ⟨n1, n2, n3⟩ := s_chkN o hz
  have nN : X.N.Nodup := by rw [o.N]; exact o.nd
  have h0 := h
  simp only [chkE] at h
  unfold kComp2 at h
  split at h
  · rename_i elt t it' t2 it2' sc pos
    by_cases hsw : swB sc pos pp z X.env = true
    · simp only [Bool.and_eq_true] at h
      obtain ⟨⟨⟨⟨⟨⟨⟨h1, h2⟩, h3⟩, h4⟩, h4'⟩, h5⟩, h6⟩, h7⟩ := h
      refine ⟨all_in h4, all_in h4', ?_⟩
      suffices q : PS X _ (tAsg (tLc2 (tIt e F W it) (tG e tg) tYes (tIt e F W0 it2) (tG e tg2) tYes (tE e F W0 x) ((ownN c.N own).map (·.2)) (tgs tg2)) (gName i)) by
        rw [own_map] at q
        exact q
      exact ps_setLc2 (own := ownN c.N own) (vs1 := tgs tg2) o.calm nN n1 (swB_loc hsw) (by rw [sw_comp, hsw]) ((sndI it).pi c X W _ _ o h2) (by rw [o.N, o.sc]; exact blkOk_by h1) (by rw [own_map]; exact all_in h4') (fun s H C cl fp => s_tg (o.blk s H _ C cl fp) h3) (fun s H C cl fp => pts_nil)
        (fun s H C cl fp => (sndI it2).pi _ _ _ _ _ (o.blk s H _ C cl fp) h5) (fun s H C cl fp => s_tg (o.blk s H _ C cl fp) h6) (fun s H C cl fp => pts_nil) (fun s H C cl fp => (sndE x).pe _ _ _ _ (o.blk s H _ C cl fp) h7) ((sndI (e := e) (F := F) it).fs c _ _ h2 _) ((sndI (e := e) (F := F) it2).fs _ _ _ h5)
    · obtain ⟨q1, q2, q3⟩ := s_comp2 (sndE x) (sndI it) (sndI it2) o h0
      exact ⟨q1, q2, ps_set nN n1 n2 q3 (by rw [sw_comp]; simp only [hsw]) n3⟩
  · cases h
theorem tAsg_imp {t t' : TE} {g : TG} (i : ∀ σ H Q, t' σ H Q → t σ H Q) : ∀ D σ H, tAsg t' g D σ H → tAsg t g D σ H := fun D σ H h => i σ H _ h
/-- a name is stored -/
theorem s_asgN (o : Ok e S F c X W) {fr : Bool} {m : Ex} {x : Expr} (h : chkE S m c x = true) {i : Nat} {z : Str} {pp spos : Pos} (hz : chkN c i z = true) :
    PS X (.Assign [.Name z pp] x spos) (tAsg (tR e F W fr m) (gName i)) := by
  obtain ⟨n1, n2, n3⟩ := s_chkN o hz
  have nN : X.N.Nodup := by rw [o.N]; exact o.nd
  by_cases hm : isComp m = true
  · unfold isComp at hm
    split at hm
    · obtain ⟨tt, q1, q2, q3⟩ := s_compA (te := tE e F W0 _) (fun c X y o h => (sndE _).pe c X W0 y o h) o h hz
      refine PS.imp q3 (tAsg_imp fun σ H Q q => o_comp q1 q2 ?_)
      cases fr with
      | false => exact tE_F (tR_E q)
      | true => exact tR_F rfl (fun _ _ z => by cases z) q
    · obtain ⟨q1, q2, q3⟩ := s_compA2 o h hz
      refine PS.imp q3 (tAsg_imp fun σ H Q q => o_comp2 q1 q2 ?_)
      cases fr with
      | false => exact tE_F (tR_E q)
      | true => exact tR_F rfl (fun _ _ z => by cases z) q
    · cases hm
  · exact ps_set nN n1 n2 (sR o h) (sw_no (comp_no h (by simpa using hm)) _ _ _) n3
theorem putL_eq (s : Ms) (i : Nat) (fr : Bool) (d : D) : putL s i fr d = s.put i (resS fr d) := rfl
/-- the slot ahead is stored at i, if there is such a slot -/
theorem SR.storeA {w : Wd} {H : Hp} {fp : Addr → Prop} {m : Ms} {σ : St} {s0 : Sl} {x0 : Option V} {i : Nat} (S : SR e w H fp ⟨s0 :: m.sl, m.ob⟩ (x0 :: σ)) : SR e w H fp (m.put i s0) (σ.set i x0) := by
  by_cases hi : i < m.sl.length
  · exact S.store hi
  · have h1 : m.put i s0 = m := by unfold Ms.put; rw [List.set_eq_of_length_le (by omega)]
    have S' : SR e w H fp m σ := SR.dropF (ss2 := [s0]) (xs2 := [x0]) (ss1 := m.sl) (ob := m.ob) S rfl
    have h2 : σ.set i x0 = σ := List.set_eq_of_length_le (by have := S'.len; omega)
    rw [h1, h2]; exact S'
theorem AftS.outR {fr : Bool} {m : Ex} {M : Ms} {f : D × Ms → Out} {D : Ends} {σ : St} {w : Wd} {H : Hp} {fp : Addr → Prop} (s : SR e w H fp M σ) (h : AftS e W A σ w H fp ((evR F fr m M).out f) D) {Q : VK}
    (k : ∀ p, evR F fr m M = .ok p → ∀ w' H' fp' v, Xt w H fp w' H' fp' → SR e w' H' fp' ⟨resS fr p.1 :: p.2.sl, p.2.ob⟩ (some v :: σ) → AftS e W A σ w' H' fp' (f p) D → Q v H') : tR e F W fr m σ H Q := by
  refine ⟨w, fp, M, s, ?_⟩
  cases hr : evR F fr m M with
  | no => rw [hr] at h; exact h
  | ex ev m' => rw [hr] at h; exact fun w' H' fp' cls xd x s' q => h w' H' fp' σ cls xd x s' (.refl _ _) q
  | ok p =>
    rw [hr] at h
    exact fun w' H' fp' v x s' => k p hr w' H' fp' v x s' (AftS.step (o := f p) h x (.refl _ _))
end Mi
/-! Part F3: statements, kind by kind. -/
namespace Mi
open PySem PySem.Spec L2
open PyProof.Rows hiding St
variable {e : En} {S : Tx} {F : Fh} {c : CC} {X : Cx} {W : WX} {A : List Nat}
/-! ### the check -/
def isNmE : Expr → Bool
  | .Name .. => true
  | _ => false
def isSubE : Expr → Bool
  | .Subscript .. => true
  | _ => false
def locB (c : CC) (x : Str) : Bool := match c.sc.names.lookup x with
  | some .local => true
  | _ => false
def funB (c : CC) : Bool := match c.sc.kind with
  | .function => true
  | _ => false
def matE (k : Int) (n : Nat) : Ex := .bin .mul (.lst (.cons (.ct (.int k)) .nil)) (.nm n)
def kAsg (t v : Expr → Bool) : Stmt → Bool
  | .Assign [x] y _ => t x && v y
  | _ => false
def parB (a b : Expr) (px py : Pos) : Bool := (foldedForSure 8 a && foldedForSure 8 b) || (px.line == py.line && !(constantsAlone 8 a && constantsAlone 8 b))
def kPar (c : CC) (A : List Nat) (i j : Nat) (a b : Expr → Bool) : Stmt → Bool
  | .Assign [.Tuple [.Name x px, .Name y py] _ _] (.Tuple [u, v] _ _) _ => chkN c i x && chkN c j y && A.contains i && A.contains j && !(i == j) && plainE u && plainE v && a u && b v && (!(locB c x && locB c y) || (funB c && parB u v px py))
  | _ => false
def par3B (a b c : Expr) (px py pz : Pos) : Bool := (foldedForSure 8 a && (foldedForSure 8 b && foldedForSure 8 c)) || (px.line == py.line && px.line == pz.line && !(constantsAlone 8 a && (constantsAlone 8 b && constantsAlone 8 c)))
def kPar3 (c : CC) (A : List Nat) (i j l : Nat) (a b d : Expr → Bool) : Stmt → Bool
  | .Assign [.Tuple [.Name x px, .Name y py, .Name z pz] _ _] (.Tuple [u, v, w] _ _) _ => chkN c i x && chkN c j y && chkN c l z && A.contains i && A.contains j && A.contains l && !(i == j) && !(i == l) && !(j == l) && locB c x && locB c y && locB c z && funB c && plainE u && plainE v && plainE w && a u && b v && d w && par3B u v w px py pz
  | _ => false
def kTwo (t t' : Expr → Bool) (a : List Expr → Bool) : Stmt → Bool
  | .Assign [.Tuple [x, y] _ _] (.Tuple us _ _) _ => isSubE x && isSubE y && t x && t' y && a us
  | _ => false
def kApp (x y : Expr → Bool) : Stmt → Bool
  | .Expr (.Call (.Attribute (.Name z p) n apos) [u] [] cpos) _ => decide (n = "append") && (apos.endLine == cpos.line) && x (.Name z p) && plainE u && y u
  | _ => false
def kExp (x : Expr → Bool) : Stmt → Bool
  | .Expr y _ => !compB y && x y
  | _ => false
def kRet (x : Expr → Bool) : Stmt → Bool
  | .Return (some y) _ => x y
  | _ => false
def kRetN : Stmt → Bool
  | .Return none _ => true
  | _ => false
def kIf (x : Expr → Bool) (a b : List Stmt → Bool) : Stmt → Bool
  | .If y p q _ => x y && a p && b q
  | _ => false
def kFor (t : Expr → Bool) (it : Expr → Expr → Bool) (a : List Stmt → Bool) : Stmt → Bool
  | .For x y p [] _ => t x && it x y && a p
  | _ => false
def kWhl (x : Expr → Bool) (a : List Stmt → Bool) : Stmt → Bool
  | .While y p [] _ => x y && a p
  | _ => false
def kPas : Stmt → Bool
  | .Pass _ => true
  | _ => false
def kRai (x : Str → Bool) : Stmt → Bool
  | .Raise (some (.Call (.Name z _) [.Constant (.str _) _ _] [] _)) none _ => x z
  | _ => false
def kBrk : Stmt → Bool
  | .Break _ => true
  | _ => false
def kCnt : Stmt → Bool
  | .Continue _ => true
  | _ => false
def kConsS (a : Stmt → Bool) (r : List Stmt → Bool) : List Stmt → Bool
  | x :: xs => a x && r xs
  | [] => false
def kNilS : List Stmt → Bool
  | [] => true
  | _ => false
mutual
def chkS (S : Tx) (A : List Nat) (c : CC) : Sm → Stmt → Bool
  | .asg l a, st => kAsg (kLv S A c l) (chkE S a c) st
  | .asg2 (.nm i _) (.nm j _) a b, st => kPar c A i j (chkE S a c) (chkE S b c) st
  | .asg2 l l' a b, st => kTwo (kLv S A c l) (kLv S A c l') (chkEs S (.cons a (.cons b .nil)) c) st
  | .asg3 i j l _ _ _ a b d, st => kPar3 c A i j l (chkE S a c) (chkE S b c) (chkE S d c) st
  | .unp is a, st => kAsg (fun x => chkTg c (.many is) x && is.all A.contains) (fun y => !isTupE y && chkE S a c y) st
  | .mat i k n o, st => kAsg (kLv S A c (.nm i false)) (chkE S (.comp (matE k n) (.one o) (.rng1 (.nm n)) .om [o]) c) st
  | .app i a, st => kApp (kNm c i) (chkE S a c) st
  | .exp a, st => kExp (chkE S a c) st
  | .ret _ a, st => kRet (chkE S a c) st
  | .retN, st => kRetN st
  | .ifs t a b, st => kIf (fun y => tst t && chkE S t c y) (chkSs S A c a) (chkSs S A c b) st
  | .fors tg it b, st => kFor (fun x => chkTg c tg x && (tgs tg).all A.contains) (chkI S it c) (chkSs S A c b) st
  | .whl t b, st => kWhl (fun y => tst t && chkE S t c y) (chkSs S A c b) st
  | .pas, st => kPas st
  | .brk, st => kBrk st
  | .cnt, st => kCnt st
  | .bad, _ => true
  | .rai k, st => kRai (fun z => decide (S.c[k]? = some z) && glB c.sc z && nameB z) st
def chkSs (S : Tx) (A : List Nat) (c : CC) : Sms → List Stmt → Bool
  | .nil, sts => kNilS sts
  | .cons a r, sts => kConsS (chkS S A c a) (chkSs S A c r) sts
end
/-! ### a statement's context -/
structure OkS (e : En) (S : Tx) (F : Fh) (c : CC) (X : Cx) (W : WX) : Prop where
  ok : Ok e S F c X W
  own : PassesOwn (model X.prog X.w) X.A X.env X.xe
structure SndS (e : En) (S : Tx) (F : Fh) (A : List Nat) (m : Sm) : Prop where
  ps : ∀ c X W st, OkS e S F c X W → chkS S A c m st = true → PS X st (tS e F W A m)
structure SndSs (e : En) (S : Tx) (F : Fh) (A : List Nat) (m : Sms) : Prop where
  ps : ∀ c X W st, OkS e S F c X W → chkSs S A c m st = true → PSs X st (tSs e F W A m)
theorem sw_name_no {x : Expr} {t : Expr} (h : compB x = false) (l : Nat) (env : PySem.Env) : swapsWithSole [t] x l env = pure false := sw_no h _ _ _
theorem mem_all {is : List Nat} (h : is.all A.contains = true) : ∀ i ∈ is, i ∈ A := fun i hi => by
  have := (List.all_eq_true.mp h) i hi
  simpa using this
theorem kLv_nm {i : Nat} {fr : Bool} {t : Expr} (h : kLv S A c (.nm i fr) t = true) : ∃ z p, t = .Name z p ∧ chkN c i z = true ∧ i ∈ A := by
  cases t <;> simp only [kLv, Bool.false_eq_true, Bool.and_eq_true, List.contains_iff_mem] at h
  exact ⟨_, _, rfl, h.1, h.2⟩
theorem snd_asgN (i : Nat) (fr : Bool) (a : Ex) : SndS e S F A (.asg (.nm i fr) a) where
  ps := fun c X W st o h => by
    simp only [chkS] at h
    unfold kAsg at h
    split at h
    · simp only [Bool.and_eq_true] at h
      obtain ⟨h1, h2⟩ := h
      obtain ⟨z, pp, rfl, h3, h4⟩ := kLv_nm h1
      refine PS.imp (s_asgN (fr := fr) o.ok h2 h3) ?_
      rintro D σ H ⟨w, fp, M, s, h⟩
      have h : AftS e W A σ w H fp ((evR F fr a M).out fun p => .nx (putL p.2 i fr p.1)) D := h
      refine AftS.outR s h fun p hp w' H' fp' v x s' h => ?_
      exact h w' H' fp' _ .refl (putL_eq _ _ _ _ ▸ s'.storeA) (.set h4)
    · cases h
theorem sws_sub {t x : Expr} (h : isSubE t = true) (l : Nat) (env : PySem.Env) : swapsWithSole [t] x l env = pure false := by
  cases t <;> first | (cases h; done) | (cases x <;> rfl)
theorem s_asgL (o : OkS e S F c X W) {l : Lv} {a : Ex} {st : Stmt} (hl : ∀ i fr, l ≠ .nm i fr) (h : chkS S A c (.asg l a) st = true) : PS X st (tS e F W A (.asg l a)) := by
  simp only [chkS] at h
  unfold kAsg at h
  split at h
  · rename_i t y pos
    simp only [Bool.and_eq_true] at h
    obtain ⟨h1, h2⟩ := h
    have hsub : isSubE t = true := by
      unfold kLv at h1
      split at h1
      · exact (hl _ _ rfl).elim
      · rfl
      · rfl
      · rfl
      · cases h1
    refine PS.imp (ps_asg ((sndE a).pe c X W y o.ok h2) (s_lv o.ok h1) ?_ ?_ ?_) ?_
    · exact sws_sub hsub _ _
    · cases t <;> first | (cases hsub; done) | rfl
    · cases t <;> first | (cases hsub; done) | rfl
    · rintro D σ H ⟨w, fp, M, s, h⟩
      have h : AftS e W A σ w H fp ((evE F a M).out fun p => ofO (stL l p.1 p.2)) D := by
        cases l with
        | nm i fr => exact (hl _ _ rfl).elim
        | ix i k => exact h
        | ix2 i j k => exact h
        | kx i j => exact h
      refine ⟨w, fp, M, s, h.out.imp fun d m1 w1 H1 fp1 x1 s1 h v r => ?_⟩
      simp only at h
      cases hs : stL l d m1 with
      | none => rw [hs] at h; exact h.elim
      | some M' =>
        rw [hs] at h
        exact ⟨w1, fp1, m1, d, M', s1, r, hs, fun w' H' fp' σ' x s' ag => h w' H' fp' σ' x s' ag⟩
  · cases h
/-- two values, one after another -/
theorem i_pair {fi fj : Bool} {a b : Ex} {D : Ends} {σ : St} {w : Wd} {H : Hp} {fp : Addr → Prop} {M : Ms} {i j : Nat} (hi : i ∈ A) (hj : j ∈ A) (s : SR e w H fp M σ)
    (h : AftS e W A σ w H fp ((evR F fi a M).out fun p => (evR F fj b p.2).out fun q => if i == j then .no else .nx (putL (putL q.2 i fi p.1) j fj q.1)) D) :
    {Q : List V → Hp → Prop} → (∀ v u H1, (∀ H2, (∀ (m : Ms) (σ' : St) (w1 : Wd) (fp1 : Addr → Prop), SR e w1 H1 fp1 m σ' → ∃ w3 fp3, Xt w1 H1 fp1 w3 H2 fp3 ∧ SR e w3 H2 fp3 m σ') → D.nx ((σ.set i (some v)).set j (some u)) H2) → Q [v, u] H1) →
    tCons (tR e F W fi a) (tCons (tR e F W fj b) tNil) σ H Q := by
  intro Q kk
  refine AftS.outR s h fun p hp w1 H1 fp1 v x1 s1 h => ?_
  obtain ⟨fpA, s2, fr⟩ := SR.frameF (ss2 := [resS fi p.1]) (xs2 := [some v]) (ss1 := p.2.sl) (xs1 := σ) (ob := p.2.ob) s1 rfl
  refine ⟨w1, fpA, p.2, s2, ?_⟩
  cases hr : evR F fj b p.2 with
  | no => rw [hr] at h; exact h
  | ex ev m' =>
    rw [hr] at h
    intro w' H' fp' cls xd x s' q
    obtain ⟨fp2, x2, s3⟩ := fr w' H' fp' m'.sl m'.ob σ x s'
    exact h w' H' fp2 σ cls xd x2 (SR.dropF (ss2 := [resS fi p.1]) (xs2 := [some v]) s3 rfl) (.refl _ _) q
  | ok q =>
    rw [hr] at h
    intro w' H' fp' u x s'
    obtain ⟨fp2, x2, s3⟩ := fr w' H' fp' (resS fj q.1 :: q.2.sl) q.2.ob (some u :: σ) x s'
    refine kk v u H' fun H2 grow => ?_
    obtain ⟨w3, fp3, x3, s4⟩ := grow _ _ _ _ s3
    by_cases hij : i = j
    · have h : AftS e W A σ w1 H1 fp1 (if (i == j) = true then .no else .nx (putL (putL q.2 i fi p.1) j fj q.1)) D := h
      rw [if_pos (by simpa using hij)] at h
      exact h.elim
    · have h : AftS e W A σ w1 H1 fp1 (if (i == j) = true then .no else .nx (putL (putL q.2 i fi p.1) j fj q.1)) D := h
      rw [if_neg (by simpa using hij)] at h
      have s5 : SR e w3 H2 fp3 ((⟨resS fj q.1 :: q.2.sl, q.2.ob⟩ : Ms).put (i + 1) (resS fi p.1)) ((some u :: σ).set (i + 1) (some v)) := SR.storeA (m := ⟨resS fj q.1 :: q.2.sl, q.2.ob⟩) s4
      have s6 : SR e w3 H2 fp3 ((q.2.put i (resS fi p.1)).put j (resS fj q.1)) ((σ.set i (some v)).set j (some u)) := SR.storeA (m := q.2.put i (resS fi p.1)) s5
      exact h w3 H2 fp3 _ (x2.trans x3) s6 ((Agr.set hi).trans (.set hj))
theorem fun_of (h : funB c = true) : c.sc.kind = .function := by
  unfold funB at h
  split at h
  · assumption
  · cases h
theorem loc_of {x : Str} (h : locB c x = true) : c.sc.names.lookup x = some .local := by
  unfold locB at h
  split at h
  · assumption
  · cases h
theorem sws_par {x y : Str} {px py pt pt2 : Pos} {a b : Expr} {kt k2 : Nat} {env : PySem.Env} (hk : env.scope.kind = .function) (hx : env.scope.names.lookup x = some .local) (hy : env.scope.names.lookup y = some .local) (hxy : x ≠ y) (ha : plainE a = true) (hb : plainE b = true)
    (hl : (px.line == py.line) = true) (hf : (foldedForSure 8 a && foldedForSure 8 b) = false) (hc : (constantsAlone 8 a && constantsAlone 8 b) = false) :
    swappedStores [.Tuple [.Name x px, .Name y py] kt pt] (.Tuple [a, b] k2 pt2) env = pure (some [x, y]) := by
  have kx : env.kindOf x = some .local := hx
  have ky : env.kindOf y = some .local := hy
  have hbk : env.blockKind = .function := by unfold Env.blockKind; rw [hk]; rfl
  have hl : py.line = px.line := by simpa using (beq_iff_eq.mp hl).symm
  unfold swappedStores
  simp [hbk, kx, ky, Expr.pos, hl, hf, hc, List.eraseDups_cons, Ne.symm hxy, hxy]
  intro h
  exfalso
  rcases h with h | h
  · cases a <;> first | (cases ha; done) | cases h
  · cases b <;> first | (cases hb; done) | cases h
theorem kind_loc {c : CC} {x : Str} {env : PySem.Env} (hs : env.scope = c.sc) : (env.kindOf x == some .local) = locB c x := by
  have e : env.kindOf x = c.sc.names.lookup x := by rw [← hs]; rfl
  rw [e]
  unfold locB
  split
  · rename_i h; rw [h]; rfl
  · rename_i h
    cases hk : c.sc.names.lookup x with
    | none => rfl
    | some k => cases k <;> first | rfl | exact (h hk).elim
theorem sws_cell {c : CC} {x y : Str} {px py pt pt2 : Pos} {a b : Expr} {kt k2 : Nat} {env : PySem.Env} (hs : env.scope = c.sc) (h : (locB c x && locB c y) = false) :
    swappedStores [.Tuple [.Name x px, .Name y py] kt pt] (.Tuple [a, b] k2 pt2) env = pure none := by
  have e1 := kind_loc (x := x) hs
  have e2 := kind_loc (x := y) hs
  unfold swappedStores
  cases h1 : locB c x <;> cases h2 : locB c y <;> rw [h1] at e1 <;> rw [h2] at e2 <;> simp only [h1, h2, Bool.and_self, Bool.true_eq_false] at h <;> simp [e1, e2, List.filterMap_cons] <;> (repeat' split) <;> simp_all
theorem sws_fold {x y : Str} {px py pt pt2 : Pos} {a b : Expr} {kt k2 : Nat} {env : PySem.Env} (hf : (foldedForSure 8 a && foldedForSure 8 b) = true) :
    swappedStores [.Tuple [.Name x px, .Name y py] kt pt] (.Tuple [a, b] k2 pt2) env = pure none := by
  simp only [Bool.and_eq_true] at hf
  unfold swappedStores
  simp [hf.1, hf.2]
theorem sws_par3 {x y z : Str} {px py pz pt pt2 : Pos} {a b d : Expr} {kt k2 : Nat} {env : PySem.Env} (hk : env.scope.kind = .function) (hx : env.scope.names.lookup x = some .local) (hy : env.scope.names.lookup y = some .local) (hz : env.scope.names.lookup z = some .local) (hxy : x ≠ y) (hxz : x ≠ z) (hyz : y ≠ z) (ha : plainE a = true) (hb : plainE b = true) (hd : plainE d = true)
    (hl : (px.line == py.line) = true) (hl2 : (px.line == pz.line) = true) (hf : (foldedForSure 8 a && (foldedForSure 8 b && foldedForSure 8 d)) = false) (hc : (constantsAlone 8 a && (constantsAlone 8 b && constantsAlone 8 d)) = false) :
    swappedStores [.Tuple [.Name x px, .Name y py, .Name z pz] kt pt] (.Tuple [a, b, d] k2 pt2) env = pure (some [x, y, z]) := by
  have kx : env.kindOf x = some .local := hx
  have ky : env.kindOf y = some .local := hy
  have kz : env.kindOf z = some .local := hz
  have hbk : env.blockKind = .function := by unfold Env.blockKind; rw [hk]; rfl
  have hl : py.line = px.line := by simpa using (beq_iff_eq.mp hl).symm
  have hl2 : pz.line = px.line := by simpa using (beq_iff_eq.mp hl2).symm
  unfold swappedStores
  simp [hbk, kx, ky, kz, Expr.pos, hl, hl2, hf, hc, List.eraseDups_cons, Ne.symm hxy, hxy, Ne.symm hxz, hxz, Ne.symm hyz, hyz]
  intro h
  exfalso
  rcases h with h | h | h
  · cases a <;> first | (cases ha; done) | cases h
  · cases b <;> first | (cases hb; done) | cases h
  · cases d <;> first | (cases hd; done) | cases h
theorem sws_fold3 {x y z : Str} {px py pz pt pt2 : Pos} {a b d : Expr} {kt k2 : Nat} {env : PySem.Env} (hf : (foldedForSure 8 a && (foldedForSure 8 b && foldedForSure 8 d)) = true) :
    swappedStores [.Tuple [.Name x px, .Name y py, .Name z pz] kt pt] (.Tuple [a, b, d] k2 pt2) env = pure none := by
  simp only [Bool.and_eq_true] at hf
  unfold swappedStores
  simp [hf.1, hf.2.1, hf.2.2]
/-- several values, one after another, each aside -/
def evRs (F : Fh) : List (Bool × Ex) → Ms → R (List Sl × Ms)
  | [], s => .ok ([], s)
  | p :: r, s => (evR F p.1 p.2 s).bnd fun q => (evRs F r q.2).bnd fun u => .ok (resS p.1 q.1 :: u.1, u.2)
def tRs (e : En) (F : Fh) (W : WX) : List (Bool × Ex) → TA
  | [] => tNil
  | p :: r => tCons (tR e F W p.1 p.2) (tRs e F W r)
def AftR (e : En) (W : WX) (σ : St) (w : Wd) (H : Hp) (fp : Addr → Prop) (r : R (List Sl × Ms)) (G : List Sl → Ms → Wd → Hp → (Addr → Prop) → List V → Prop) : Prop := match r with
  | .ok p => ∀ w' H' fp' vs, Xt w H fp w' H' fp' → SR e w' H' fp' ⟨p.1 ++ p.2.sl, p.2.ob⟩ (vs.map some ++ σ) → p.1.length = vs.length → G p.1 p.2 w' H' fp' vs
  | .ex ev m' => ∀ w' H' fp' cls xd, Xt w H fp w' H' fp' → SR e w' H' fp' m' σ → ExR e w' ev cls xd → W cls xd σ H'
  | .no => False
theorem i_rs : ∀ {es : List (Bool × Ex)} {σ : St} {w : Wd} {H : Hp} {fp : Addr → Prop} {M : Ms} {Q : List V → Hp → Prop}, SR e w H fp M σ → AftR e W σ w H fp (evRs F es M) (fun _ _ _ H' _ vs => Q vs H') → tRs e F W es σ H Q
  | [], σ, w, H, fp, M, Q, s, h => h w H fp [] .refl s rfl
  | p :: es, σ, w, H, fp, M, Q, s, h => by
    unfold evRs at h
    refine ⟨w, fp, M, s, ?_⟩
    cases hr : evR F p.1 p.2 M with
    | no => rw [hr] at h; exact h
    | ex ev m' => rw [hr] at h; exact h
    | ok q =>
      rw [hr] at h
      intro w1 H1 fp1 v x1 s1
      have h : AftR e W σ w H fp ((evRs F es q.2).bnd fun u => .ok (resS p.1 q.1 :: u.1, u.2)) (fun _ _ _ H' _ vs => Q vs H') := h
      obtain ⟨fpA, s2, fr⟩ := SR.frameF (ss2 := [resS p.1 q.1]) (xs2 := [some v]) (ss1 := q.2.sl) (xs1 := σ) (ob := q.2.ob) s1 rfl
      refine i_rs s2 ?_
      revert h
      cases evRs F es q.2 with
      | no => exact id
      | ex ev m' =>
        intro h w' H' fp' cls xd x s' r
        obtain ⟨fp2, x2, s3⟩ := fr w' H' fp' m'.sl m'.ob σ x s'
        exact h w' H' fp2 cls xd (x1.trans x2) (SR.dropF (ss2 := [resS p.1 q.1]) (xs2 := [some v]) s3 rfl) r
      | ok u =>
        intro h w' H' fp' vs x s' hl
        obtain ⟨fp2, x2, s3⟩ := fr w' H' fp' (u.1 ++ u.2.sl) u.2.ob (vs.map some ++ σ) x s'
        exact h w' H' fp2 (v :: vs) (x1.trans x2) s3 (by simp [hl])
/-- .. as operands -/
theorem sRs (o : Ok e S F c X W) : ∀ {es : List (Bool × Ex)} {xs : List Expr}, es.length = xs.length → (∀ (n : Nat) (p : Bool × Ex) (x : Expr), es[n]? = some p → xs[n]? = some x → plainE x = true ∧ chkE S p.2 c x = true) → PA X xs (tRs e F W es)
  | [], [], _, _ => pa_nil
  | [], _ :: _, hl, _ => by simp at hl
  | _ :: _, [], hl, _ => by simp at hl
  | p :: es, x :: xs, hl, h => by
    obtain ⟨h1, h2⟩ := h 0 p x rfl rfl
    exact pa_cons (sR (W := W) (fr := p.1) o h2) (sRs o (by simpa using hl) fun n p x a b => h (n + 1) p x (by simpa using a) (by simpa using b)) (star_of h1)
end Mi
/-! Part F4: statements, kind by kind, further. -/
namespace Mi
open PySem PySem.Spec L2
open PyProof.Rows hiding St
variable {e : En} {S : Tx} {F : Fh} {c : CC} {X : Cx} {W : WX} {A : List Nat}
theorem grow0 {w : Wd} {H : Hp} {fp : Addr → Prop} {m : Ms} {σ' : St} (s : SR e w H fp m σ') : ∃ w3 fp3, Xt w H fp w3 H fp3 ∧ SR e w3 H fp3 m σ' := ⟨w, fp, .refl, s⟩
theorem grow1 {w : Wd} {H : Hp} {fp : Addr → Prop} {m : Ms} {σ' : St} {p : Addr} {o : HO} (ho : NoTbl o) (hp : H p = none) (s : SR e w H fp m σ') : ∃ w3 fp3, Xt w H fp w3 (upd H p o) fp3 ∧ SR e w3 (upd H p o) fp3 m σ' := by
  obtain ⟨x, s'⟩ := s.add ho hp
  exact ⟨_, _, x, s'⟩
theorem snd_par (i j : Nat) (fi fj : Bool) (a b : Ex) : SndS e S F A (.asg2 (.nm i fi) (.nm j fj) a b) where
  ps := fun c X W st o h => by
    simp only [chkS] at h
    unfold kPar at h
    split at h
    · rename_i x px y py kt pt u v k2 pt2 pos
      simp only [Bool.and_eq_true, Bool.not_eq_true', List.contains_iff_mem] at h
      obtain ⟨⟨⟨⟨⟨⟨⟨⟨⟨h1, h2⟩, h3⟩, h4⟩, h5⟩, h9⟩, h10⟩, h11⟩, h12⟩, h13⟩ := h
      have hij : i ≠ j := by simpa using h5
      obtain ⟨n1, n2, n3⟩ := s_chkN o.ok h1
      obtain ⟨m1, m2, m3⟩ := s_chkN o.ok h2
      have nN : X.N.Nodup := by rw [o.ok.N]; exact o.ok.nd
      have hxy : x ≠ y := fun z => by
        subst z
        obtain ⟨q1, q2⟩ := List.getElem?_eq_some_iff.mp n1
        obtain ⟨q3, q4⟩ := List.getElem?_eq_some_iff.mp m1
        exact hij ((List.getElem?_inj q1 nN).mp (n1.trans m1.symm))
      have ha := sR (W := W) (fr := fi) o.ok h11
      have hb := sR (W := W) (fr := fj) o.ok h12
      have pa := pa_cons ha (pa_cons hb pa_nil (star_of h10)) (star_of h9)
      by_cases hloc : (locB c x && locB c y) = true
      case neg =>
        have hloc : (locB c x && locB c y) = false := by simpa using hloc
        have pt := pe_tup (x1 := k2) (pos := pt2) pa
        refine PS.imp (ps_asg pt (pg_tup o.ok.calm (pgs_cons (s_name o.ok h1) (pgs_cons (s_name o.ok h2) pgs_nil))) ?_ (sws_cell o.ok.sc hloc)) ?_
        · rfl
        · rintro D σ H ⟨w, fp, M, s, h⟩
          have h : AftS e W A σ w H fp ((evR F fi a M).out fun p => (evR F fj b p.2).out fun q => if i == j then .no else .nx (putL (putL q.2 i fi p.1) j fj q.1)) D := h
          refine i_pair (Q := fun vs H1 => vs.length ≤ sizeLine ∧ ∀ p, H1 p = none → gTup X.K 2 (gCons (gName i) (gCons (gName j) gNil)) (.ref p) σ (upd H1 p (.tup vs)) D.nx) h3 h4 s h fun v u H1 k => ?_
          refine ⟨(by decide : 2 ≤ sizeLine), fun p hp => ?_⟩
          exact ⟨p, [v, u], rfl, SqT.of upd_same, rfl, v, [u], rfl, u, [], rfl, rfl, k _ fun m σ' w1 fp1 s => grow1 (noTbl_tup _) hp s⟩
      rw [hloc] at h13
      simp only [Bool.not_true, Bool.false_or, Bool.and_eq_true] at h13 hloc
      obtain ⟨h8, h13⟩ := h13
      obtain ⟨h6, h7⟩ := hloc
      by_cases hf : (foldedForSure 8 u && foldedForSure 8 v) = true
      · have pt := pe_tup (x1 := k2) (pos := pt2) pa
        refine PS.imp (ps_asg pt (pg_tup o.ok.calm (pgs_cons (s_name o.ok h1) (pgs_cons (s_name o.ok h2) pgs_nil))) ?_ (sws_fold hf)) ?_
        · rfl
        · rintro D σ H ⟨w, fp, M, s, h⟩
          have h : AftS e W A σ w H fp ((evR F fi a M).out fun p => (evR F fj b p.2).out fun q => if i == j then .no else .nx (putL (putL q.2 i fi p.1) j fj q.1)) D := h
          refine i_pair (Q := fun vs H1 => vs.length ≤ sizeLine ∧ ∀ p, H1 p = none → gTup X.K 2 (gCons (gName i) (gCons (gName j) gNil)) (.ref p) σ (upd H1 p (.tup vs)) D.nx) h3 h4 s h fun v u H1 k => ?_
          refine ⟨(by decide : 2 ≤ sizeLine), fun p hp => ?_⟩
          exact ⟨p, [v, u], rfl, SqT.of upd_same, rfl, v, [u], rfl, u, [], rfl, rfl, k _ fun m σ' w1 fp1 s => grow1 (noTbl_tup _) hp s⟩
      · have hf : (foldedForSure 8 u && foldedForSure 8 v) = false := by simpa using hf
        unfold parB at h13
        rw [hf] at h13
        simp only [Bool.false_or, Bool.and_eq_true, Bool.not_eq_true'] at h13
        refine PS.imp (ps_par o.ok.calm nN n1 m1 hij (by rw [o.ok.sc]; exact loc_of h6) (by rw [o.ok.sc]; exact loc_of h7) pa (sws_par (by rw [o.ok.sc]; exact fun_of h8) (by rw [o.ok.sc]; exact loc_of h6) (by rw [o.ok.sc]; exact loc_of h7) hxy h9 h10 h13.1 hf h13.2)) ?_
        rintro D σ H ⟨w, fp, M, s, h⟩
        have h : AftS e W A σ w H fp ((evR F fi a M).out fun p => (evR F fj b p.2).out fun q => if i == j then .no else .nx (putL (putL q.2 i fi p.1) j fj q.1)) D := h
        exact i_pair h3 h4 s h fun v u H1 k => ⟨v, u, rfl, k _ fun m σ' w1 fp1 s => grow0 s⟩
    · cases h
end Mi
/-! Part F4b: three names at once. -/
namespace Mi
open PySem PySem.Spec L2
open PyProof.Rows hiding St
variable {e : En} {S : Tx} {F : Fh} {c : CC} {X : Cx} {W : WX} {A : List Nat}
theorem SR.store3 {w : Wd} {H : Hp} {fp : Addr → Prop} {m : Ms} {σ : St} {s1 s2 s3 : Sl} {x1 x2 x3 : Option V} {i j l : Nat} (S : SR e w H fp ⟨s1 :: s2 :: s3 :: m.sl, m.ob⟩ (x1 :: x2 :: x3 :: σ)) : SR e w H fp (((m.put i s1).put j s2).put l s3) (((σ.set i x1).set j x2).set l x3) := by
  have a : SR e w H fp ((⟨s2 :: s3 :: m.sl, m.ob⟩ : Ms).put (i + 2) s1) ((x2 :: x3 :: σ).set (i + 2) x1) := SR.storeA (m := ⟨s2 :: s3 :: m.sl, m.ob⟩) S
  have b : SR e w H fp ((⟨s3 :: (m.put i s1).sl, m.ob⟩ : Ms).put (j + 1) s2) ((x3 :: σ.set i x1).set (j + 1) x2) := SR.storeA (m := ⟨s3 :: (m.put i s1).sl, m.ob⟩) a
  exact SR.storeA (m := (m.put i s1).put j s2) b
theorem ne_names {x y : Str} {i j : Nat} (hN : X.N.Nodup) (h1 : X.N[i]? = some x) (h2 : X.N[j]? = some y) (hij : i ≠ j) : x ≠ y := fun z => by
  subst z
  obtain ⟨q1, q2⟩ := List.getElem?_eq_some_iff.mp h1
  obtain ⟨q3, q4⟩ := List.getElem?_eq_some_iff.mp h2
  exact hij ((List.getElem?_inj q1 hN).mp (h1.trans h2.symm))
theorem par3_aft {i j l : Nat} {fi fj fl : Bool} {a b d : Ex} {D : Ends} {σ : St} {w : Wd} {H : Hp} {fp : Addr → Prop} {M : Ms} (hi : i ∈ A) (hj : j ∈ A) (hl : l ∈ A) (n1 : i ≠ j) (n2 : i ≠ l) (n3 : j ≠ l)
    (h : AftS e W A σ w H fp ((evR F fi a M).out fun p => (evR F fj b p.2).out fun q => (evR F fl d q.2).out fun r => if i == j || i == l || j == l then .no else .nx (putL (putL (putL r.2 i fi p.1) j fj q.1) l fl r.1)) D) :
    AftR e W σ w H fp (evRs F [(fi, a), (fj, b), (fl, d)] M) fun _ _ w' H' fp' vs => ∃ u v z, vs = [u, v, z] ∧ ∀ w2 H2 fp2, Xt w' H' fp' w2 H2 fp2 → (∀ (m : Ms) (σ' : St), SR e w' H' fp' m σ' → SR e w2 H2 fp2 m σ') → D.nx (((σ.set i (some u)).set j (some v)).set l (some z)) H2 := by
  simp only [evRs]
  revert h
  cases evR F fi a M with
  | no => exact id
  | ex ev m => exact fun h w' H' fp' cls xd x s r => h w' H' fp' σ cls xd x s (.refl _ _) r
  | ok p =>
  simp only [R.bnd, R.out]
  cases evR F fj b p.2 with
  | no => exact id
  | ex ev m => exact fun h w' H' fp' cls xd x s r => h w' H' fp' σ cls xd x s (.refl _ _) r
  | ok q =>
  simp only [R.bnd, R.out]
  cases evR F fl d q.2 with
  | no => exact id
  | ex ev m => exact fun h w' H' fp' cls xd x s r => h w' H' fp' σ cls xd x s (.refl _ _) r
  | ok r =>
  intro h w' H' fp' vs x s hl'
  have : ∃ u v z, vs = [u, v, z] := by
    cases vs with
    | nil => simp at hl'
    | cons u vs => cases vs with
      | nil => simp at hl'
      | cons v vs => cases vs with
        | nil => simp at hl'
        | cons z vs => cases vs with
          | nil => exact ⟨_, _, _, rfl⟩
          | cons _ _ => simp at hl'
  obtain ⟨u, v, z, rfl⟩ := this
  refine ⟨u, v, z, rfl, fun w2 H2 fp2 x2 k => ?_⟩
  simp only [n1, n2, n3, beq_iff_eq, Bool.or_false, if_false, Bool.or_self, show ((i == j) || (i == l) || (j == l)) = false by simp [n1, n2, n3], Bool.false_eq_true] at h
  refine h w2 H2 fp2 _ (x.trans x2) ?_ (((Agr.set hi).trans (.set hj)).trans (.set hl))
  exact SR.store3 (m := r.2) (k _ _ s)
theorem snd_par3 (i j l : Nat) (fi fj fl : Bool) (a b d : Ex) : SndS e S F A (.asg3 i j l fi fj fl a b d) where
  ps := fun c X W st o h => by
    simp only [chkS] at h
    unfold kPar3 at h
    split at h
    · rename_i x px y py z pz kt pt u v w0 k2 pt2 pos
      simp only [Bool.and_eq_true, Bool.not_eq_true', List.contains_iff_mem] at h
      obtain ⟨⟨⟨⟨⟨⟨⟨⟨⟨⟨⟨⟨⟨⟨⟨⟨⟨⟨⟨g1, g2⟩, g3⟩, g4⟩, g5⟩, g6⟩, g7⟩, g8⟩, g9⟩, g10⟩, g11⟩, g12⟩, g13⟩, g14⟩, g15⟩, g16⟩, g17⟩, g18⟩, g19⟩, g20⟩ := h
      have hij : i ≠ j := by simpa using g7
      have hil : i ≠ l := by simpa using g8
      have hjl : j ≠ l := by simpa using g9
      obtain ⟨n1, n2, n3⟩ := s_chkN o.ok g1
      obtain ⟨m1, m2, m3⟩ := s_chkN o.ok g2
      obtain ⟨l1, l2, l3⟩ := s_chkN o.ok g3
      have nN : X.N.Nodup := by rw [o.ok.N]; exact o.ok.nd
      have pa : PA X [u, v, w0] (tRs e F W [(fi, a), (fj, b), (fl, d)]) := pa_cons (sR (W := W) (fr := fi) o.ok g17) (pa_cons (sR (W := W) (fr := fj) o.ok g18) (pa_cons (sR (W := W) (fr := fl) o.ok g19) pa_nil (star_of g16)) (star_of g15)) (star_of g14)
      by_cases hf : (foldedForSure 8 u && (foldedForSure 8 v && foldedForSure 8 w0)) = true
      · have pt := pe_tup (x1 := k2) (pos := pt2) pa
        refine PS.imp (ps_asg pt (pg_tup o.ok.calm (pgs_cons (s_name o.ok g1) (pgs_cons (s_name o.ok g2) (pgs_cons (s_name o.ok g3) pgs_nil)))) ?_ (sws_fold3 hf)) ?_
        · rfl
        · rintro D σ H ⟨w, fp, M, s, h⟩
          have h : AftS e W A σ w H fp ((evR F fi a M).out fun p => (evR F fj b p.2).out fun q => (evR F fl d q.2).out fun r => if i == j || i == l || j == l then .no else .nx (putL (putL (putL r.2 i fi p.1) j fj q.1) l fl r.1)) D := h
          refine i_rs s ?_
          have q := par3_aft g4 g5 g6 hij hil hjl h
          revert q
          cases evRs F [(fi, a), (fj, b), (fl, d)] M with
          | no => exact id
          | ex ev m => exact id
          | ok r =>
            intro q w' H' fp' vs x s' hl
            obtain ⟨u1, v1, z1, rfl, k⟩ := q w' H' fp' vs x s' hl
            refine ⟨(by decide : 3 ≤ sizeLine), fun p hp => ?_⟩
            obtain ⟨x2, _⟩ := s'.add (noTbl_tup [u1, v1, z1]) hp
            exact ⟨p, [u1, v1, z1], rfl, SqT.of upd_same, rfl, u1, [v1, z1], rfl, v1, [z1], rfl, z1, [], rfl, rfl, k _ _ _ x2 fun m σ' sm => (sm.add (noTbl_tup _) hp).2⟩
      · have hf : (foldedForSure 8 u && (foldedForSure 8 v && foldedForSure 8 w0)) = false := by simpa using hf
        unfold par3B at g20
        rw [hf] at g20
        simp only [Bool.false_or, Bool.and_eq_true, Bool.not_eq_true'] at g20
        refine PS.imp (ps_par3 o.ok.calm nN n1 m1 l1 hij hil hjl (by rw [o.ok.sc]; exact loc_of g10) (by rw [o.ok.sc]; exact loc_of g11) (by rw [o.ok.sc]; exact loc_of g12) pa
          (sws_par3 (by rw [o.ok.sc]; exact fun_of g13) (by rw [o.ok.sc]; exact loc_of g10) (by rw [o.ok.sc]; exact loc_of g11) (by rw [o.ok.sc]; exact loc_of g12) (ne_names nN n1 m1 hij) (ne_names nN n1 l1 hil) (ne_names nN m1 l1 hjl) g14 g15 g16 g20.1.1 g20.1.2 hf g20.2)) ?_
        rintro D σ H ⟨w, fp, M, s, h⟩
        have h : AftS e W A σ w H fp ((evR F fi a M).out fun p => (evR F fj b p.2).out fun q => (evR F fl d q.2).out fun r => if i == j || i == l || j == l then .no else .nx (putL (putL (putL r.2 i fi p.1) j fj q.1) l fl r.1)) D := h
        refine i_rs s ?_
        have q := par3_aft g4 g5 g6 hij hil hjl h
        revert q
        cases evRs F [(fi, a), (fj, b), (fl, d)] M with
        | no => exact id
        | ex ev m => exact id
        | ok r =>
          intro q w' H' fp' vs x s' hl
          obtain ⟨u1, v1, z1, rfl, k⟩ := q w' H' fp' vs x s' hl
          exact ⟨u1, v1, z1, rfl, k _ _ _ .refl fun m σ' sm => sm⟩
    · cases h
end Mi
/-! Part F5: statements, kind by kind, further. -/
namespace Mi
open PySem PySem.Spec L2
open PyProof.Rows hiding St
variable {e : En} {S : Tx} {F : Fh} {c : CC} {X : Cx} {W : WX} {A : List Nat}
theorem two_eq {a b : Ex} {M : Ms} {g : D → D → Ms → Out} : ((evE F a M).out fun p => (evE F b p.2).out fun q => g p.1 q.1 q.2) = (evE F (.tup (.cons a (.cons b .nil))) M).out fun p => match p.1 with
    | .tup [x, y] => g x y p.2
    | _ => .no := by
  simp only [evE, evEs, xTup, xCons]
  cases evE F a M with
  | no => rfl
  | ex ev m => rfl
  | ok p =>
    simp only [R.bnd, R.out]
    cases evE F b p.2 with
    | no => rfl
    | ex ev m => rfl
    | ok q =>
      have h2 : 2 ≤ sizeLine := by decide
      have : ([p.1, q.1] : List D).length ≤ sizeLine := h2
      simp only [R.bnd, R.out, if_pos this]
theorem sws_two {x y : Expr} {pt pt2 : Pos} {us : List Expr} {kt k2 : Nat} {env : PySem.Env} (hx : isSubE x = true) (hy : isSubE y = true) : swappedStores [.Tuple [x, y] kt pt] (.Tuple us k2 pt2) env = pure none := by
  cases x <;> first | (cases hx; done) | skip
  cases y <;> first | (cases hy; done) | skip
  unfold swappedStores
  simp
theorem sub_each {x y : Expr} {env : PySem.Env} (hx : isSubE x = true) (hy : isSubE y = true) : assignEach [x, y] env = [(false, assign x env), (false, assign y env)] := by
  cases x <;> first | (cases hx; done) | skip
  cases y <;> first | (cases hy; done) | skip
  rfl
theorem snd_two {l l' : Lv} (hl : ∀ i fr j fr', ¬ (l = .nm i fr ∧ l' = .nm j fr')) (a b : Ex) : SndS e S F A (.asg2 l l' a b) where
  ps := fun c X W st o h => by
    replace h : kTwo (kLv S A c l) (kLv S A c l') (chkEs S (.cons a (.cons b .nil)) c) st = true := by
      cases l <;> cases l' <;> first | (exact (hl _ _ _ _ ⟨rfl, rfl⟩).elim) | simpa only [chkS] using h
    unfold kTwo at h
    split at h
    · rename_i x y kt pt us k2 pt2 pos
      simp only [Bool.and_eq_true] at h
      obtain ⟨⟨⟨⟨h1, h2⟩, h3⟩, h4⟩, h5⟩ := h
      have pe : PE X (.Tuple us k2 pt2) (tE e F W (.tup (.cons a (.cons b .nil)))) := (sndE (.tup (.cons a (.cons b .nil)))).pe c X W _ o.ok (by simp only [chkE, kTup]; exact h5)
      have hs1 : starEach [x] X.env = starEach [x] X.env := rfl
      have pg : PG X (.Tuple [x, y] kt pt) (gTup X.K 2 (gCons (tLv e A l) (gCons (tLv e A l') gNil))) := by
        refine pg_tup o.ok.calm (pgs_cons (s_lv o.ok h3) (pgs_cons (s_lv o.ok h4) pgs_nil ?_) ?_) ?_ ?_
        · cases y <;> first | (cases h2; done) | rfl
        · cases x <;> first | (cases h1; done) | rfl
        · rw [sub_each h1 h2]; rfl
        · rw [sub_each h1 h2]; rfl
      refine PS.imp (ps_asg pe pg rfl (sws_two h1 h2) rfl) ?_
      rintro D σ H ⟨w, fp, M, s, h⟩
      have h : AftS e W A σ w H fp ((evE F (.tup (.cons a (.cons b .nil))) M).out fun p => match p.1 with
          | .tup [x, y] => (match stL l x p.2 with
            | some u => ofO (stL l' y u)
            | none => .no)
          | _ => .no) D := by
        rw [← two_eq (g := fun x y m => match stL l x m with
            | some u => ofO (stL l' y u)
            | none => .no)]
        cases l <;> cases l' <;> first | (exact (hl _ _ _ _ ⟨rfl, rfl⟩).elim) | (simp only [evS] at h; exact h)
      refine ⟨w, fp, M, s, h.out.imp fun d m1 w1 H1 fp1 x1 s1 h v r => ?_⟩
      simp only at h
      split at h
      · rename_i d1 d2
        cases r with
        | @tup p ws _ hI rs =>
        cases rs with
        | cons r1 rs =>
        cases rs with
        | cons r2 rs =>
        cases rs
        cases hs : stL l d1 m1 with
        | none => rw [hs] at h; exact h.elim
        | some M' =>
          rw [hs] at h
          simp only at h
          cases hs2 : stL l' d2 M' with
          | none => rw [hs2] at h; exact h.elim
          | some M2 =>
            rw [hs2] at h
            refine ⟨p, _, rfl, SqT.of (s1.sub _ _ hI), rfl, _, _, rfl, ?_⟩
            refine ⟨w1, fp1, m1, d1, M', s1, r1, hs, fun w2 H2 fp2 σ2 x2 s2 a2 => ?_⟩
            refine ⟨_, _, rfl, ?_⟩
            refine ⟨w2, fp2, M', d2, M2, s2, r2.mono x2.le, hs2, fun w3 H3 fp3 σ3 x3 s3 a3 => ?_⟩
            exact ⟨rfl, h w3 H3 fp3 σ3 (x2.trans x3) s3 (a2.trans a3)⟩
      · exact h.elim
    · cases h
theorem sws_tupv {ts : List Expr} {k : Nat} {p : Pos} {x : Expr} {env : PySem.Env} (h : isTupE x = false) : swappedStores [.Tuple ts k p] x env = pure none := by
  cases x <;> first | rfl | cases h
theorem sws_tup {ts : List Expr} {k : Nat} {p : Pos} {x : Expr} (l : Nat) (env : PySem.Env) : swapsWithSole [.Tuple ts k p] x l env = pure false := by
  cases x <;> rfl
theorem snd_unp (is : List Nat) (a : Ex) : SndS e S F A (.unp is a) where
  ps := fun c X W st o h => by
    simp only [chkS] at h
    unfold kAsg at h
    split at h
    · rename_i t y pos
      simp only [Bool.and_eq_true, Bool.not_eq_true'] at h
      obtain ⟨⟨h1, h2⟩, h3, h4⟩ := h
      have ht : ∃ ts k p, t = .Tuple ts k p := by
        cases t <;> simp only [chkTg, Bool.false_eq_true] at h1
        exact ⟨_, _, _, rfl⟩
      obtain ⟨ts, k, p, rfl⟩ := ht
      refine PS.imp (ps_asg ((sndE a).pe c X W y o.ok h4) (s_tg o.ok h1) (sws_tup _ _) (sws_tupv h3) rfl) ?_
      rintro D σ H ⟨w, fp, M, s, h⟩
      have h : AftS e W A σ w H fp ((evE F a M).out fun p => ofO (bindT (.many is) p.1 p.2)) D := h
      refine ⟨w, fp, M, s, h.out.imp fun d m1 w1 H1 fp1 x1 s1 h v r => ?_⟩
      simp only at h
      cases hs : bindT (.many is) d m1 with
      | none => rw [hs] at h; exact h.elim
      | some M' =>
        rw [hs] at h
        exact ⟨w1, fp1, m1, d, M', s1, r, hs, fun σ' s' ag => h w1 H1 fp1 σ' .refl s' (ag.mono (mem_all h2))⟩
    · cases h
theorem star_one {x : Expr} {env : PySem.Env} (h : plainE x = true) : starEach [x] env = [(false, eval x env)] := by
  rw [star_of h]; rfl
theorem snd_app (i : Nat) (a : Ex) : SndS e S F A (.app i a) where
  ps := fun c X W st o h => by
    simp only [chkS] at h
    unfold kApp at h
    split at h
    · rename_i z p n apos u cpos pos
      simp only [Bool.and_eq_true, decide_eq_true_eq] at h
      obtain ⟨⟨⟨⟨h1, h2⟩, h3⟩, h4⟩, h5⟩ := h
      subst h1
      have pe : PE X (.Call (.Attribute (.Name z p) "append" apos) [u] [] cpos) (tBM X.K "list" rAppend (tVar i) (tCons (tE e F W a) tNil)) := by
        refine pe_bm PySem.F.plainAttrs_list PySem.F.slot_list_append PySem.F.type_list_append mt_append (s_nmV o.ok h3) (pa_cons ((sndE a).pe c X W _ o.ok h5) pa_nil (star_of h4)) rfl ?_ h2 (star_of h4) rfl
        rw [star_one h4]; rfl
      refine PS.imp (ps_expr pe) ?_
      rintro D σ H ⟨w, fp, M, s, h⟩
      simp only [evS, yApp] at h
      by_cases hh : hasS M i = true
      · rw [if_pos hh] at h
        unfold hasS at hh
        split at hh
        · rename_i d hs
          obtain ⟨v, hv⟩ := s.var hs (by simp)
          refine ⟨v, hv, ?_⟩
          have ty : tyV X.K "list" v H := by
            obtain ⟨fs, fo, k1, k2, k3, k4⟩ := s.parts
            obtain ⟨x, f, f1, f2, q1, q2, _, _⟩ := k1.at hs
            rw [hv] at q1
            cases q1
            cases q2 with
            | ow z r => exact .inl ⟨rfl, _, SqL.of z⟩
          refine ⟨ty, w, fp, M, s, h.out.imp fun d m1 w1 H1 fp1 x1 s1 h u r => ?_⟩
          simp only at h
          split at h
          · rename_i ds hs1
            by_cases hl : ds.length < sizeLine
            · rw [if_pos hl] at h
              obtain ⟨a, ws, rfl, hH, rs, k⟩ := s1.mut (ds' := ds ++ [d]) hs1 hv
              obtain ⟨x2, s2⟩ := k (ws ++ [u]) (rs.append (.cons r .nil))
              exact ⟨a, ws, u, rfl, rfl, hH, by rw [← rs.length]; exact hl, h w1 _ fp1 σ x2 s2 (.refl _ _)⟩
            · rw [if_neg hl] at h; exact h.elim
          · exact h.elim
        · cases hh
      · rw [if_neg hh] at h; exact h.elim
    · cases h
theorem snd_exp (a : Ex) : SndS e S F A (.exp a) where
  ps := fun c X W st o h => by
    simp only [chkS] at h
    unfold kExp at h
    split at h
    · simp only [Bool.and_eq_true, Bool.not_eq_true'] at h
      refine PS.imp (ps_expr ((sndE a).pe c X W _ o.ok h.2) (sw_no h.1 _ _ _)) ?_
      rintro D σ H ⟨w, fp, M, s, h⟩
      have h : AftS e W A σ w H fp ((evE F a M).out fun p => .nx p.2) D := h
      exact ⟨w, fp, M, s, h.out.imp fun d m1 w1 H1 fp1 x1 s1 h v r => h.nxt s1⟩
    · cases h
theorem snd_ret (fr : Bool) (a : Ex) : SndS e S F A (.ret fr a) where
  ps := fun c X W st o h => by
    simp only [chkS] at h
    unfold kRet at h
    split at h
    · refine PS.imp (ps_ret (sR (fr := fr) o.ok h)) ?_
      rintro D σ H ⟨w, fp, M, s, h⟩
      have h : AftS e W A σ w H fp ((evR F fr a M).out fun p => .rt p.1 fr p.2) D := h
      exact AftS.outR s h fun p hp w' H' fp' v x s' h => h w' H' fp' σ v .refl s' (.refl _ _)
    · cases h
theorem snd_retN : SndS e S F A .retN where
  ps := fun c X W st o h => by
    simp only [chkS] at h
    unfold kRetN at h
    split at h
    · refine PS.imp ps_retN ?_
      rintro D σ H ⟨w, fp, M, s, h⟩
      have h : AftS e W A σ w H fp (.rt .non false M) D := h
      exact h w H fp σ _ .refl (SR.va (ss := M.sl) (ob := M.ob) s .non) (.refl _ _)
    · cases h
theorem snd_pas : SndS e S F A .pas where
  ps := fun c X W st o h => by
    simp only [chkS] at h
    unfold kPas at h
    split at h
    · refine PS.imp ps_pass ?_
      rintro D σ H ⟨w, fp, M, s, h⟩
      have h : AftS e W A σ w H fp (.nx M) D := h
      exact h.nxt s
    · cases h
theorem snd_brk : SndS e S F A .brk where
  ps := fun c X W st o h => by
    simp only [chkS] at h
    unfold kBrk at h
    split at h
    · refine PS.imp ps_break ?_
      rintro D σ H ⟨w, fp, M, s, h⟩
      have h : AftS e W A σ w H fp (.bk M) D := h
      exact h w H fp σ .refl s (.refl _ _)
    · cases h
theorem snd_cnt : SndS e S F A .cnt where
  ps := fun c X W st o h => by
    simp only [chkS] at h
    unfold kCnt at h
    split at h
    · refine PS.imp ps_continue ?_
      rintro D σ H ⟨w, fp, M, s, h⟩
      have h : AftS e W A σ w H fp (.ct M) D := h
      exact h w H fp σ .refl s (.refl _ _)
    · cases h
theorem snd_rai (k : Nat) : SndS e S F A (.rai k) where
  ps := fun c X W st o h => by
    simp only [chkS] at h
    unfold kRai at h
    split at h
    · simp only [Bool.and_eq_true, decide_eq_true_eq] at h
      obtain ⟨g1, g2, g3, g4, g5⟩ := o.ok.ex _ _ h.1.1
      have r : Raises X (.ref (e.ca k)) := raises_own (by rw [o.ok.K]; exact g4) (by rw [o.ok.K]; exact g5)
      refine PS.imp (ps_raise o.ok.calm o.ok.tk (pmk_own PySem.F.excBase_ValueError (by rw [o.ok.K]; exact g2) (by rw [o.ok.mg]; exact g1) (by rw [o.ok.K]; exact g3) r (o.ok.gl h.1.2) (name_dbg h.2))) ?_
      rintro D σ H ⟨w, fp, M, s, h⟩
      have h : AftS e W A σ w H fp (.ex ⟨k, []⟩ M) D := h
      exact h w H fp σ _ _ .refl s (.refl _ _) .plain
    · cases h
end Mi
/-! Part F6: tests, loops, blocks; the whole of statements. -/
namespace Mi
open PySem PySem.Spec L2
open PyProof.Rows hiding St
variable {e : En} {S : Tx} {F : Fh} {c : CC} {X : Cx} {W : WX} {A : List Nat}
def forF (F : Fh) (tg : Tg) (b : Sms) (x : D) (s1 : Ms) : Out := match bindT tg x s1 with
  | some s2 => evSs F b s2
  | none => .no
theorem evS_for {tg : Tg} {it : It} {b : Sms} {M : Ms} : evS F (.fors tg it b) M = (evI F it M).out fun p => forL (forF F tg b) p.1 p.2 := by
  simp only [evS]; rfl
section
variable {a b : Sms} {t : Ex}
theorem snd_ifs (ha : SndSs e S F A a) (hb : SndSs e S F A b) : SndS e S F A (.ifs t a b) where
  ps := fun c X W st o h => by
    simp only [chkS] at h
    unfold kIf at h
    split at h
    · simp only [Bool.and_eq_true] at h
      obtain ⟨⟨⟨h1, h2⟩, h3⟩, h4⟩ := h
      refine PS.imp (ps_if ((sndE t).pt h1 c X W _ o.ok h2) (ha.ps c X W _ o h3) (hb.ps c X W _ o h4)) ?_
      rintro D σ H ⟨w, fp, M, s, h⟩
      simp only [evS] at h
      refine ⟨w, fp, M, s, h.out.imp fun d m1 w1 H1 fp1 x1 s1 h => ?_⟩
      simp only at h
      split at h
      · exact ⟨true, rfl, w1, fp1, m1, s1, h⟩
      · exact ⟨false, rfl, w1, fp1, m1, s1, h⟩
      · exact h.elim
    · cases h
theorem snd_fors {tg : Tg} {it : It} (hb : SndSs e S F A b) : SndS e S F A (.fors tg it b) where
  ps := fun c X W st o h => by
    simp only [chkS] at h
    unfold kFor at h
    split at h
    · simp only [Bool.and_eq_true] at h
      obtain ⟨⟨⟨h1, h2⟩, h3⟩, h4⟩ := h
      refine PS.imp (ps_for o.own o.ok.calm ((sndI it).pi c X W _ _ o.ok h3) (s_tg o.ok h1) (hb.ps c X W _ o h4) ((sndI (e := e) (F := F) it).fs c _ _ h3 _)) ?_
      rintro D σ H ⟨w, fp, M, s, h⟩
      rw [evS_for] at h
      refine ⟨w, fp, M, s, h.out.imp fun ds m1 w1 H1 fp1 x1 s1 h J G Y wk hG hY => ?_⟩
      simp only at h
      generalize hf : forF F tg b = f at h
      refine for_it wk (fun i σ' H' => ∃ wi fpi mi, Xt w1 H1 fp1 wi H' fpi ∧ SR e wi H' fpi mi σ' ∧ Agr A σ σ' ∧ AftS e W A σ' wi H' fpi (forL f (ds.drop i) mi) D) ?_ ?_ ?_ ?_
      · exact ⟨w1, fp1, m1, .refl, s1, .refl _ _, h⟩
      · rintro i σ' H' _ ⟨wi, fpi, mi, xi, si, _⟩
        exact hG H' fun a o q => si.sub a o (xi.le.sub a o q)
      · rintro i v σ' Hc Hc' hi ⟨wi, fpi, mi, xi, si, ag, h⟩ y
        obtain ⟨d, hd, fin⟩ := hY i Hc v Hc' hi (fun a o q => si.sub a o (xi.le.sub a o q)) y
        have hdrop : ds.drop i = d :: ds.drop (i + 1) := by
          obtain ⟨h1, h2⟩ := List.getElem?_eq_some_iff.mp hd
          rw [← h2]; exact List.drop_eq_getElem_cons h1
        rw [hdrop] at h
        unfold forL at h
        obtain ⟨w2, fp2, x2, s2, rd⟩ := si.fin (fin.mono xi.le)
        have hfd : f d mi = match bindT tg d mi with
          | some s2 => evSs F b s2
          | none => Out.no := by rw [← hf]; rfl
        cases hb : bindT tg d mi with
        | none =>
          rw [hb] at hfd
          rw [hfd] at h
          exact h.elim
        | some m2 =>
          rw [hb] at hfd
          rw [hfd] at h
          refine ⟨w2, fp2, mi, d, m2, s2, rd, hb, fun σ2 s3 ag2 => ?_⟩
          have agA := ag2.mono (mem_all h2)
          have h := h.step x2 agA
          refine ⟨w2, fp2, m2, s3, ?_⟩
          simp only at h
          have go : ∀ m3, (∀ w' H' fp' σ', Xt w2 Hc' fp2 w' H' fp' → SR e w' H' fp' m3 σ' → Agr A σ2 σ' → AftS e W A σ' w' H' fp' (forL f (ds.drop (i + 1)) m3) D) → ∀ w' H' fp' σ', Xt w2 Hc' fp2 w' H' fp' → SR e w' H' fp' m3 σ' → Agr A σ2 σ' →
              ∃ wi fpi mi, Xt w1 H1 fp1 wi H' fpi ∧ SR e wi H' fpi mi σ' ∧ Agr A σ σ' ∧ AftS e W A σ' wi H' fpi (forL f (ds.drop (i + 1)) mi) D :=
            fun m3 k w' H' fp' σ' x s' a' => ⟨w', fp', m3, (xi.trans x2).trans x, s', (ag.trans agA).trans a', k w' H' fp' σ' x s' a'⟩
          cases hr : evSs F b m2 with
          | no => rw [hr] at h; exact h
          | nx m3 =>
            rw [hr] at h
            exact go m3 fun w' H' fp' σ' x s' a' => AftS.step h x a'
          | ct m3 =>
            rw [hr] at h
            exact go m3 fun w' H' fp' σ' x s' a' => AftS.step h x a'
          | bk m3 => rw [hr] at h; exact h
          | rt d' own m3 => rw [hr] at h; exact h
          | ex ev m3 => rw [hr] at h; exact h
      · rintro σ' H' ⟨wi, fpi, mi, xi, si, ag, h⟩
        rw [List.drop_length] at h
        exact AftS.nxt h si
    · cases h
theorem snd_whl (hb : SndSs e S F A b) : SndS e S F A (.whl t b) where
  ps := fun c X W st o h => by
    simp only [chkS] at h
    unfold kWhl at h
    split at h
    · simp only [Bool.and_eq_true] at h
      obtain ⟨⟨h1, h2⟩, h3⟩ := h
      refine PS.imp (ps_while o.own ((sndE t).pt h1 c X W _ o.ok h2) (hb.ps c X W _ o h3)) ?_
      rintro D σ H ⟨w, fp, M, s, h⟩
      simp only [evS] at h
      refine ⟨fun n σ' H' => ∃ wi fpi mi, SR e wi H' fpi mi σ' ∧ AftS e W A σ' wi H' fpi (whlN (fun s1 => evE F t s1) (fun s1 => evSs F b s1) n mi) D, ⟨F.wf, w, fp, M, s, h⟩, ?_⟩
      rintro n σ' H' ⟨wi, fpi, mi, si, h⟩
      cases n with
      | zero => exact h.elim
      | succ n =>
        unfold whlN at h
        refine ⟨wi, fpi, mi, si, ?_⟩
        cases hr : evE F t mi with
        | no => rw [hr] at h; exact h.elim
        | ex ev m' => rw [hr] at h; exact fun w' H2 fp' cls xd x s' q => h w' H2 fp' σ' cls xd x s' (.refl _ _) q
        | ok p =>
          obtain ⟨d, m1⟩ := p
          rw [hr] at h
          intro w1 H1 fp1 x1 s1
          cases d with
          | bl k =>
            refine ⟨k, rfl, ?_⟩
            cases k with
            | false => exact h w1 H1 fp1 σ' x1 s1 (.refl _ _)
            | true =>
              have h : AftS e W A σ' wi H' fpi (match evSs F b m1 with
                | .nx s' => whlN (fun s1 => evE F t s1) (fun s1 => evSs F b s1) n s'
                | .ct s' => whlN (fun s1 => evE F t s1) (fun s1 => evSs F b s1) n s'
                | .bk s' => .nx s'
                | o => o) D := h
              rw [if_pos rfl]
              have h := h.step x1 (.refl _ _)
              refine ⟨fun σ2 H2 => ∃ wi fpi mi, SR e wi H2 fpi mi σ2 ∧ AftS e W A σ2 wi H2 fpi (whlN (fun s1 => evE F t s1) (fun s1 => evSs F b s1) n mi) D, fun σ2 H2 z => ⟨n, Nat.lt_succ_self n, z⟩, w1, fp1, m1, s1, ?_⟩
              cases hq : evSs F b m1 with
              | no => rw [hq] at h; exact h
              | nx m3 => rw [hq] at h; exact fun w' H2 fp' σ2 x s' a' => ⟨w', fp', m3, s', AftS.step h x a'⟩
              | ct m3 => rw [hq] at h; exact fun w' H2 fp' σ2 x s' a' => ⟨w', fp', m3, s', AftS.step h x a'⟩
              | bk m3 => rw [hq] at h; exact h
              | rt d' own m3 => rw [hq] at h; exact h
              | ex ev m3 => rw [hq] at h; exact h
          | _ => exact h.elim
    · cases h
theorem snds_nilS : SndSs e S F A .nil where
  ps := fun c X W st o h => by
    simp only [chkSs] at h
    unfold kNilS at h
    split at h
    · refine PSs.imp pss_nil ?_
      rintro D σ H ⟨w, fp, M, s, h⟩
      have h : AftS e W A σ w H fp (.nx M) D := h
      exact h.nxt s
    · cases h
theorem snds_consS {m : Sm} (ha : SndS e S F A m) (hb : SndSs e S F A a) : SndSs e S F A (.cons m a) where
  ps := fun c X W st o h => by
    simp only [chkSs] at h
    unfold kConsS at h
    split at h
    · simp only [Bool.and_eq_true] at h
      refine PSs.imp (pss_cons (ha.ps c X W _ o h.1) (hb.ps c X W _ o h.2)) ?_
      rintro D σ H ⟨w, fp, M, s, h⟩
      simp only [evSs, yCons] at h
      refine ⟨w, fp, M, s, ?_⟩
      cases hr : evS F m M with
      | no => rw [hr] at h; exact h
      | nx m3 => rw [hr] at h; exact fun w' H2 fp' σ2 x s' a' => ⟨w', fp', m3, s', AftS.step h x a'⟩
      | ct m3 => rw [hr] at h; exact h
      | bk m3 => rw [hr] at h; exact h
      | rt d' own m3 => rw [hr] at h; exact h
      | ex ev m3 => rw [hr] at h; exact h
    · cases h
end
end Mi
/-! Part F7: lists of lists of their own; the whole of statements. -/
namespace Mi
open PySem PySem.Spec L2
open PyProof.Rows hiding St
variable {e : En} {S : Tx} {F : Fh} {c : CC} {X : Cx} {W : WX} {A : List Nat}
theorem Dps.snoc {w : Wd} {H : Hp} {ds : List D} {b : Addr} {us : List V} (hb : H b = some (.lst us)) (r : Rps e w ds us) : ∀ {rs : List (List D)} {ws : List V} {fr : List Addr}, Dps e w H rs ws fr → Dps e w H (rs ++ [ds]) (ws ++ [.ref b]) (fr ++ [b])
  | _, _, _, .nil => .cons hb r .nil
  | _, _, _, .cons h q t => .cons h q (t.snoc hb r)
theorem SR.ow_dp {w : Wd} {H : Hp} {fp : Addr → Prop} {ss : List Sl} {ob : List Ob} {xs : St} (s : SR e w H fp ⟨.ow (.lst []) :: ss, ob⟩ xs) : SR e w H fp ⟨.dp [] :: ss, ob⟩ xs := by
  obtain ⟨fs, fo, h1, h2, h3, h4⟩ := s.parts
  cases h1 with
  | @cons _ x f fs _ xs r t =>
  cases r with
  | @ow a _ ws z r =>
  cases r
  exact ⟨s.sub, s.dis, s.tab, [a] ++ fs, fo, SlsR.cons (f := [a]) (.dp z .nil) t, h2, h3, h4⟩
theorem SR.growD {w : Wd} {H : Hp} {fp : Addr → Prop} {ss : List Sl} {ob : List Ob} {xs : St} {rs : List (List D)} {ds : List D} {p : Addr} {v : V} (s : SR e w H fp ⟨.dp rs :: .ow (.lst ds) :: ss, ob⟩ (some (.ref p) :: some v :: xs)) :
    ∃ ws, H p = some (.lst ws) ∧ ws.length = rs.length ∧ Xt w H fp w (upd H p (.lst (ws ++ [v]))) fp ∧ SR e w (upd H p (.lst (ws ++ [v]))) fp ⟨.dp (rs ++ [ds]) :: ss, ob⟩ (some (.ref p) :: xs) := by
  obtain ⟨fs, fo, h1, h2, h3, h4⟩ := s.parts
  cases h1 with
  | @cons _ _ f fs _ _ r t =>
  cases r with
  | @dp _ _ ws fr z r =>
  cases t with
  | @cons _ _ f2 fs2 _ _ r2 t =>
  cases r2 with
  | @ow b _ us z2 r2 =>
  have fa : fp p := h4 p (by simp)
  have ne : ∀ c, c ∈ fr ∨ c = b ∨ c ∈ fs2 ∨ c ∈ fo → c ≠ p := fun c hc q => by
    subst q
    simp only [List.mem_append, List.nodup_append, List.mem_singleton, List.nodup_cons, List.mem_cons, List.cons_append] at h3
    grind
  refine ⟨ws, z, r.len.symm, ⟨.refl w, fun c o h n _ => (upd_ne (fun q : c = p => n (by rw [q]; exact fa))).trans h, fun c h => .inl h, fun _ _ h => .inl h⟩, fun c o h => ?_, s.dis, ?_,
    (p :: (fr ++ [b])) ++ fs2, fo, SlsR.cons (f := p :: (fr ++ [b])) (.dp upd_same ?_) (t.mono (.refl w) fun c hc o h => by rw [upd_ne (ne c (by simp [hc]))]; exact h), h2.mono (.refl w) fun c hc o h => by rw [upd_ne (ne c (by simp [hc]))]; exact h, ?_, fun c hc => h4 c ?_⟩
  · have : c ≠ p := fun q => by
      rw [q, s.dis p fa] at h; cases h
    rw [upd_ne this]; exact s.sub c o h
  · refine tabs_keep s.tab fun c o h n => ?_
    refine (upd_ne fun q => ?_).trans h
    subst q; rw [z] at h; cases h; exact n (.lst _)
  · refine Dps.snoc (by rw [upd_ne (ne b (by simp))]; exact z2) r2 (r.mono (.refl w) fun c hc o h => by rw [upd_ne (ne c (by simp [hc]))]; exact h)
  · simp only [List.mem_append, List.nodup_append, List.mem_singleton, List.nodup_cons, List.mem_cons, List.cons_append] at h3 ⊢
    grind
  · simp only [List.mem_append, List.mem_singleton, List.mem_cons, List.cons_append] at hc ⊢
    grind
theorem mulSeq_one (d : D) (m : Int) : mulSeq [d] m = List.replicate m.toNat d := by
  unfold mulSeq
  induction m.toNat with
  | zero => rfl
  | succ n ih => simp [List.replicate_succ, ih]
theorem ev_mat {k m : Int} {n : Nat} {M : Ms} (h : M.sl[n]? = some (.va (.int m))) (h0 : 0 ≤ m) (h1 : m ≤ 1000) : evE F (matE k n) M = .ok (.lst (List.replicate m.toNat (.int k)), M) := by
  have hs : isSet M n = true := by unfold isSet; rw [h]
  have hd : Mi.dr M (.sl n) = some (.int m) := by unfold Mi.dr; simp only [h]
  have hl : (decide (-(2 ^ 63 : Int) ≤ m) && decide (m < 2 ^ 63) && decide (([D.int k] : List D).length * m.toNat ≤ sizeLine)) = true := by
    have : (1000 : Nat) ≤ sizeLine := by decide
    simp only [Bool.and_eq_true, decide_eq_true_eq, List.length_singleton, Nat.one_mul]
    omega
  have h1 : ([D.int k] : List D).length ≤ sizeLine := (by decide : 1 ≤ sizeLine)
  unfold matE
  simp only [evE, opd, evEs, xBin, xLst, xCons, R.bnd, if_pos h1, hs, if_true, Mi.op2, Mi.dr, h, opB, mulD, if_pos hl, lift, mulSeq_one]
theorem ev_rngN {m : Int} {n : Nat} {M : Ms} (h : M.sl[n]? = some (.va (.int m))) (h0 : 0 ≤ m) (h1 : m ≤ 1000) : evI F (.rng1 (.nm n)) M = .ok (rngD 0 m, M) := by
  have hr : rngOk m = true := by
    unfold rngOk
    simp only [Bool.and_eq_true, decide_eq_true_eq]
    omega
  simp only [evI, evE, xRng1, rdN, h, R.bnd, hr, if_true]
theorem rest_one {o : Nat} {M : Ms} {x y : Sl} : rest [o] M ((M.put o x).put o y) = M := by
  have h := rest_self M [o]
  rw [rest_cons] at h ⊢
  have e1 : rest [] M ((M.put o x).put o y) = (M.put o x).put o y := rfl
  have e2 : rest [] M M = M := rfl
  rw [e1, put_put, put_put]
  rw [e2] at h
  exact h
theorem snd_mat (i : Nat) (k : Int) (n v : Nat) : SndS e S F A (.mat i k n v) where
  ps := fun c X W st o h => by
    simp only [chkS] at h
    unfold kAsg at h
    split at h
    · simp only [Bool.and_eq_true] at h
      obtain ⟨h1, h2⟩ := h
      obtain ⟨z, pp, rfl, h3, h4⟩ := kLv_nm h1
      obtain ⟨tt, ht, hown, q⟩ := s_compA (te := tF e F W0 (matE k n)) (fun c X y o h => (sndE _).pf rfl (fun _ _ z => by cases z) c X W0 y o h) o.ok h2 h3
      refine PS.imp q ?_
      rintro E σ H ⟨w, fp, M, s, h⟩
      simp only [evS, yMat] at h
      split at h
      · rename_i m hn
        split at h
        · rename_i hc
          simp only [Bool.and_eq_true, decide_eq_true_eq] at hc
          obtain ⟨⟨⟨m0, m1⟩, hO⟩, hvn⟩ := hc
          have hev := ev_rngN (F := F) hn m0 m1
          refine ⟨w, fp, M, s, ?_⟩
          rw [hev]
          intro w1 H1 fp1 x1 s1 J G Y wk hG hY p hp
          have hF := s1.ownF hO
          refine lc_it wk (fun j Hc => ∃ wi fpi, Xt w1 H1 fp1 wi Hc fpi ∧ SR e wi Hc fpi ⟨.dp (List.replicate j (List.replicate m.toNat (.int k))) :: M.sl, M.ob⟩ (some (.ref p) :: σ)) ?start ?still ?turn ?done
          case start =>
            obtain ⟨x2, s2⟩ := s1.addO hp .nil
            exact ⟨w1, _, x2, s2.ow_dp⟩
          case still =>
            rintro j Hc _ ⟨wi, fpi, xi, si⟩
            exact hG Hc fun a o q => si.sub a o (xi.le.sub a o q)
          case done =>
            rintro Hc ⟨wi, fpi, xi, si⟩
            have e1 : (rngD 0 m).length = m.toNat := by rw [rngD_len, Int.sub_zero]
            rw [e1] at si
            exact h wi Hc fpi _ (x1.trans xi) (SR.storeA (m := M) si) (.set h4)
          case turn =>
            rintro j u Hc Hc' hj ⟨wi, fpi, xi, si⟩ y
            obtain ⟨d, hd, fin⟩ := hY j Hc u Hc' hj (fun a o q => si.sub a o (xi.le.sub a o q)) y
            obtain ⟨fpA, sA, fr⟩ := SR.frameF (ss2 := [.dp (List.replicate j (List.replicate m.toNat (.int k)))]) (xs2 := [some (.ref p)]) (ss1 := M.sl) (xs1 := σ) (ob := M.ob) si rfl
            have s2 := sA.wipe [v]
            obtain ⟨w2, fp2, x2, s2, rd⟩ := s2.fin (fin.mono xi.le)
            refine ⟨w2, fp2, wipeM [v] M, d, (M.put v .un).put v (.va d), s2, rd, rfl, fun σ2 s3 ag => ?_⟩
            have ag2 : Agr [v] σ σ2 := (wipe_agr σ [v]).trans (ag.mono fun i hi => by simpa [tgs] using hi)
            refine ⟨ag2.wipe, ht σ2 Hc' w2 fp2 _ true _ _ s3 rfl fun w3 H3 fp3 x3 s4 => ?_⟩
            simp only [if_true]
            refine ⟨w3, fp3, _, s4, ?_⟩
            have hn2 : ((M.put v .un).put v (.va d)).sl[n]? = some (.va (.int m)) := by
              simp only [Ms.put]
              rw [List.getElem?_set_ne hvn, List.getElem?_set_ne hvn]
              exact hn
            rw [ev_mat hn2 m0 m1]
            intro w4 H4 fp4 vy x4 s5
            obtain ⟨fpB, sB, frB⟩ := SR.frameF (ss2 := [.ow (.lst (List.replicate m.toNat (.int k)))]) (xs2 := [some vy]) (ss1 := ((M.put v .un).put v (.va d)).sl) (xs1 := σ2) (ob := M.ob) s5 rfl
            have sR := SR.rest (m := (M.put v .un).put v (.va d)) sB (hF.mono (((xi.le.trans x2.le).trans x3.le).trans x4.le)) ag2
            rw [rest_one] at sR
            obtain ⟨fpC, xC, sC⟩ := frB w4 H4 fpB M.sl M.ob σ .refl sR
            obtain ⟨fpD, xD, sD⟩ := fr w4 H4 fpC _ _ _ (((x2.trans x3).trans x4).trans xC) sC
            obtain ⟨ws, e1, e2, x5, s6⟩ := SR.growD sD
            refine ⟨ws, e1, ?_, w4, fpD, (xi.trans xD).trans x5, ?_⟩
            · rw [e2, List.length_replicate]
              have := hj
              rw [rngD_len, Int.sub_zero] at this
              have : (1000 : Nat) < sizeLine := by decide
              omega
            · rw [List.replicate_succ']
              exact s6
        · exact h.elim
      · exact h.elim
    · cases h
mutual
theorem sndS : ∀ m : Sm, SndS e S F A m
  | .asg (.nm i fr) a => snd_asgN i fr a
  | .asg (.ix i k) a => ⟨fun c X W st o h => s_asgL o (fun _ _ z => by cases z) h⟩
  | .asg (.ix2 i j k) a => ⟨fun c X W st o h => s_asgL o (fun _ _ z => by cases z) h⟩
  | .asg (.kx i j) a => ⟨fun c X W st o h => s_asgL o (fun _ _ z => by cases z) h⟩
  | .asg2 (.nm i fi) (.nm j fj) a b => snd_par i j fi fj a b
  | .asg2 (.nm i fi) (.ix j k) a b => snd_two (fun _ _ _ _ z => by cases z.2) a b
  | .asg2 (.nm i fi) (.ix2 j k l) a b => snd_two (fun _ _ _ _ z => by cases z.2) a b
  | .asg2 (.ix j k) l a b => snd_two (fun _ _ _ _ z => by cases z.1) a b
  | .asg2 (.ix2 i j k) l a b => snd_two (fun _ _ _ _ z => by cases z.1) a b
  | .asg2 (.nm i fi) (.kx j k) a b => snd_two (fun _ _ _ _ z => by cases z.2) a b
  | .asg2 (.kx i j) l a b => snd_two (fun _ _ _ _ z => by cases z.1) a b
  | .asg3 i j l fi fj fl a b d => snd_par3 i j l fi fj fl a b d
  | .unp is a => snd_unp is a
  | .mat i k n v => snd_mat i k n v
  | .app i a => snd_app i a
  | .exp a => snd_exp a
  | .ret fr a => snd_ret fr a
  | .retN => snd_retN
  | .ifs t a b => snd_ifs (sndSs a) (sndSs b)
  | .fors tg it b => snd_fors (sndSs b)
  | .whl t b => snd_whl (sndSs b)
  | .pas => snd_pas
  | .brk => snd_brk
  | .cnt => snd_cnt
  | .rai k => snd_rai k
  | .bad => ⟨fun c X W st o h => ⟨fun pins s σ H D I q => by
    obtain ⟨w, fp, M, _, h⟩ := q
    have h : False := h
    exact h.elim⟩⟩
theorem sndSs : ∀ m : Sms, SndSs e S F A m
  | .nil => snds_nilS
  | .cons a r => snds_consS (sndS a) (sndSs r)
end
end Mi
/-! Part G: functions: how arguments bind. -/
namespace Mi
open PySem PySem.Spec L2
open PyProof.Rows hiding St
theorem zip_get : ∀ {ns : List Str} {us : List Value}, us.length = ns.length → ∀ n ∈ ns, ((ns.zip us).lookup n).isNone = false
  | [], _, _, n, h => by simp at h
  | m :: ns, [], hl, n, h => by simp at hl
  | m :: ns, u :: us, hl, n, h => by
    rw [List.zip_cons_cons, List.lookup_cons]
    by_cases z : n = m
    · subst z; simp
    · rw [show (n == m) = false by simpa using z]
      exact zip_get (by simpa using hl) n ((List.mem_cons.mp h).resolve_left z)
theorem fm_congr {α β : Type} {f g : α → Option β} : ∀ {l : List α}, (∀ a ∈ l, f a = g a) → l.filterMap f = l.filterMap g
  | [], _ => rfl
  | a :: l, h => by
    rw [List.filterMap_cons, List.filterMap_cons, h a (by simp), fm_congr fun b hb => h b (by simp [hb])]
theorem zip_all : ∀ {ns : List Str} {us : List Value}, us.length = ns.length → ns.Nodup → (ns.filterMap fun n => ((ns.zip us).lookup n).map (n, ·)) = ns.zip us
  | [], us, hl, _ => by cases us <;> simp at hl ⊢
  | m :: ns, [], hl, _ => by simp at hl
  | m :: ns, u :: us, hl, nd => by
    obtain ⟨n1, n2⟩ := List.nodup_cons.mp nd
    have ih := zip_all (ns := ns) (us := us) (by simpa using hl) n2
    rw [List.zip_cons_cons, List.filterMap_cons]
    simp only [List.lookup_cons, beq_self_eq_true, Option.map_some]
    congr 1
    refine (fm_congr fun n hn => ?_).trans ih
    have z : (n == m) = false := by
      have : n ≠ m := fun q => n1 (q ▸ hn)
      simpa using this
    simp only [z]
def plainP (p : Arguments) (ps : List Str) : Bool := p.posonlyargs.isEmpty && p.vararg.isNone && p.kwonlyargs.isEmpty && p.kwarg.isNone && decide (p.args.map (·.arg) = ps) && decide ps.Nodup
theorem bind_plain {x qual : Str} {params : Arguments} {body : List Stmt} {scope : Scope} {ps : List Str} (h : plainP params ps = true) (kV doc pm : Value) (an : Option Addr) (cdv ct : Value) (us : List Value) (hl : us.length = ps.length) :
    bindArgs (PySem.W.fnOf x qual params body scope .none kV doc pm an cdv ct) ⟨us, []⟩ = pure (ps.zip us) := by
  unfold plainP at h
  simp only [Bool.and_eq_true, List.isEmpty_iff, Option.isNone_iff_eq_none, decide_eq_true_eq] at h
  obtain ⟨⟨⟨⟨⟨h1, h2⟩, h3⟩, h4⟩, h5⟩, h6⟩ := h
  unfold bindArgs PySem.W.fnOf
  have e1 : seqItems? Value.none = pure none := rfl
  have e2 : (ps.filter fun n => ((ps.zip us).lookup n).isNone) = [] := List.filter_eq_nil_iff.mpr fun n hn => by rw [zip_get hl n hn]; decide
  have e3 := zip_all hl h6
  simp [h1, h2, h3, h4, h5, hl, e1, e2, e3]
end Mi
/-! Part G: functions. -/
namespace Mi
open PySem PySem.Spec L2
open PyProof.Rows hiding St
variable {e : En} {S : Tx}
/-- the slots that a def may store anew -/
def slotsA (f : FnI) : List Nat := (List.range f.n).filter fun i => decide (f.np ≤ i) || f.asg.getD i false
def stB (sc : Scope) (x : Str) : Bool := match sc.names.lookup x with
  | some .local => true
  | some .cell => true
  | _ => false
def kindB (sc : Scope) : Bool := match sc.kind with
  | .function => true
  | _ => false
def notFree : NameKind → Bool
  | .free => false
  | _ => true
def scopeB (N ps : List Str) (sc : Scope) : Bool := kindB sc && !sc.isCoroutine && !sc.isGenerator && decide N.Nodup && ps.all (stB sc) && sc.names.all fun y => notFree y.2
def chkFn (S : Tx) (d : He.DefD) (N : List Str) (f : FnI) : Bool := scopeB N (N.take f.np) d.scope && plainP d.params (N.take f.np) && decide (d.qual = d.name) && decide (N.length = f.n) && decide (f.np ≤ f.n) && chkSs S (slotsA f) ⟨N, d.scope, stB d.scope, S.l.contains d.name⟩ f.body d.body
theorem stB_loc {sc : Scope} {x : Str} (h : stB sc x = true) : sc.names.lookup x = some .local ∨ sc.names.lookup x = some .cell := by
  unfold stB at h
  split at h
  · exact .inl (by assumption)
  · exact .inr (by assumption)
  · cases h
theorem scope_of {N : List Str} {np : Nat} {sc : Scope} (h : scopeB N (N.take np) sc = true) : FnScope N (N.take np) sc := by
  unfold scopeB at h
  simp only [Bool.and_eq_true, Bool.not_eq_true', decide_eq_true_eq] at h
  obtain ⟨⟨⟨⟨⟨h1, h2⟩, h3⟩, h4⟩, h5⟩, h6⟩ := h
  refine ⟨?_, h2, h3, h4, ?_, fun x hx => stB_loc (List.all_eq_true.mp h5 x hx), fun y hy z => ?_⟩
  · unfold kindB at h1
    split at h1
    · assumption
    · cases h1
  · rw [List.length_take]
    by_cases q : np ≤ N.length
    · rw [Nat.min_eq_left q]
    · rw [Nat.min_eq_right (by omega), List.take_length, List.take_of_length_le (by omega)]
  · have := List.all_eq_true.mp h6 y hy
    rw [z] at this
    cases this
theorem outs_sls {w : Wd} {H : Hp} : ∀ {as : List Bool} {ss : List Sl} {xs ys : St} {fs : List Addr}, SlsR e w H ss xs fs → ys.length = xs.length → (∀ i, as.getD i false = false → ys[i]? = xs[i]?) → ∃ fs', SlsR e w H (outsF as ss) ys fs' ∧ ∀ fo, (fs ++ fo).Nodup → (fs' ++ fo).Nodup ∧ ∀ a ∈ fs', a ∈ fs
  | [], ss, xs, ys, fs, h, hl, hy => by
    have e1 : ys = xs := List.ext_getElem? fun i => hy i (by simp)
    subst e1
    have e2 : outsF [] ss = ss := by cases ss <;> rfl
    rw [e2]
    exact ⟨fs, h, fun fo nd => ⟨nd, fun _ h => h⟩⟩
  | b :: as, [], _, ys, _, .nil, hl, hy => by
    have e1 : ys = [] := by cases ys <;> simp at hl ⊢
    subst e1
    have e2 : outsF (b :: as) [] = [] := by cases b <;> rfl
    rw [e2]
    exact ⟨[], .nil, fun fo nd => ⟨nd, fun _ h => h⟩⟩
  | b :: as, s :: ss, x :: xs, [], _, .cons r t, hl, hy => by simp at hl
  | b :: as, s :: ss, x :: xs, y :: ys, _, .cons (f := f) (fs := fs) r t, hl, hy => by
    obtain ⟨fs', h1, h2⟩ := outs_sls (as := as) (ys := ys) t (by simpa using hl) fun i hi => by simpa using hy (i + 1) (by simpa using hi)
    cases b with
    | true =>
      refine ⟨[] ++ fs', SlsR.cons (f := []) .un h1, fun fo nd => ?_⟩
      have nd2 : (fs ++ fo).Nodup := by simp only [List.nodup_append, List.mem_append] at nd ⊢; grind
      obtain ⟨k1, k2⟩ := h2 fo nd2
      exact ⟨by simpa using k1, fun a ha => by simp at ha ⊢; exact .inr (k2 a ha)⟩
    | false =>
      have e1 : y = x := by simpa using hy 0 (by simp)
      subst e1
      refine ⟨f ++ fs', SlsR.cons r h1, fun fo nd => ?_⟩
      have nd2 : (fs ++ fo).Nodup := by simp only [List.nodup_append, List.mem_append] at nd ⊢; grind
      obtain ⟨k1, k2⟩ := h2 fo nd2
      refine ⟨?_, fun a ha => ?_⟩
      · simp only [List.nodup_append, List.mem_append] at nd k1 ⊢; grind
      · simp only [List.mem_append] at ha ⊢; exact ha.imp id (k2 a)
/-- the result ahead, what is handed back of the parameters -/
theorem SR.outs {w : Wd} {H : Hp} {fp : Addr → Prop} {s0 : Sl} {x0 : Option V} {ss : List Sl} {ob : List Ob} {xs ys : St} {as : List Bool} (s : SR e w H fp ⟨s0 :: ss, ob⟩ (x0 :: xs)) (hl : ys.length = xs.length) (hy : ∀ i, as.getD i false = false → ys[i]? = xs[i]?) : SR e w H fp ⟨s0 :: outsF as ss, ob⟩ (x0 :: ys) := by
  obtain ⟨fs, fo, h1, h2, h3, h4⟩ := s.parts
  cases h1 with
  | @cons _ _ f fs _ _ r t =>
  obtain ⟨fs', k1, k2⟩ := outs_sls t hl hy
  obtain ⟨n1, n2⟩ := k2 fo (by simp only [List.nodup_append, List.mem_append] at h3 ⊢; grind)
  refine ⟨s.sub, s.dis, s.tab, f ++ fs', fo, SlsR.cons r k1, h2, ?_, fun a ha => h4 a ?_⟩
  · simp only [List.nodup_append, List.mem_append] at h3 n1 ⊢; grind
  · simp only [List.mem_append] at ha ⊢; grind
theorem notA {f : FnI} {i : Nat} (h : i < f.np) (ha : f.asg.getD i false = false) : i ∉ slotsA f := fun z => by
  unfold slotsA at z
  have := (List.mem_filter.mp z).2
  rw [ha] at this
  simp at this
  omega
/-- behind a body -/
theorem SR.leave {w : Wd} {H : Hp} {fp : Addr → Prop} {s0 : Sl} {v : V} {m : Ms} {vs : List V} {N : List Str} {f : FnI} {σ' : St} (s : SR e w H fp ⟨s0 :: m.sl, m.ob⟩ (some v :: σ')) (hn : vs.length = f.np) (hN : f.np ≤ N.length) (ag : Agr (slotsA f) (L2.start N vs) σ') :
    SR e w H fp ⟨s0 :: outsF f.asg (m.sl.take f.np), m.ob⟩ (some v :: vs.map some) ∧ (outsF f.asg (m.sl.take f.np)).length = f.np := by
  have hl : m.sl.length = σ'.length := by simpa using s.len
  have hσ : σ'.length = N.length := by
    rw [ag.1]; unfold L2.start; simp; omega
  have s1 : SR e w H fp ⟨(s0 :: m.sl.take f.np) ++ m.sl.drop f.np, m.ob⟩ ((some v :: σ'.take f.np) ++ σ'.drop f.np) := by
    simpa using s
  have s2 := SR.dropB s1 (by simp [hl])
  have s3 := SR.outs (as := f.asg) (ys := vs.map some) s2 (by simp [hn]; omega) fun i hi => by
    by_cases q : i < f.np
    · rw [List.getElem?_take_of_lt q, ag.2 i (notA q hi)]
      unfold L2.start
      rw [List.getElem?_append_left (by simp; omega)]
    · rw [List.getElem?_eq_none (by simp; omega), List.getElem?_eq_none (by simp; omega)]
  refine ⟨s3, ?_⟩
  have := s3.len
  simp at this
  omega
def fhOf (Γ : List FnI) (wf n : Nat) : Fh := ⟨fun k => (Γ[k]?.map FnI.asg).getD [], callM Γ wf n, callL Γ wf n, decide (2 ≤ n), wf⟩
/-- what the text and the heap behind the top give -/
structure Facts (e : En) (S : Tx) (ds : List He.DefD) (Ns : List (List Str)) (Γ : List FnI) : Prop where
  fn : ∀ (k : Nat) (x : Str), S.f[k]? = some x → ∃ d N f fd, Γ[k]? = some f ∧ x = d.name ∧ chkFn S d N f = true ∧ FunD e.K d.name d.qual d.params d.body d.scope [] [] (e.fa k) fd ∧ e.mg x = some (.ref (e.fa k))
  bn : ∀ x ∈ bnames, e.mg x = none
  gi : ∀ (k : Nat) (x : Str) (i : Int), S.g[k]? = some (x, i) → ∃ t, e.mg x = some (.int i t)
  ex : ∀ (c : Nat) (x : Str), S.c[c]? = some x → e.mg x = some (.ref (e.ca c)) ∧ PySem.W.excIn e.K (e.ca c) He.veBase "ValueError.__new__" = true ∧ PySem.W.keepIn e.K (.ref (e.ca c)) = true ∧ PySem.W.subIn e.K (.ref (e.ca c)) (.type "BaseException") = some true ∧ PySem.W.typeIn e.K (.ref (e.ca c)) = some (.type "type")
  wrd : ∀ (k : Nat) (x : Str) (wd : Wdf), S.w[k]? = some (x, wd) → WordF e x wd
  lam : ∀ (k : Nat) (x : Str), S.f[k]? = some x → x ∈ S.l → ∃ cc P, (∀ oc od fd osl, e.K.lookup (e.fa k) = some ⟨oc, od, .func fd, osl⟩ → fd.code = .ref cc) ∧ LamX.TabB e.base e.mg cc P ∧ (P, (envOfC x ⟨.function, [], false, false, []⟩ 0 0 .none).qual ++ "<lambda>") ∈ e.T ∧ ∀ p ∈ e.T, p.1 = P → p.2 = (envOfC x ⟨.function, [], false, false, []⟩ 0 0 .none).qual ++ "<lambda>"
theorem callM_eq {Γ : List FnI} {wf n k : Nat} {f : FnI} {ps : List Sl} {ob : List Ob} (h : Γ[k]? = some f) : callM Γ wf (n + 1) k ps ob = runF (fhOf Γ wf n) f ps ob := by
  show (match Γ[k]? with
    | some f => runF (fhOf Γ wf n) f ps ob
    | none => .no) = _
  rw [h]
theorem callM_out {Γ : List FnI} {wf n k : Nat} {ps : List Sl} {ob : List Ob} (h : Γ[k]? = none) : callM Γ wf (n + 1) k ps ob = .no := by
  show (match Γ[k]? with
    | some f => runF (fhOf Γ wf n) f ps ob
    | none => .no) = _
  rw [h]
theorem callL_eq {Γ : List FnI} {wf n : Nat} : callL Γ wf (n + 2) = callM Γ wf n := rfl
theorem callM_len {Γ : List FnI} {wf n k : Nat} {f : FnI} (hf : Γ[k]? = some f) {args : List Sl} {ob : List Ob} (h : callM Γ wf n k args ob ≠ .no) : args.length = f.np := by
  cases n with
  | zero => exact (h rfl).elim
  | succ n =>
    rw [callM_eq hf] at h
    unfold runF at h
    by_cases q : (args.length == f.np) = true
    · simpa using q
    · rw [if_neg q] at h; exact (h rfl).elim
theorem takeLen {N : List Str} {np : Nat} (h : np ≤ N.length) : (N.take np).length = np := by
  rw [List.length_take]; omega
theorem fn_ok {ds : List He.DefD} {Ns : List (List Str)} {Γ : List FnI} {wf : Nat} (ft : Facts e S ds Ns Γ) (n : Nat) : ∀ (k : Nat) (d : He.DefD) (N : List Str) (f : FnI) (fd : FuncData), Γ[k]? = some f → S.f[k]? = some d.name → chkFn S d N f = true → FunD e.K d.name d.qual d.params d.body d.scope [] [] (e.fa k) fd →
    FnOk e.P e.w e.K e.mg e.base (L2.CX e.P e.w) n (e.fa k) fd (N.take f.np) (spF e (fhOf Γ wf n) f.np k) := by
  induction n using Nat.strongRecOn with
  | ind n ih =>
  intro k d N f fd hf hkn hc F
  cases n with
  | zero => exact ⟨fun vs H Q E ⟨_, w, fp, ps, ob, _, h⟩ => h.elim, fun A outer s H args us vs Q E _ _ _ _ ⟨_, w, fp, ps, ob, _, h⟩ => h.elim⟩
  | succ n =>
    have hc0 := hc
    unfold chkFn at hc
    simp only [Bool.and_eq_true, decide_eq_true_eq] at hc
    obtain ⟨⟨⟨⟨⟨h1, h2⟩, h3⟩, h4⟩, h5⟩, h6⟩ := hc
    have hN : f.np ≤ N.length := by omega
    rw [h3] at F
    obtain ⟨oc, od, dV, kV, doc, pm, an, cdv, ct, osl, efd, lk, hcd, _, _⟩ := F.ex
    have cal1 : ∀ (m : Nat), m < n + 1 → ∀ (k' : Nat) (x : Str), S.f[k']? = some x → ∃ fd ps, FnOk e.P e.w e.K e.mg e.base (L2.CX e.P e.w) m (e.fa k') fd ps (spF e (fhOf Γ wf m) ps.length k') ∧ Binds e.K fd ps [] ∧ e.mg x = some (.ref (e.fa k')) ∧ PySem.W.keepIn e.K (.ref (e.fa k')) = true ∧ ∀ args ob, (fhOf Γ wf m).run k' args ob ≠ .no → args.length = ps.length := fun m hm k' x hx => by
      obtain ⟨d', N', f', fd', g1, g2, g3, g4, g5⟩ := ft.fn k' x hx
      have ih := ih m hm k' d' N' f' fd' g1 (by rw [hx, g2]) g3 g4
      have g6 := g3
      unfold chkFn at g6
      simp only [Bool.and_eq_true, decide_eq_true_eq] at g6
      obtain ⟨⟨⟨⟨⟨a1, a2⟩, a3⟩, a4⟩, a5⟩, a6⟩ := g6
      have hN' : f'.np ≤ N'.length := by omega
      refine ⟨fd', N'.take f'.np, by rw [takeLen hN']; exact ih, FunD.bindsN g4 (bind_plain a2), g5, g4.kp, fun args ob hh => ?_⟩
      rw [takeLen hN']
      exact callM_len g1 hh
    rw [efd]
    refine fn_of (by rw [← efd]; exact lk) hcd (scope_of h1) (fun vs H Q E h => by rw [takeLen hN]; exact h.1) fun A outer s H vs Q E hr h => ?_
    obtain ⟨hn, w, fp, ps, ob, sr, h⟩ := h
    have hps : ps.length = f.np := by have := sr.len; simp at this; omega
    have cal : ∀ (k' : Nat) (x : Str), S.f[k']? = some x → ∃ lv fd ps, Room lv (A.deeper (envOfC d.name d.scope s.heap.objs.size (e.fa k) cdv)) ∧ FnOk e.P e.w e.K e.mg e.base (L2.CX e.P e.w) lv (e.fa k') fd ps (spF e (fhOf Γ wf n) ps.length k') ∧ Binds e.K fd ps [] ∧ e.mg x = some (.ref (e.fa k')) ∧ PySem.W.keepIn e.K (.ref (e.fa k')) = true ∧ ∀ args ob, (fhOf Γ wf n).run k' args ob ≠ .no → args.length = ps.length := fun k' x hx => by
      obtain ⟨fd', ps', a⟩ := cal1 n (by omega) k' x hx
      exact ⟨n, fd', ps', hr, a⟩
    refine ⟨tSs e (fhOf Γ wf n) (fun cls xd _ H => E cls xd H) (slotsA f) f.body, ?_, ?_⟩
    · refine (sndSs f.body).ps ⟨N, d.scope, stB d.scope, S.l.contains d.name⟩ _ _ _ ⟨⟨rfl, rfl, rfl, rfl, rfl, rfl, rfl, (scope_of h1).nd, rfl, fun x hx => ⟨stB_loc hx, .inl rfl⟩, ?_, takes_of rfl rfl rfl rfl, ft.bn, ft.gi, ft.ex, cal, fun hl => ?_, ft.wrd, fun hl hdeep => ?_⟩, passes_of (K := fun e' s' => L2.CX e.P e.w outer H s E e' s') rfl⟩ h6
      · have := hr.un
        show (A.deeper (envOfC d.name d.scope s.heap.objs.size (e.fa k) cdv)).units + 65 < cLine
        omega
      · have hl : d.name ∈ S.l := by simpa using hl
        obtain ⟨cc, P, b1, b2, b3, b4⟩ := ft.lam k d.name hkn hl
        have b1 := b1 _ _ _ _ lk
        rw [efd] at b1
        exact ⟨cc, P, b1, b2, b3, b4⟩
      · have hdeep : decide (2 ≤ n) = true := hdeep
        have hdeep := of_decide_eq_true hdeep
        obtain ⟨m, rfl⟩ : ∃ m, n = m + 2 := ⟨n - 2, by omega⟩
        refine ⟨m, hr, fun k' x hx => ?_⟩
        obtain ⟨fd', ps', a1, a2, a3, a4, a5⟩ := cal1 m (by omega) k' x hx
        exact ⟨fd', ps', a1, a2, a3, a4, a5⟩
    · have hrun : (fhOf Γ wf (n + 1)).run k ps ob = runF (fhOf Γ wf n) f ps ob := by
        exact callM_eq hf
      rw [hrun] at h
      unfold runF at h
      rw [if_pos (by simpa using hps)] at h
      have sr0 : SR e w H fp ⟨ps ++ List.replicate (f.n - f.np) .un, ob⟩ (L2.start N vs) := by
        unfold L2.start
        have : N.length - vs.length = f.n - f.np := by omega
        rw [this]
        exact sr.uns _
      refine ⟨w, fp, _, sr0, ?_⟩
      cases hb : evSs (fhOf Γ wf n) f.body ⟨ps ++ List.replicate (f.n - f.np) .un, ob⟩ with
      | no => rw [hb] at h; exact h.elim
      | bk m => rw [hb] at h; exact h.elim
      | ct m => rw [hb] at h; exact h.elim
      | nx m =>
        rw [hb] at h
        intro w' H' fp' σ' x s' ag
        obtain ⟨s2, l2⟩ := SR.leave (m := m) (SR.va (ss := m.sl) (ob := m.ob) s' (.non)) hn hN ag
        exact h w' H' fp' .non x s2
      | rt dd own m =>
        rw [hb] at h
        intro w' H' fp' σ' v x s' ag
        obtain ⟨s2, l2⟩ := SR.leave (m := m) s' hn hN ag
        exact h w' H' fp' v x s2
      | ex ev m =>
        rw [hb] at h
        intro w' H' fp' σ' cls xd x s' ag r
        refine h w' H' fp' cls xd x ?_ r
        exact SR.dropF (ss1 := []) (ss2 := m.sl) (xs1 := []) (xs2 := σ') (by simpa using s') s'.len
end Mi
/-! Part H: a law's end. -/
namespace Mi
open PySem PySem.Spec L2
open PyProof.Rows hiding St
def dOf (x : Str) (st : Stmt) : He.DefD := ⟨(x, none), x, x, defArgs st, defBody st, defScope st, [], []⟩
def chkOne (S0 : Tx) (x : Str) (d : He.DefD) (N : List Str) (f : FnI) : Bool := decide (x = d.name) && decide (d.at_ = (x, none)) && d.dfl.isEmpty && d.kwd.isEmpty && chkFn S0 d N f
/-- each def of the text fits its machine text -/
inductive Fits (S0 : Tx) : List Str → List He.DefD → List (List Str) → List FnI → Prop
  | nil : Fits S0 [] [] [] []
  | cons {x : Str} {d : He.DefD} {N : List Str} {f : FnI} {S : List Str} {ds : List He.DefD} {Ns : List (List Str)} {Γ : List FnI} : chkOne S0 x d N f = true → Fits S0 S ds Ns Γ → Fits S0 (x :: S) (d :: ds) (N :: Ns) (f :: Γ)
theorem Fits.get {S0 : Tx} : ∀ {S : List Str} {ds : List He.DefD} {Ns : List (List Str)} {Γ : List FnI} {k : Nat} {x : Str}, Fits S0 S ds Ns Γ → S[k]? = some x → ∃ d N f, ds[k]? = some d ∧ Ns[k]? = some N ∧ Γ[k]? = some f ∧ chkOne S0 x d N f = true
  | _, _, _, _, _, _, .nil, h => by simp at h
  | _, _, _, _, 0, _, .cons c t, h => by simp at h; subst h; exact ⟨_, _, _, rfl, rfl, rfl, c⟩
  | _, _, _, _, k + 1, _, .cons c t, h => by
    obtain ⟨d, N, f, h1, h2, h3, h4⟩ := t.get (k := k) (by simpa using h)
    exact ⟨d, N, f, by simpa using h1, by simpa using h2, by simpa using h3, h4⟩
/-- where defs stand -/
def faOf (K : PySem.W.Frag) (ds : List He.DefD) (k : Nat) : Addr := match ds[k]? with
  | some d => He.fAd K d.at_
  | none => 0
/-- where classes stand -/
def caOf (K : PySem.W.Frag) (cs : List Str) (k : Nat) : Addr := match cs[k]? with
  | some x => He.ga K x
  | none => 0
def lamQ (x : Str) : Str := (envOfC x ⟨.function, [], false, false, []⟩ 0 0 .none).qual ++ "<lambda>"
def tabL (K : PySem.W.Frag) (l : List Str) : List (Addr × Str) := l.map fun x => ((He.cT K (x, none)).2, lamQ x)
def enOf (P : Program) (w : World) (K : PySem.W.Frag) (mg : Str → Option Value) (base : Heap) (ds : List He.DefD) (S : Tx) : En := ⟨P, w, K, mg, base, faOf K ds, caOf K S.c, tabL K S.l⟩
/-- each word def fits -/
def chkOneW (S : Tx) (wn : Str) (p : Str × Wdf) (d : He.DefD) (ns : Str × Str) : Bool := decide (p.1 = d.name) && chkWord S d p.2 ns.1 ns.2 wn && plainP d.params [ns.1] && scopeB [ns.1, ns.2] [ns.1] d.scope
inductive FitsW (S : Tx) (wn : Str) : List (Str × Wdf) → List He.DefD → Prop
  | nil : FitsW S wn [] []
  | cons {p : Str × Wdf} {d : He.DefD} {ps : List (Str × Wdf)} {ds : List He.DefD} (ns : Str × Str) : chkOneW S wn p d ns = true → FitsW S wn ps ds → FitsW S wn (p :: ps) (d :: ds)
theorem FitsW.get {S : Tx} {wn : Str} : ∀ {ps : List (Str × Wdf)} {ds : List He.DefD} {k : Nat} {p : Str × Wdf}, FitsW S wn ps ds → ps[k]? = some p → ∃ d ns, ds[k]? = some d ∧ chkOneW S wn p d ns = true
  | _, _, _, _, .nil, h => by simp at h
  | _, _, 0, _, .cons ns c t, h => by simp at h; subst h; exact ⟨_, ns, rfl, c⟩
  | _, _, k + 1, _, .cons _ c t, h => by
    obtain ⟨d, ns, h1, h2⟩ := t.get (k := k) (by simpa using h)
    exact ⟨d, ns, by simpa using h1, h2⟩
/-! ### what is asked of the classes -/
def excCB (K : PySem.W.Frag) (D : Addr) : Bool := decide (PySem.W.findIn K (.ref D) "__getattribute__" = some (some (.builtin "BaseException.__getattribute__"))) && decide (PySem.W.findIn K (.ref D) "__getattr__" = some none) && decide (PySem.W.subIn K (.ref D) (.type "BaseException") = some true) && PySem.W.hasDictIn K D &&
  decide (PySem.W.findIn K (.ref D) "__class__" = some (some (.builtin "object.__class__"))) && decide (PySem.W.specialIn K (.builtin "object.__class__") "__get__" = some (some (.builtin "getset_descriptor.__get__"))) && decide (PySem.W.takesIn K (.builtin "object.__class__") = some true) && decide (PySem.W.mroIn K D (.type "object") = some true)
theorem excCB_ok {K : PySem.W.Frag} {D : Addr} (h : excCB K D = true) : ExcC K D := by
  unfold excCB at h
  simp only [Bool.and_eq_true, decide_eq_true_eq] at h
  obtain ⟨⟨⟨⟨⟨⟨⟨h1, h2⟩, h3⟩, h4⟩, h5⟩, h6⟩, h7⟩, h8⟩ := h
  exact ⟨h1, h2, h3, h4, h5, h6, h7, h8⟩
def exB (S : Tx) (wn : Str) (K : PySem.W.Frag) : Bool :=
  (List.range S.c.length).all (fun c => excCB K (caOf K S.c c) && decide (PySem.W.kitOne K (.ref (caOf K S.c c)) (.ref (He.ga K wn)) = some true)) &&
  (List.range S.c.length).all (fun c => (List.range S.c.length).all fun j => decide (PySem.W.exmOne K (.ref (caOf K S.c c)) (.ref (caOf K S.c j)) = some (decide (c = j)))) &&
  S.lm.all (fun c => decide (c < S.c.length) && decide (PySem.W.findIn K (.ref (caOf K S.c c)) "limit" = some none)) &&
  S.l.all (fun x => S.l.all fun y => decide ((He.cT K (x, none)).2 = (He.cT K (y, none)).2 → x = y))
theorem exB_ok {S : Tx} {wn : Str} {P : Program} {w : World} {K : PySem.W.Frag} {mg : Str → Option Value} {base : Heap} {ds : List He.DefD} (hm : mg wn = some (.ref (He.ga K wn))) (hg : ∀ (c : Nat) (x : Str), S.c[c]? = some x → mg x = some (.ref (caOf K S.c c))) (h : exB S wn K = true) : ExcF (enOf P w K mg base ds S) S wn (He.ga K wn) := by
  unfold exB at h
  simp only [Bool.and_eq_true, List.all_eq_true, List.mem_range, decide_eq_true_eq] at h
  obtain ⟨⟨⟨h1, h2⟩, h3⟩, h4⟩ := h
  have wc : ∀ c, c < S.c.length → WordC K (caOf K S.c c) (He.ga K wn) := fun c hc => ⟨excCB_ok (h1 c hc).1, (h1 c hc).2⟩
  exact ⟨hm, fun c x hx => ⟨hg c x hx, wc c (List.getElem?_eq_some_iff.mp hx).1⟩, fun c j hc hj => h2 c hc j hj, fun c hc => ⟨wc c (h3 c hc).1, (h3 c hc).2⟩⟩
theorem scopeB_par {N : List Str} {a : Str} {sc : Scope} (h : scopeB N [a] sc = true) : stB sc a = true := by
  unfold scopeB at h
  simp only [Bool.and_eq_true] at h
  simpa using h.1.2
/-- the facts asked of the head -/
structure Asks (S : Tx) (fa : List He.Fa) (wn : Str) : Prop where
  h1 : ∀ x ∈ S.f, He.Fa.glo x ∈ fa
  h2 : ∀ x ∈ bnames, He.Fa.free x ∈ fa
  h3 : ∀ p ∈ S.g, He.Fa.int p.1 p.2 ∈ fa
  h4 : ∀ x ∈ S.c, He.Fa.glo x ∈ fa ∧ He.Fa.exc x ∈ fa
  h5 : ∀ p ∈ S.w, He.Fa.glo p.1 ∈ fa
  h6 : He.Fa.glo wn ∈ fa
def faS (S : Tx) (wn : Str) : List He.Fa := S.f.map He.Fa.glo ++ (bnames.map He.Fa.free ++ (S.g.map (fun p => He.Fa.int p.1 p.2) ++ (S.c.map He.Fa.glo ++ (S.c.map He.Fa.exc ++ (S.w.map (fun p => He.Fa.glo p.1) ++ [He.Fa.glo wn])))))
theorem faS_asks (S : Tx) (wn : Str) : Asks S (faS S wn) wn := by
  refine ⟨fun x hx => ?_, fun x hx => ?_, fun p hp => ?_, fun x hx => ⟨?_, ?_⟩, fun p hp => ?_, ?_⟩ <;> simp only [faS, List.mem_append, List.mem_map]
  · exact .inl ⟨x, hx, rfl⟩
  · exact .inr (.inl ⟨x, hx, rfl⟩)
  · exact .inr (.inr (.inl ⟨p, hp, rfl⟩))
  · exact .inr (.inr (.inr (.inl ⟨x, hx, rfl⟩)))
  · exact .inr (.inr (.inr (.inr (.inl ⟨x, hx, rfl⟩))))
  · exact .inr (.inr (.inr (.inr (.inr (.inl ⟨p, hp, rfl⟩)))))
  · simp
theorem facts_of {P : Program} {w : World} {K : PySem.W.Frag} {mg : Str → Option Value} {base h : Heap} {S : Tx} {ds wds : List He.DefD} {Ns : List (List Str)} {Γ : List FnI} {fa : List He.Fa} {wn : Str}
    (KX : K.In h) (G : h.Ns mainGlobals mg) (c : He.SaysD fa (ds ++ wds) K) (ex : exB S wn K = true) (ft : Fits S S.f ds Ns Γ) (fw : FitsW S wn S.w wds) (a : Asks S fa wn) (hT : ∀ x ∈ S.l, LamX.TabB base mg (He.cT K (x, none)).1 (He.cT K (x, none)).2) : Facts (enOf P w K mg base ds S) S ds Ns Γ := by
  have hlen : ∀ {S0 : List Str} {ds : List He.DefD} {Ns : List (List Str)} {Γ : List FnI}, Fits S S0 ds Ns Γ → S0.length = ds.length := by
    intro S0 ds Ns Γ ft
    induction ft with
    | nil => rfl
    | cons _ _ ih => simp [ih]
  have dd : ∀ {k : Nat} {d : He.DefD}, ds[k]? = some d → (ds ++ wds)[k]? = some d := fun {k d} h => by
    rw [List.getElem?_append_left (List.getElem?_eq_some_iff.mp h).1]; exact h
  have hglo : ∀ (c' : Nat) (x : Str), S.c[c']? = some x → mg x = some (.ref (caOf K S.c c')) := fun k x hx => by
    have eca : caOf K S.c k = He.ga K x := by unfold caOf; rw [hx]
    rw [eca]
    exact He.glo_ok KX G (c.facts (a.h4 x (List.mem_of_getElem? hx)).1)
  have exf := exB_ok (P := P) (w := w) (base := base) (ds := ds) (He.glo_ok KX G (c.facts a.h6)) hglo ex
  have fn : ∀ (k : Nat) (x : Str), S.f[k]? = some x → ∃ d N f fd, ds[k]? = some d ∧ Γ[k]? = some f ∧ x = d.name ∧ chkFn S d N f = true ∧ FunD K d.name d.qual d.params d.body d.scope [] [] (faOf K ds k) fd ∧ mg x = some (.ref (faOf K ds k)) ∧ faOf K ds k = He.fAd K (x, none) ∧ d.qual = d.name := fun k x hx => by
    obtain ⟨d, N, f, e1, e2, e3, e4⟩ := ft.get hx
    unfold chkOne at e4
    simp only [Bool.and_eq_true, decide_eq_true_eq, List.isEmpty_iff] at e4
    obtain ⟨⟨⟨⟨a1, a2⟩, a3⟩, a4⟩, a5⟩ := e4
    obtain ⟨fd, F⟩ := c.def_ k (d := d) (dd e1)
    have efa : faOf K ds k = He.fAd K d.at_ := by unfold faOf; rw [e1]
    have d1 : d.dvs K = [] := by unfold He.DefD.dvs; rw [a3]; rfl
    have d2 : d.kws K = [] := by unfold He.DefD.kws; rw [a4]; rfl
    rw [d1, d2] at F
    have a6 := a5
    unfold chkFn at a6
    simp only [Bool.and_eq_true, decide_eq_true_eq] at a6
    refine ⟨d, N, f, fd, e1, e3, a1, a5, by rw [efa]; exact F, ?_, by rw [efa, a2], a6.1.1.1.2⟩
    rw [efa, a2]
    exact He.glo_ok KX G (c.facts (a.h1 x (List.mem_of_getElem? hx)))
  refine ⟨fun k x hx => ?_, fun x hx => He.free_ok KX G (c.facts (a.h2 x hx)), fun k x i hx => He.int_ok KX G (c.facts (a.h3 _ (List.mem_of_getElem? hx))), fun k x hx => ?_, fun k x wd hx => ?_, fun k x hx hl => ?_⟩
  · obtain ⟨d, N, f, fd, g0, g1, g2, g3, g4, g5, g6, g7⟩ := fn k x hx
    exact ⟨d, N, f, fd, g1, g2, g3, g4, g5⟩
  · have eca : caOf K S.c k = He.ga K x := by unfold caOf; rw [hx]
    have f := He.exc_ok (c.facts (a.h4 x (List.mem_of_getElem? hx)).2)
    rw [← eca] at f
    exact ⟨hglo k x hx, f⟩
  · obtain ⟨d, ns, e1, e2⟩ := fw.get hx
    unfold chkOneW at e2
    simp only [Bool.and_eq_true, decide_eq_true_eq] at e2
    obtain ⟨⟨⟨rfl, e3⟩, e4⟩, e5⟩ := e2
    unfold chkWord at e3
    simp only [Bool.and_eq_true, decide_eq_true_eq, List.isEmpty_iff] at e3
    obtain ⟨⟨⟨⟨⟨⟨⟨⟨⟨⟨⟨⟨⟨⟨c1, c2⟩, c3⟩, c4⟩, c5⟩, c6⟩, c7⟩, c8⟩, c9⟩, c10⟩, c11⟩, c12⟩, c13⟩, c14⟩, c15⟩ := e3
    have e6 : (ds ++ wds)[ds.length + k]? = some d := by rw [List.getElem?_append_right (by omega)]; simpa using e1
    obtain ⟨fd, F⟩ := c.def_ (ds.length + k) (d := d) e6
    have d1 : d.dvs K = [] := by unfold He.DefD.dvs; rw [c3]; rfl
    have d2 : d.kws K = [] := by unfold He.DefD.kws; rw [c4]; rfl
    rw [d1, d2, c5] at F
    have mgd : mg d.name = some (.ref (He.fAd K d.at_)) := by
      rw [c2]
      exact He.glo_ok KX G (c.facts (a.h5 _ (List.mem_of_getElem? hx)))
    have bnd := FunD.bindsN F (bind_plain e4)
    have kp := F.kp
    obtain ⟨oc, od, dV, kV, doc, pm, an, cdv, ct, osl, efd, lk, hcd, _, _⟩ := F.ex
    subst efd
    have fsc : FnScope [ns.1, ns.2] [ns.1] d.scope := scope_of (N := [ns.1, ns.2]) (np := 1) e5
    split at c1
    · rename_i h0 hs hwb
      refine ⟨_, d.params, d.body, d.scope, dV, kV, doc, pm, cdv, ct, oc, an, od, osl, [ns.1, ns.2], ns.1, mgd, kp, lk, hcd, bnd, fsc, rfl, (stB_loc (scopeB_par e5)).elim (fun z => .inl z) (fun z => .inr (.inl z)), c10, fun X q hP hw hK hmg hbase => ?_⟩
      refine word_gives (i := 1) fsc.nd exf hK hmg rfl c7 c8 (of_decide_eq_true c11) ?_ ?_ (fun p hp ho => ?_) (of_decide_eq_true c13) c9 hwb c1 (fun p hp => ?_) c15 (fun f => rfl)
      · rw [hmg]; exact He.free_ok KX G (c.facts (a.h2 _ (by simp [bnames])))
      · rw [hmg]; exact He.free_ok KX G (c.facts (a.h2 _ (by simp [bnames])))
      · rcases Bool.or_eq_true_iff.mp c12 with z | z
        · rw [List.all_eq_true.mp z p hp] at ho; cases ho
        · exact of_decide_eq_true z
      · have z := List.all_eq_true.mp c14 p hp
        split at z
        · rename_i y hy
          exact ⟨y, hy, of_decide_eq_true z⟩
        · cases z
    · cases c1
  · obtain ⟨d, N, f, fd, g0, g1, g2, g3, g4, g5, g6, g7⟩ := fn k x hx
    refine ⟨_, _, ?_, hT x hl, List.mem_map.mpr ⟨x, hl, rfl⟩, fun p hp he => ?_⟩
    · intro oc od fd' osl hlk
      obtain ⟨oc2, od2, dV, kV, doc, pm, an, cdv, ct, osl2, efd, lk, hcd, _, _⟩ := g4.ex
      have hlk : K.lookup (faOf K ds k) = _ := hlk
      rw [lk] at hlk
      cases hlk
      obtain ⟨cc, hcc⟩ := He.codeIn_ref hcd
      have e1 : fd.code = .ref cc := by rw [efd]; exact hcc
      rw [e1]
      rw [g6] at lk
      have := He.codeOf_eq lk e1
      rw [← this]
      rfl
    · obtain ⟨y, hy, rfl⟩ := List.mem_map.mp hp
      unfold exB at ex
      simp only [Bool.and_eq_true, List.all_eq_true, decide_eq_true_eq] at ex
      have := ex.2 y hy x hl he
      rw [this]
      rfl
/-- what a law's def promises -/
def spRun (K : PySem.W.Frag) (T : List (Addr × Str)) (n : Nat) : Sp := fun vs H Q _ => ∃ (a : Addr) (ns : List Int), vs = [.ref a] ∧ SqL K H a (ns.map V.int) ∧ ns.length ≤ n ∧ (∀ z ∈ ns, Builtin.Int.intBits z ≤ 1048576) ∧ LamX.Tabs T H ∧ ∀ H', Q (.bl true) H'
def wd0 : Wd := ⟨fun _ => none, [], fun _ _ h => by cases h⟩
theorem sql_frz {K : PySem.W.Frag} {H : Hp} {a : Addr} {xs : List V} (h : SqL K H a xs) : SqL K (wd0.frz H [a]).I a xs := by
  rcases h with (h | ⟨o, h⟩) | h
  · exact .inl (.inl (Wd.frz_at (by simp) h))
  · refine .inl (.inr ⟨o, ?_⟩)
    simp only [Wd.frz, List.mem_singleton, if_true, h]
  · exact .inr h
theorem walk_mi {l : PySem.W.OpenLaw} {q : Program} {loose : List Str} {XP : (Str → Option Value) → Heap → Prop} {YP : World → Heap → Prop} {d : DefRec} {fa : List He.Fa} {S : Tx} {ds wds : List He.DefD} {Ns : List (List Str)} {Γ : List FnI} {wf lv kL n : Nat} {wn : Str}
    (hY : ∀ w h, YP w h → ∃ K : PySem.W.Frag, K.In h ∧ He.SaysX fa (ds ++ wds) [] (S.l.map fun x => (x, none)) (exB S wn) w h K)
    (hn : l.most = some n) (hn2 : n ≤ sizeLine) (hdf : d.params.defaults = []) (hdn : d.name = ("law" : Str)) (hr : Room lv callerA)
    (ft : Fits S S.f ds Ns Γ) (fw : FitsW S wn S.w wds) (hlf : ∀ x ∈ S.l, x ∈ S.f) (as : Asks S fa wn) (hk : S.f[kL]? = some ("law" : Str)) {x : Str} {N : List Str} {f : FnI} (hN : Ns[kL]? = some N) (hf : Γ[kL]? = some f) (hx : N.take f.np = [x])
    (run : ∀ ns : List Int, ns.length ≤ n → (∀ z ∈ ns, Builtin.Int.intBits z ≤ 1048576) → ∃ own outs ob, callM Γ wf lv kL [.va (.scr ns)] [] = .ok (.bl true) own outs ob) :
    PySem.W.WalkO q loose XP YP l.row.toRowW d [] (fun f vs => PySem.call f vs) := by
  refine LamX.walk_ofTsE (CX := fun w => L2.CX l.prog w) (k := lv) (x := x) hn hn2 hdf hr (fun w mg ad h Y G hmg => ?_) fun w H s e s' z => ?_
  · obtain ⟨K, KX, c⟩ := hY w h Y
    refine ⟨K, KX, ?_⟩
    have key : ∀ base, (∀ x ∈ S.l, LamX.TabB base mg (He.cT K (x, none)).1 (He.cT K (x, none)).2) → Facts (enOf l.prog w K mg base ds S) S ds Ns Γ := fun base hT => facts_of KX G c.t.d c.more ft fw as hT
    obtain ⟨d2, N2, f2, e1, e2, e3, e4⟩ := ft.get hk
    rw [hf] at e3
    cases e3
    rw [hN] at e2
    cases e2
    unfold chkOne at e4
    simp only [Bool.and_eq_true, decide_eq_true_eq] at e4
    have c4 := e4.2
    have edn : d2.name = ("law" : Str) := e4.1.1.1.1.symm
    have dd : (ds ++ wds)[kL]? = some d2 := by rw [List.getElem?_append_left (List.getElem?_eq_some_iff.mp e1).1]; exact e1
    obtain ⟨fd2, F⟩ := c.t.d.def_ kL (d := d2) dd
    have efa : faOf K ds kL = He.fAd K d2.at_ := by unfold faOf; rw [e1]
    have dd1 : d2.dvs K = [] := by unfold He.DefD.dvs; rw [List.isEmpty_iff.mp e4.1.1.2]; rfl
    have dd2 : d2.kws K = [] := by unfold He.DefD.kws; rw [List.isEmpty_iff.mp e4.1.2]; rfl
    rw [dd1, dd2, ← efa] at F
    have hfa : ad = faOf K ds kL := by
      have g6 : mg ("law" : Str) = some (.ref (He.fAd K d2.at_)) := by
        rw [e4.1.1.1.2]
        exact He.glo_ok KX G (c.t.d.facts (as.h1 _ (List.mem_of_getElem? hk)))
      rw [hdn] at hmg
      rw [hmg] at g6
      rw [efa]
      cases g6; rfl
    subst hfa
    have pl : plainP d2.params (N.take f.np) = true := by
      unfold chkFn at c4
      simp only [Bool.and_eq_true] at c4
      exact c4.1.1.1.1.2
    have hnp : f.np = 1 := by
      have a := congrArg List.length hx
      unfold chkFn at c4
      simp only [Bool.and_eq_true, decide_eq_true_eq] at c4
      obtain ⟨⟨⟨⟨⟨b1, b2⟩, b3⟩, b4⟩, b5⟩, b6⟩ := c4
      rw [takeLen (by omega)] at a
      simpa using a
    have mt : ∀ p ∈ S.l.map (fun x => He.cT K (x, none)), ∃ x ∈ S.l, p = He.cT K (x, none) := fun p hp => by
      obtain ⟨x, h1, h2⟩ := List.mem_map.mp hp
      exact ⟨x, h1, h2.symm⟩
    have tf : ∀ x ∈ S.l, (x, none) ∈ S.l.map fun x => ((x, none) : He.Defn) := fun x hx => List.mem_map.mpr ⟨x, hx, rfl⟩
    refine ⟨fd2, S.l.map (fun x => He.cT K (x, none)), spRun K (tabL K S.l) n, fun p hp => ?_, fun p hp => ?_, fun p hp => ?_, fun s v => ?_, fun H a ns hl hb hT hS => ⟨a, ns, rfl, hS, hl, hb, fun p hp => ?_, fun _ => rfl⟩, fun base KB GB hTB => ?_⟩
    · obtain ⟨x, h1, rfl⟩ := mt p hp
      exact c.empty _ (tf x h1)
    · obtain ⟨x, h1, rfl⟩ := mt p hp
      exact c.out _ (tf x h1)
    · obtain ⟨x, h1, rfl⟩ := mt p hp
      exact PySem.W.codeHd_of_K KX (c.hd _ (tf x h1))
    · have := FunD.bindsA F (bind_plain pl) s [v] (by rw [hx]; rfl)
      rw [hx] at this
      exact this
    · obtain ⟨x, h1, rfl⟩ := List.mem_map.mp hp
      exact LamX.TabS.nil (hT _ (List.mem_map.mpr ⟨x, h1, rfl⟩))
    · have z := fn_ok (wf := wf) (key base fun x hx => hTB _ (List.mem_map.mpr ⟨x, hx, rfl⟩)) lv kL d2 N f fd2 hf (by rw [hk, edn]) c4 F
      rw [hx] at z
      refine FnOk.imp z ?_
      rintro vs H Q E ⟨a, ns, rfl, hS, hl, hb, hTT, hQ⟩
      obtain ⟨own, outs, ob, hrun⟩ := run ns hl hb
      refine ⟨hnp.symm, wd0.frz H [a], fun _ => False, [.va (.scr ns)], [], ⟨fun p o q => ?_, fun _ h => h.elim, hTT, [] ++ [], [], SlsR.cons (f := []) (.va (.scr (sql_frz hS))) .nil, .nil, by simp, by simp⟩, ?_⟩
      · by_cases z : p ∈ [a]
        · exact Wd.frz_in z q
        · simp only [Wd.frz, if_neg z, wd0] at q; cases q
      have hrun : (fhOf Γ wf lv).run kL [.va (.scr ns)] [] = .ok (.bl true) own outs ob := hrun
      rw [hrun]
      intro w' H' fp' v x s'
      obtain ⟨w2, fp2, x2, s2, r⟩ := SR.un1 (m := ⟨outs, ob⟩) s' (valS_res own (.bl true))
      cases r
      exact hQ H'
  · obtain ⟨_, _, _, _, _, _, _, _, _, _, _, _, z⟩ := z
    exact z.elim
end Mi
/-! Part P: the machine, step by step, for plain proofs. -/
namespace Mi
open PySem
variable {F : Fh} {s : Ms}
@[simp] theorem R_ok {α β : Type} (a : α) (f : α → R β) : (R.ok a).bnd f = f a := rfl
@[simp] theorem R_no {α β : Type} (f : α → R β) : (R.no : R α).bnd f = .no := rfl
@[simp] theorem R_ex {α β : Type} (e : Ev) (s : Ms) (f : α → R β) : (R.ex e s : R α).bnd f = .ex e s := rfl
@[simp] theorem O_ok {α : Type} (a : α) (f : α → Out) : (R.ok a).out f = f a := rfl
@[simp] theorem O_no {α : Type} (f : α → Out) : (R.no : R α).out f = .no := rfl
@[simp] theorem O_ex {α : Type} (e : Ev) (s : Ms) (f : α → Out) : (R.ex e s : R α).out f = .ex e s := rfl
@[simp] theorem opd_nm (i : Nat) (r : R (D × Ms)) : opd (.nm i) r s = if isSet s i then .ok (.sl i, s) else .no := rfl
@[simp] theorem opd_ct (d : D) (r : R (D × Ms)) : opd (.ct d) r s = r.bnd fun p => .ok (.dd p.1, p.2) := rfl
@[simp] theorem opd_gl (k : Nat) (i : Int) (r : R (D × Ms)) : opd (.gl k i) r s = r.bnd fun p => .ok (.dd p.1, p.2) := rfl
@[simp] theorem opd_bin (o : BOp) (a b : Ex) (r : R (D × Ms)) : opd (.bin o a b) r s = r.bnd fun p => .ok (.dd p.1, p.2) := rfl
@[simp] theorem opd_neg (a : Ex) (r : R (D × Ms)) : opd (.neg a) r s = r.bnd fun p => .ok (.dd p.1, p.2) := rfl
@[simp] theorem opd_cmp (o : COp) (a b : Ex) (r : R (D × Ms)) : opd (.cmp o a b) r s = r.bnd fun p => .ok (.dd p.1, p.2) := rfl
@[simp] theorem opd_cmp2 (o o' : COp) (a b c : Ex) (r : R (D × Ms)) : opd (.cmp2 o o' a b c) r s = r.bnd fun p => .ok (.dd p.1, p.2) := rfl
@[simp] theorem opd_band (a b : Ex) (r : R (D × Ms)) : opd (.band a b) r s = r.bnd fun p => .ok (.dd p.1, p.2) := rfl
@[simp] theorem opd_bor (a b : Ex) (r : R (D × Ms)) : opd (.bor a b) r s = r.bnd fun p => .ok (.dd p.1, p.2) := rfl
@[simp] theorem opd_bnot (a : Ex) (r : R (D × Ms)) : opd (.bnot a) r s = r.bnd fun p => .ok (.dd p.1, p.2) := rfl
@[simp] theorem opd_ite (a b c : Ex) (r : R (D × Ms)) : opd (.ite a b c) r s = r.bnd fun p => .ok (.dd p.1, p.2) := rfl
@[simp] theorem opd_tup (a : Exs) (r : R (D × Ms)) : opd (.tup a) r s = r.bnd fun p => .ok (.dd p.1, p.2) := rfl
@[simp] theorem opd_lst (a : Exs) (r : R (D × Ms)) : opd (.lst a) r s = r.bnd fun p => .ok (.dd p.1, p.2) := rfl
@[simp] theorem opd_idx (a b : Ex) (r : R (D × Ms)) : opd (.idx a b) r s = r.bnd fun p => .ok (.dd p.1, p.2) := rfl
@[simp] theorem opd_slc (a b c : Ex) (r : R (D × Ms)) : opd (.slc a b c) r s = r.bnd fun p => .ok (.dd p.1, p.2) := rfl
@[simp] theorem opd_call (k : Nat) (a : Exs) (r : R (D × Ms)) : opd (.call k a) r s = r.bnd fun p => .ok (.dd p.1, p.2) := rfl
@[simp] theorem opd_bi (k : Bi) (a : Exs) (r : R (D × Ms)) : opd (.bi k a) r s = r.bnd fun p => .ok (.dd p.1, p.2) := rfl
@[simp] theorem opd_isi (t : Ty) (a : Ex) (r : R (D × Ms)) : opd (.isi t a) r s = r.bnd fun p => .ok (.dd p.1, p.2) := rfl
@[simp] theorem opd_comp (x : Ex) (tg : Tg) (it : It) (c : Ex) (own : List Nat) (r : R (D × Ms)) : opd (.comp x tg it c own) r s = r.bnd fun p => .ok (.dd p.1, p.2) := rfl
@[simp] theorem opd_comp2 (x : Ex) (tg : Tg) (it : It) (tg2 : Tg) (it2 : It) (own : List Nat) (r : R (D × Ms)) : opd (.comp2 x tg it tg2 it2 own) r s = r.bnd fun p => .ok (.dd p.1, p.2) := rfl
@[simp] theorem opd_rev (a : Ex) (r : R (D × Ms)) : opd (.rev a) r s = r.bnd fun p => .ok (.dd p.1, p.2) := rfl
@[simp] theorem opd_gf (k : Nat) (r : R (D × Ms)) : opd (.gf k) r s = r.bnd fun p => .ok (.dd p.1, p.2) := rfl
@[simp] theorem opd_calv (i : Nat) (ks : List Nat) (es : Exs) (r : R (D × Ms)) : opd (.calv i ks es) r s = r.bnd fun p => .ok (.dd p.1, p.2) := rfl
@[simp] theorem opd_word (k : Nat) (wd : Wdf) (e : Ex) (r : R (D × Ms)) : opd (.word k wd e) r s = r.bnd fun p => .ok (.dd p.1, p.2) := rfl
@[simp] theorem e_rev (a : Ex) : evE F (.rev a) s = (opd a (evE F a s) s).bnd fun p => op1 revD p.1 p.2 := rfl
@[simp] theorem e_gf (k : Nat) : evE F (.gf k) s = .ok (.fn k, s) := rfl
@[simp] theorem e_nm (i : Nat) : evE F (.nm i) s = rdN i s := by simp only [evE] <;> rfl
@[simp] theorem e_ct (d : D) : evE F (.ct d) s = .ok (d, s) := by simp only [evE] <;> rfl
@[simp] theorem e_gl (k : Nat) (i : Int) : evE F (.gl k i) s = .ok (.int i, s) := by simp only [evE] <;> rfl
@[simp] theorem e_bin (o : BOp) (a b : Ex) : evE F (.bin o a b) s = (opd a (evE F a s) s).bnd fun p => (opd b (evE F b p.2) p.2).bnd fun q => op2 (opB o) p.1 q.1 q.2 := by simp only [evE] <;> rfl
@[simp] theorem e_neg (a : Ex) : evE F (.neg a) s = (evE F a s).bnd fun p => match p.1 with
    | .int i => .ok (.int (-i), p.2)
    | _ => .no := by simp only [evE] <;> rfl
@[simp] theorem e_cmp (o : COp) (a b : Ex) : evE F (.cmp o a b) s = (opd a (evE F a s) s).bnd fun p => (opd b (evE F b p.2) p.2).bnd fun q => op2 (fun x y => (opC o x y).map .bl) p.1 q.1 q.2 := by simp only [evE] <;> rfl
@[simp] theorem e_cmp2 (o o' : COp) (a b c : Ex) : evE F (.cmp2 o o' a b c) s = (opd a (evE F a s) s).bnd fun p => (evE F b p.2).bnd fun q => chkT (op2 (fun x y => (opC o x y).map .bl) p.1 (.dd q.1) q.2) fun t s' =>
      if t then (opd c (evE F c s') s').bnd fun r => op2 (fun x y => (opC o' x y).map .bl) (.dd q.1) r.1 r.2 else .ok (.bl false, s') := by simp only [evE] <;> rfl
@[simp] theorem e_band (a b : Ex) : evE F (.band a b) s = chkT (evE F a s) fun t s' => if t then evE F b s' else .ok (.bl false, s') := by simp only [evE] <;> rfl
@[simp] theorem e_bor (a b : Ex) : evE F (.bor a b) s = chkT (evE F a s) fun t s' => if t then .ok (.bl true, s') else evE F b s' := by simp only [evE] <;> rfl
@[simp] theorem e_bnot (a : Ex) : evE F (.bnot a) s = chkT (evE F a s) fun t s' => .ok (.bl (!t), s') := by simp only [evE] <;> rfl
@[simp] theorem e_ite (c a b : Ex) : evE F (.ite c a b) s = chkT (evE F c s) fun t s' => if t then evE F a s' else evE F b s' := by simp only [evE] <;> rfl
@[simp] theorem e_tup (es : Exs) : evE F (.tup es) s = (evEs F es s).bnd fun p => if p.1.length ≤ sizeLine then .ok (.tup p.1, p.2) else .no := by simp only [evE] <;> rfl
@[simp] theorem e_lst (es : Exs) : evE F (.lst es) s = (evEs F es s).bnd fun p => if p.1.length ≤ sizeLine then .ok (.lst p.1, p.2) else .no := by simp only [evE] <;> rfl
@[simp] theorem e_idx (a i : Ex) : evE F (.idx a i) s = (opd a (evE F a s) s).bnd fun p => (evE F i p.2).bnd fun q => op2 idxD p.1 (.dd q.1) q.2 := by simp only [evE] <;> rfl
@[simp] theorem e_slc (a lo hi : Ex) : evE F (.slc a lo hi) s = (opd a (evE F a s) s).bnd fun p => (evP lo (evE F lo p.2) p.2).bnd fun q => (evP hi (evE F hi q.2) q.2).bnd fun r => op1 (fun d => slcD d q.1 r.1) p.1 r.2 := by simp only [evE] <;> rfl
@[simp] theorem e_call (k : Nat) (es : Exs) : evE F (.call k es) s = (evOs F es s).bnd fun p => cal F k p.1 p.2 := by simp only [evE] <;> rfl
@[simp] theorem e_bi (f : Bi) (es : Exs) : evE F (.bi f es) s = (evOs F es s).bnd fun p => match drs p.2 p.1 with
    | some ds => lift (opF f ds) p.2
    | none => .no := by simp only [evE] <;> rfl
@[simp] theorem e_isi (t : Ty) (a : Ex) : evE F (.isi t a) s = (opd a (evE F a s) s).bnd fun p => op1 (fun d => (isiD t d).map .bl) p.1 p.2 := by simp only [evE] <;> rfl
@[simp] theorem ep_om (r : R (D × Ms)) : evP .om r s = .ok (none, s) := rfl
@[simp] theorem ep_nm (i : Nat) (r : R (D × Ms)) : evP (.nm i) r s = r.bnd fun p => match p.1 with
    | .int i => .ok (some i, p.2)
    | _ => .no := rfl
@[simp] theorem ep_ct (d : D) (r : R (D × Ms)) : evP (.ct d) r s = r.bnd fun p => match p.1 with
    | .int i => .ok (some i, p.2)
    | _ => .no := rfl
@[simp] theorem ep_bin (o : BOp) (a b : Ex) (r : R (D × Ms)) : evP (.bin o a b) r s = r.bnd fun p => match p.1 with
    | .int i => .ok (some i, p.2)
    | _ => .no := rfl
@[simp] theorem ep_neg (a : Ex) (r : R (D × Ms)) : evP (.neg a) r s = r.bnd fun p => match p.1 with
    | .int i => .ok (some i, p.2)
    | _ => .no := rfl
@[simp] theorem ep_idx (a b : Ex) (r : R (D × Ms)) : evP (.idx a b) r s = r.bnd fun p => match p.1 with
    | .int i => .ok (some i, p.2)
    | _ => .no := rfl
@[simp] theorem ep_bi (k : Bi) (a : Exs) (r : R (D × Ms)) : evP (.bi k a) r s = r.bnd fun p => match p.1 with
    | .int i => .ok (some i, p.2)
    | _ => .no := rfl
@[simp] theorem ep_call (k : Nat) (a : Exs) (r : R (D × Ms)) : evP (.call k a) r s = r.bnd fun p => match p.1 with
    | .int i => .ok (some i, p.2)
    | _ => .no := rfl
@[simp] theorem ep_gl (k : Nat) (i : Int) (r : R (D × Ms)) : evP (.gl k i) r s = r.bnd fun p => match p.1 with
    | .int i => .ok (some i, p.2)
    | _ => .no := rfl
@[simp] theorem es_nil : evEs F .nil s = .ok ([], s) := by simp only [evEs] <;> rfl
@[simp] theorem es_cons (e : Ex) (es : Exs) : evEs F (.cons e es) s = (evE F e s).bnd fun p => (evEs F es p.2).bnd fun q => .ok (p.1 :: q.1, q.2) := by simp only [evEs] <;> rfl
@[simp] theorem eo_nil : evOs F .nil s = .ok ([], s) := by simp only [evOs] <;> rfl
@[simp] theorem eo_cons (e : Ex) (es : Exs) : evOs F (.cons e es) s = (opd e (evE F e s) s).bnd fun p => (evOs F es p.2).bnd fun q => .ok (p.1 :: q.1, q.2) := by simp only [evOs] <;> rfl
@[simp] theorem ei_seq (e : Ex) : evI F (.seq e) s = (evE F e s).bnd fun p => match seqD p.1 with
    | some ds => .ok (ds, p.2)
    | none => .no := by simp only [evI] <;> rfl
theorem ei_rng1 (a : Ex) : evI F (.rng1 a) s = (evE F a s).bnd fun p => match p.1 with
    | .int j => if rngOk j then .ok (rngD 0 j, p.2) else .no
    | _ => .no := by simp only [evI] <;> rfl
theorem ei_rng2 (a b : Ex) : evI F (.rng2 a b) s = (evE F a s).bnd fun p => (evE F b p.2).bnd fun q => match p.1, q.1 with
    | .int i, .int j => if rngOk i && rngOk j then .ok (rngD i j, q.2) else .no
    | _, _ => .no := by simp only [evI] <;> rfl
@[simp] theorem ei_zip (a b : Ex) : evI F (.zip a b) s = (evE F a s).bnd fun p => (evE F b p.2).bnd fun q => match zipS p.1 q.1 with
    | some xy => .ok (zipD xy.1 xy.2, q.2)
    | none => .no := by simp only [evI] <;> rfl
@[simp] theorem ei_enu (a : Ex) : evI F (.enu a) s = (evE F a s).bnd fun p => match lstD p.1 with
    | some ds => .ok (enuD 0 ds, p.2)
    | none => .no := by simp only [evI] <;> rfl
@[simp] theorem ss_nil : evSs F .nil s = .nx s := by simp only [evSs] <;> rfl
@[simp] theorem ss_cons (a : Sm) (r : Sms) : evSs F (.cons a r) s = match evS F a s with
    | .nx s' => evSs F r s'
    | o => o := by simp only [evSs] <;> rfl
@[simp] theorem s_asg (i : Nat) (fr : Bool) (e : Ex) : evS F (.asg (.nm i fr) e) s = (evR F fr e s).out fun p => .nx (putL p.2 i fr p.1) := by simp only [evS] <;> rfl
@[simp] theorem s_asgx (i : Nat) (k e : Ex) : evS F (.asg (.ix i k) e) s = (evE F e s).out fun p => ofO (stL (.ix i k) p.1 p.2) := by simp only [evS] <;> rfl
@[simp] theorem s_asgxx (i : Nat) (j k e : Ex) : evS F (.asg (.ix2 i j k) e) s = (evE F e s).out fun p => ofO (stL (.ix2 i j k) p.1 p.2) := by simp only [evS] <;> rfl
@[simp] theorem s_asg2 (i j : Nat) (fi fj : Bool) (a b : Ex) : evS F (.asg2 (.nm i fi) (.nm j fj) a b) s = (evR F fi a s).out fun p => (evR F fj b p.2).out fun q => if i == j then .no else .nx (putL (putL q.2 i fi p.1) j fj q.1) := by simp only [evS] <;> rfl
@[simp] theorem s_unp (is : List Nat) (e : Ex) : evS F (.unp is e) s = (evE F e s).out fun p => ofO (bindT (.many is) p.1 p.2) := by simp only [evS] <;> rfl
@[simp] theorem s_ret (fr : Bool) (e : Ex) : evS F (.ret fr e) s = (evR F fr e s).out fun p => .rt p.1 fr p.2 := by simp only [evS] <;> rfl
@[simp] theorem s_retN : evS F .retN s = .rt .non false s := by simp only [evS] <;> rfl
@[simp] theorem s_exp (e : Ex) : evS F (.exp e) s = (evE F e s).out fun p => .nx p.2 := by simp only [evS] <;> rfl
@[simp] theorem s_pas : evS F .pas s = .nx s := by simp only [evS] <;> rfl
@[simp] theorem s_brk : evS F .brk s = .bk s := by simp only [evS] <;> rfl
@[simp] theorem s_rai (c : Nat) : evS F (.rai c) s = .ex ⟨c, []⟩ s := by simp only [evS] <;> rfl
@[simp] theorem s_cnt : evS F .cnt s = .ct s := by simp only [evS] <;> rfl
@[simp] theorem s_ifs (c : Ex) (a b : Sms) : evS F (.ifs c a b) s = (evE F c s).out fun p => match p.1 with
    | .bl true => evSs F a p.2
    | .bl false => evSs F b p.2
    | _ => .no := by simp only [evS] <;> rfl
@[simp] theorem s_fors (tg : Tg) (it : It) (b : Sms) : evS F (.fors tg it b) s = (evI F it s).out fun p => forL (forF F tg b) p.1 p.2 := evS_for
@[simp] theorem s_app (i : Nat) (e : Ex) : evS F (.app i e) s = if hasS s i then ((evE F e s).out fun p => match p.2.sl[i]? with
    | some (.ow (.lst ds)) => if ds.length < sizeLine then .nx (p.2.put i (.ow (.lst (ds ++ [p.1])))) else .no
    | _ => .no) else .no := by simp only [evS] <;> rfl
@[simp] theorem evR_false (e : Ex) : evR F false e s = evE F e s := rfl
@[simp] theorem chkT_ok (b : Bool) (f : Bool → Ms → R (D × Ms)) : chkT (.ok (.bl b, s)) f = f b s := rfl
@[simp] theorem lift_some (d : D) : lift (some d) s = .ok (d, s) := rfl
@[simp] theorem dr_dd (d : D) : dr s (.dd d) = some d := rfl
@[simp] theorem putMk (sl : List Sl) (ob : List Ob) (i : Nat) (x : Sl) : (⟨sl, ob⟩ : Ms).put i x = ⟨sl.set i x, ob⟩ := rfl
@[simp] theorem putL_f (sl : List Sl) (ob : List Ob) (i : Nat) (d : D) : putL ⟨sl, ob⟩ i false d = ⟨sl.set i (.va d), ob⟩ := rfl
@[simp] theorem putL_t (sl : List Sl) (ob : List Ob) (i : Nat) (d : D) : putL ⟨sl, ob⟩ i true d = ⟨sl.set i (ownS d), ob⟩ := rfl
@[simp] theorem ownS_l (ds : List D) : ownS (.lst ds) = .ow (.lst ds) := rfl
theorem szl (n : Nat) (h : n ≤ 100000) : n ≤ sizeLine := Nat.le_trans h (by decide)
theorem rngOk_small {n : Int} (h0 : -1000000 ≤ n) (h : n ≤ 1000000) : rngOk n = true := by
  unfold rngOk
  simp only [Bool.and_eq_true, decide_eq_true_eq]
  omega
theorem ev_rng1 {a : Ex} {s' : Ms} {n : Int} (h : evE F a s = .ok (.int n, s')) (h0 : -1000000 ≤ n) (hn : n ≤ 1000000) : evI F (.rng1 a) s = .ok (rngD 0 n, s') := by
  rw [ei_rng1, h]
  simp only [R_ok, rngOk_small h0 hn, if_true]
theorem ev_rng2 {a b : Ex} {s' s2 : Ms} {m n : Int} (h : evE F a s = .ok (.int m, s')) (h' : evE F b s' = .ok (.int n, s2)) (g0 : -1000000 ≤ m) (gn : m ≤ 1000000) (h0 : -1000000 ≤ n) (hn : n ≤ 1000000) : evI F (.rng2 a b) s = .ok (rngD m n, s2) := by
  rw [ei_rng2, h]
  simp only [R_ok, h', rngOk_small g0 gn, rngOk_small h0 hn, Bool.and_self, if_true]
theorem ev_rngN1 {i : Nat} {n : Int} (h : s.sl[i]? = some (.va (.int n))) (h0 : -1000000 ≤ n) (hn : n ≤ 1000000) : evI F (.rng1 (.nm i)) s = .ok (rngD 0 n, s) := ev_rng1 (by simp only [e_nm, rdN, h]) h0 hn
theorem ev_rng1s {a : Ex} {n : Int} (h : evE F a s = .ok (.int n, s)) (h0 : -1000000 ≤ n) (hn : n ≤ 1000000) : evI F (.rng1 a) s = .ok (rngD 0 n, s) := ev_rng1 h h0 hn
theorem ev_rng2s {a b : Ex} {m n : Int} (h : evE F a s = .ok (.int m, s)) (h' : evE F b s = .ok (.int n, s)) (g0 : -1000000 ≤ m) (gn : m ≤ 1000000) (h0 : -1000000 ≤ n) (hn : n ≤ 1000000) : evI F (.rng2 a b) s = .ok (rngD m n, s) := ev_rng2 h h' g0 gn h0 hn
/-! ### loops -/
theorem forL_inv {f : D → Ms → Out} (P : Nat → Ms → Prop) : ∀ {ds : List D} {s : Ms} (i0 : Nat), P i0 s → (∀ i d s, ds[i]? = some d → P (i0 + i) s → ∃ s', (f d s = .nx s' ∨ f d s = .ct s') ∧ P (i0 + i + 1) s') → ∃ s', forL f ds s = .nx s' ∧ P (i0 + ds.length) s'
  | [], s, i0, h, _ => ⟨s, rfl, by simpa using h⟩
  | d :: ds, s, i0, h, k => by
    obtain ⟨s1, h1, h2⟩ := k 0 d s rfl (by simpa using h)
    obtain ⟨s2, h3, h4⟩ := forL_inv (ds := ds) (s := s1) P (i0 + 1) (by simpa using h2) fun i d s hd hp => by
      obtain ⟨s', a, b⟩ := k (i + 1) d s (by simpa using hd) (by rw [← Nat.add_assoc, Nat.add_right_comm]; exact hp)
      exact ⟨s', a, by rw [Nat.add_right_comm i0 1 i]; exact b⟩
    refine ⟨s2, ?_, by rw [List.length_cons, Nat.add_comm ds.length 1, ← Nat.add_assoc]; exact h4⟩
    unfold forL
    rcases h1 with h1 | h1
    · rw [h1]; exact h3
    · rw [h1]; exact h3
/-- a comprehension of one name whose turns leave the rest as it was -/
theorem compL_one {f : D → Ms → R (Option D × Ms)} {g : D → Option D} {i : Nat} : ∀ {ds : List D} {s : Ms}, i < s.sl.length → (∀ d ∈ ds, ∀ x, f d (s.put i x) = .ok (g d, s.put i (.va d))) → ∃ x, compL f ds s = .ok (ds.filterMap g, s.put i x)
  | [], s, hi, h => ⟨s.sl[i], by
    unfold compL Ms.put
    rw [List.set_getElem_self]; rfl⟩
  | d :: ds, s, hi, h => by
    have h0 : f d s = .ok (g d, s.put i (.va d)) := by
      have := h d (by simp) s.sl[i]
      unfold Ms.put at this
      rw [List.set_getElem_self] at this
      exact this
    obtain ⟨x, h1⟩ := compL_one (ds := ds) (s := s.put i (.va d)) (by simpa [Ms.put] using hi) fun d' hd x => by
      rw [put_put, put_put]
      exact h d' (by simp [hd]) x
    refine ⟨x, ?_⟩
    unfold compL
    rw [h0]
    simp only [noEx, R_ok]
    rw [h1, put_put]
    cases hg : g d with
    | none => simp [hg]
    | some y => simp [hg]
theorem rest_put {i : Nat} {s : Ms} {x : Sl} (hi : i < s.sl.length) : rest [i] s (s.put i x) = s := by
  rw [rest_cons]
  show (s.put i x).put i _ = s
  rw [put_put]
  unfold Ms.put
  rw [List.getD_eq_getElem?_getD, List.getElem?_eq_getElem hi, Option.getD_some, List.set_getElem_self]
theorem ev_comp1 {x cd : Ex} {it : It} {i : Nat} {g : D → Option D} {ds : List D} {s' : Ms} (hit : evI F it s = .ok (ds, s')) (hi : i < s'.sl.length) (ho : ownOk [i] s' = true) (hl : (ds.filterMap g).length ≤ sizeLine)
    (h : ∀ d ∈ ds, (condR cd (evE F cd (s'.put i (.va d))) (s'.put i (.va d))).bnd (fun t => if t.1 then (evE F x t.2).bnd fun y => .ok (some y.1, y.2) else .ok (none, t.2)) = .ok (g d, s'.put i (.va d))) : evE F (.comp x (.one i) it cd [i]) s = .ok (.lst (ds.filterMap g), s') := by
  rw [evE_comp, hit]
  simp only [R_ok]
  obtain ⟨y, hy⟩ := compL_one (f := compF F x (.one i) cd [i]) (g := g) hi fun d hd x => by
    unfold compF
    have e1 : bindT (.one i) d (wipeM [i] (s'.put i x)) = some (s'.put i (.va d)) := by
      show some (((s'.put i x).put i .un).put i (.va d)) = _
      rw [put_put, put_put]
    rw [e1]
    exact h d hd
  rw [hy]
  simp only [R_ok]
  rw [if_pos (by simp [hl, ho]), rest_put hi]
end Mi
/-! Part P2: data by length and depth; the draws. -/
namespace Mi
open PySem
/-- of at most L items at each place, at most n deep -/
def sh (L : Nat) : Nat → D → Bool
  | 0, _ => false
  | _ + 1, .non => true
  | _ + 1, .bl _ => true
  | _ + 1, .int _ => true
  | _ + 1, .str x => PyData.strOk x && decide (x.length ≤ L)
  | n + 1, .tup ds => decide (ds.length ≤ L) && ds.all (sh L n)
  | n + 1, .lst ds => decide (ds.length ≤ L) && ds.all (sh L n)
  | _ + 1, _ => false
theorem sh_mono {L L' : Nat} (hL : L ≤ L') : ∀ {n n' : Nat} {d : D}, n ≤ n' → sh L n d = true → sh L' n' d = true
  | 0, _, _, _, h => by simp [sh] at h
  | n + 1, 0, _, hn, _ => by omega
  | n + 1, n' + 1, d, hn, h => by
    cases d <;> simp only [sh, Bool.and_eq_true, decide_eq_true_eq, List.all_eq_true, Bool.false_eq_true] at h ⊢
    · exact ⟨h.1, by omega⟩
    · exact ⟨by omega, fun x hx => sh_mono hL (by omega) (h.2 x hx)⟩
    · exact ⟨by omega, fun x hx => sh_mono hL (by omega) (h.2 x hx)⟩
mutual
theorem py_of_sh {L : Nat} : ∀ {n : Nat} {d : D}, sh L n d = true → ∃ x, d.py = some x ∧ x.canLay0 = true ∧ x.depth ≤ n
  | 0, _, h => by simp [sh] at h
  | n + 1, .non, _ => ⟨.none, rfl, by simp [PyData.canLay0], by simp [PyData.depth]⟩
  | n + 1, .bl b, _ => ⟨.bool b, rfl, by simp [PyData.canLay0], by simp [PyData.depth]⟩
  | n + 1, .int b, _ => ⟨.int b, rfl, by simp [PyData.canLay0], by simp [PyData.depth]⟩
  | n + 1, .str b, h => ⟨.str b, rfl, by simp [sh] at h; simp [PyData.canLay0, h], by simp [PyData.depth]⟩
  | n + 1, .tup ds, h => by
    simp only [sh, Bool.and_eq_true] at h
    obtain ⟨xs, h1, h2, h3⟩ := pys_of_sh h.2
    exact ⟨.tuple xs, by simp [D.py, h1], by simp [PyData.canLay0, h2], by simp [PyData.depth]; omega⟩
  | n + 1, .lst ds, h => by
    simp only [sh, Bool.and_eq_true] at h
    obtain ⟨xs, h1, h2, h3⟩ := pys_of_sh h.2
    exact ⟨.list xs, by simp [D.py, h1], by simp [PyData.canLay0, h2], by simp [PyData.depth]; omega⟩
  | n + 1, .scr _, h => by simp [sh] at h
  | n + 1, .fn _, h => by simp [sh] at h
  | n + 1, .obj _, h => by simp [sh] at h
  | n + 1, .dic _ _, h => by simp [sh] at h
theorem pys_of_sh {L : Nat} : ∀ {n : Nat} {ds : List D}, ds.all (sh L n) = true → ∃ xs, D.pys ds = some xs ∧ PyData.canLayAll0 xs = true ∧ PyData.depthAll xs ≤ n
  | n, [], _ => ⟨[], rfl, by simp [PyData.canLayAll0], by simp [PyData.depthAll]⟩
  | n, d :: ds, h => by
    simp only [List.all_cons, Bool.and_eq_true] at h
    obtain ⟨x, a1, a2, a3⟩ := py_of_sh h.1
    obtain ⟨xs, b1, b2, b3⟩ := pys_of_sh h.2
    exact ⟨x :: xs, by simp [D.pys, a1, b1], by simp [PyData.canLayAll0, a2, b2], by simp [PyData.depthAll]; omega⟩
end
theorem eqD_of {x y : PyData} {a b : D} (ha : a.py = some x) (hb : b.py = some y) (sa : SeqAt.shaped x = true) (sb : SeqAt.shaped y = true) : eqD a b = some (PyData.eqv x y) := by
  unfold eqD
  rw [ha, hb]
  simp [sa, sb]
theorem shaped_of {x : PyData} (h : x.canLay0 = true) (hd : x.depth ≤ 64) : SeqAt.shaped x = true := by
  unfold SeqAt.shaped
  simp [h, hd]
@[simp] theorem eqD_int (i j : Int) : eqD (.int i) (.int j) = some (i == j) := by
  rw [eqD_of rfl rfl (shaped_of (by simp [PyData.canLay0]) (by simp [PyData.depth])) (shaped_of (by simp [PyData.canLay0]) (by simp [PyData.depth]))]
  simp [PyData.eqv]
@[simp] theorem eqD_bl (i j : Bool) : eqD (.bl i) (.bl j) = some (i == j) := by
  rw [eqD_of rfl rfl (shaped_of (by simp [PyData.canLay0]) (by simp [PyData.depth])) (shaped_of (by simp [PyData.canLay0]) (by simp [PyData.depth]))]
  simp [PyData.eqv]
def isTupN : D → Bool
  | .tup [] => true
  | _ => false
theorem pys_nil {ds : List D} (h : D.pys ds = some []) : ds = [] := by
  cases ds with
  | nil => rfl
  | cons d ds =>
    simp only [D.pys] at h
    split at h <;> cases h
theorem eqD_tupN {L n : Nat} {d : D} (h : sh L n d = true) (hn : n ≤ 64) : eqD d (.tup []) = some (isTupN d) := by
  obtain ⟨x, h1, h2, h3⟩ := py_of_sh h
  rw [eqD_of (y := .tuple []) h1 rfl (shaped_of h2 (by omega)) (by decide)]
  congr 1
  cases d with
  | tup ds =>
    simp only [D.py] at h1
    obtain ⟨xs, e1, rfl⟩ := map_some h1
    cases ds with
    | nil => cases e1; rfl
    | cons d ds =>
      cases xs with
      | nil => have := pys_nil e1; cases this
      | cons y ys => simp [PyData.eqv, PyData.eqvAll, isTupN]
  | lst ds =>
    simp only [D.py] at h1
    obtain ⟨xs, e1, rfl⟩ := map_some h1
    simp [PyData.eqv, isTupN]
  | scr _ => cases h1
  | fn _ => cases h1
  | obj _ => cases h1
  | dic _ _ => cases h1
  | _ => cases h1; simp [PyData.eqv, isTupN]
theorem eqD_lstN {L n : Nat} {ds : List D} (h : ds.all (sh L n) = true) (hn : n < 64) : eqD (.lst ds) (.lst []) = some ds.isEmpty := by
  obtain ⟨xs, h1, h2, h3⟩ := pys_of_sh h
  rw [eqD_of (x := .list xs) (y := .list []) (by simp [D.py, h1]) rfl (shaped_of (by simp [PyData.canLay0, h2]) (by simp [PyData.depth]; omega)) (by decide)]
  congr 1
  cases ds with
  | nil => cases h1; simp [PyData.eqv, PyData.eqvAll]
  | cons d ds =>
    cases xs with
    | nil => have := pys_nil h1; cases this
    | cons y ys => simp [PyData.eqv, PyData.eqvAll]
/-! ### the laws' draws -/
def t_law_source : FnI := ⟨2, 3, [false, false],
  (.cons (.asg (.nm 2 false) (.ct (.int 0)))
  (.cons (.ifs (.cmp .lt (.nm 1) (.bi .len (.cons (.nm 0) .nil))) (.cons (.asg (.nm 2 false) (.bi .abs (.cons (.bi .int (.cons (.idx (.nm 0) (.nm 1)) .nil)) .nil)))
    .nil) .nil)
  (.cons (.ifs (.cmp .lt (.nm 2) (.bin .pow (.ct (.int 10)) (.ct (.int 18)))) (.cons (.ret true (.lst (.cons (.ct (.int 0)) (.cons (.bin .add (.ct (.int 1)) (.bin .mod (.bi .int (.cons (.bin .add (.bin .mul (.nm 2) (.ct (.int 7919))) (.bin .mul (.ct (.int 104729)) (.nm 1))) .nil)) (.ct (.int 2147483646)))) .nil))))
    .nil) .nil)
  (.cons (.ret true (.lst (.cons (.nm 2) (.cons (.bin .add (.ct (.int 1)) (.bin .mod (.bi .int (.cons (.bin .add (.nm 2) (.nm 1)) .nil)) (.ct (.int 2147483646)))) .nil))))
  .nil))))⟩
def t_law_draw : FnI := ⟨2, 3, [false, false],
  (.cons (.ifs (.cmp .gt (.idx (.nm 0) (.ct (.int 0))) (.ct (.int 0))) (.cons (.asg (.nm 2 false) (.bin .mod (.bi .int (.cons (.idx (.nm 0) (.ct (.int 0))) .nil)) (.nm 1)))
    (.cons (.asg (.ix 0 (.ct (.int 0))) (.bin .fdiv (.idx (.nm 0) (.ct (.int 0))) (.nm 1)))
    (.cons (.ret false (.nm 2))
    .nil))) .nil)
  (.cons (.asg (.ix 0 (.ct (.int 1))) (.bin .mod (.bi .int (.cons (.bin .mul (.idx (.nm 0) (.ct (.int 1))) (.ct (.int 48271))) .nil)) (.ct (.int 2147483647))))
  (.cons (.ret false (.bin .mod (.bi .int (.cons (.bin .fdiv (.bin .mod (.bi .int (.cons (.bin .mul (.idx (.nm 0) (.ct (.int 1))) (.idx (.nm 0) (.ct (.int 1)))) .nil)) (.ct (.int 2147483629))) (.ct (.int 64))) .nil)) (.nm 1)))
  .nil)))⟩
/-- a source as the laws keep it -/
structure Src where
  a : Int
  b : Int
  ha : 0 ≤ a
  hb : 0 ≤ b
  hb2 : b < 2147483648
def Src.sl (x : Src) : Sl := .ow (.lst [.int x.a, .int x.b])
theorem mulOk_small {i j : Int} (hi : i.natAbs < 2 ^ 64) (hj : j.natAbs < 2 ^ 64) : mulOk i j = true := by
  unfold mulOk
  have h1 : i.natAbs.log2 < 64 ∨ i.natAbs = 0 := by
    by_cases z : i.natAbs = 0
    · exact .inr z
    · exact .inl ((Nat.log2_lt z).mpr hi)
  have h2 : j.natAbs.log2 < 64 ∨ j.natAbs = 0 := by
    by_cases z : j.natAbs = 0
    · exact .inr z
    · exact .inl ((Nat.log2_lt z).mpr hj)
  have z0 : Nat.log2 0 = 0 := by decide
  rcases h1 with h1 | h1 <;> rcases h2 with h2 | h2 <;> simp [h1, h2, z0] <;> omega
theorem divOk_small {j : Int} (h0 : 0 < j) (hj : j < 2 ^ 64) : divOk j = true := by
  unfold divOk
  have h1 : j.natAbs.log2 < 64 := (Nat.log2_lt (by omega)).mpr (by omega)
  simp [h0]
  omega
theorem draw_run (F : Fh) (x : Src) {m : Int} (h0 : 0 < m) (h1 : m < 2 ^ 32) (ob : List Ob) : ∃ r y, 0 ≤ r ∧ r < m ∧ runF F t_law_draw [x.sl, .va (.int m)] ob = .ok (.int r) false [Src.sl y, .va (.int m)] ob := by
  by_cases hx : 0 < x.a
  · refine ⟨x.a % m, ⟨x.a / m, x.b, Int.ediv_nonneg x.ha (by omega), x.hb, x.hb2⟩, Int.emod_nonneg _ (by omega), Int.emod_lt_of_pos _ h0, ?_⟩
    have hd := divOk_small h0 (by omega)
    simp [runF, t_law_draw, Src.sl, isSet, op2, dr, drs, idxD, L2.atI, L2.ixN, opC, cmpD, hx, opF, opB, modD, fdivD, h0, hd, stL, evC, setI, ofO, rdN, outsF]
  · have ha : x.a = 0 := by have := x.ha; omega
    have m1 : mulOk x.b 48271 = true := mulOk_small (by have := x.hb; have := x.hb2; omega) (by decide)
    have n0 := Int.emod_nonneg (x.b * 48271) (show (2147483647 : Int) ≠ 0 by decide)
    have n1 := Int.emod_lt_of_pos (x.b * 48271) (show (0 : Int) < 2147483647 by decide)
    have m2 : mulOk (x.b * 48271 % 2147483647) (x.b * 48271 % 2147483647) = true := mulOk_small (by omega) (by omega)
    have d1 : divOk 64 = true := divOk_small (by decide) (by decide)
    refine ⟨(x.b * 48271 % 2147483647 * (x.b * 48271 % 2147483647) % 2147483629 / 64) % m, ⟨0, x.b * 48271 % 2147483647, by decide, n0, by omega⟩, Int.emod_nonneg _ (by omega), Int.emod_lt_of_pos _ h0, ?_⟩
    simp [runF, t_law_draw, Src.sl, isSet, op2, dr, drs, idxD, L2.atI, L2.ixN, opC, cmpD, ha, opF, opB, modD, fdivD, mulD, h0, m1, m2, d1, stL, evC, setI, ofO, rdN, outsF]
def Src.d (x : Src) : D := .lst [.int x.a, .int x.b]
theorem atI_nat {α : Type} {xs : List α} {k : Nat} (h : k < xs.length) : L2.atI xs (k : Int) = some xs[k] := by
  unfold L2.atI L2.ixN
  simp [h]
theorem source_mid {k : Nat} (hk : k < 4096) (c : Int) (hc : 0 ≤ c) : ∃ y : Src, (if c < 10 ^ 18 then ([D.int 0, D.int (1 + (c * 7919 + 104729 * k) % 2147483646)] : List D) else [D.int c, D.int (1 + (c + k) % 2147483646)]) = [.int y.a, .int y.b] := by
  have n0 := Int.emod_nonneg (c * 7919 + 104729 * k) (show (2147483646 : Int) ≠ 0 by decide)
  have n1 := Int.emod_lt_of_pos (c * 7919 + 104729 * k) (show (0 : Int) < 2147483646 by decide)
  have n2 := Int.emod_nonneg (c + k) (show (2147483646 : Int) ≠ 0 by decide)
  have n3 := Int.emod_lt_of_pos (c + k) (show (0 : Int) < 2147483646 by decide)
  by_cases h : c < 10 ^ 18
  · exact ⟨⟨0, 1 + (c * 7919 + 104729 * k) % 2147483646, by decide, by omega, by omega⟩, by rw [if_pos h]⟩
  · exact ⟨⟨c, 1 + (c + k) % 2147483646, hc, by omega, by omega⟩, by rw [if_neg h]⟩
theorem source_run (F : Fh) (ns : List Int) {k : Nat} (hk : k < 4096) (ob : List Ob) : ∃ y : Src, runF F t_law_source [.va (.scr ns), .va (.int k)] ob = .ok y.d true [.va (.scr ns), .va (.int k)] ob := by
  have p1 : powOk 10 18 = true := by decide
  have sz : 2 ≤ sizeLine := by decide
  have m0 : mulOk 104729 k = true := mulOk_small (by decide) (by omega)
  have e18 : (10 : Int) ^ 18 = 1000000000000000000 := by decide
  by_cases h : k < ns.length
  · have hI : (k : Int) < ns.length := by omega
    have hc : ∀ c : Int, 0 ≤ c → (if ns[k] < 0 then -ns[k] else ns[k]) = c → ∃ y : Src, runF F t_law_source [.va (.scr ns), .va (.int k)] ob = .ok y.d true [.va (.scr ns), .va (.int k)] ob := fun c hc e => by
      obtain ⟨y, hy⟩ := source_mid hk c hc
      refine ⟨y, ?_⟩
      unfold Src.d
      rw [← hy]
      by_cases hs : c < 1000000000000000000
      · have m1 : mulOk c 7919 = true := mulOk_small (by omega) (by decide)
        simp [runF, t_law_source, isSet, op2, dr, drs, idxD, atI_nat h, opC, cmpD, hI, opF, opB, addD, modD, powD, mulD, p1, m0, rdN, outsF, evR, isFr, e, hs, e18, m1, sz]
      · simp [runF, t_law_source, isSet, op2, dr, drs, idxD, atI_nat h, opC, cmpD, hI, opF, opB, addD, modD, powD, mulD, p1, m0, rdN, outsF, evR, isFr, e, hs, e18, sz]
    refine hc _ ?_ rfl
    by_cases z : ns[k] < 0
    · rw [if_pos z]; omega
    · rw [if_neg z]; omega
  · have hI : ¬ (k : Int) < ns.length := by omega
    obtain ⟨y, hy⟩ := source_mid hk 0 (by decide)
    refine ⟨y, ?_⟩
    unfold Src.d
    rw [← hy]
    have m1 : mulOk 0 7919 = true := by decide
    simp [runF, t_law_source, isSet, op2, dr, drs, idxD, opC, cmpD, hI, opF, opB, addD, modD, powD, mulD, p1, m0, rdN, outsF, evR, isFr, e18, m1, sz]
theorem callM_at {Γ : List FnI} {wf n k : Nat} {f : FnI} {ps : List Sl} {ob : List Ob} (h : Γ[k]? = some f) : callM Γ wf (n + 1) k ps ob = runF (fhOf Γ wf n) f ps ob := by
  exact callM_eq h
end Mi
/-! Part L: defs that the laws share. -/
namespace Mi
open PySem
/-- is_number: value least most -/
def t_is_number : FnI := ⟨3, 3, [false, false, false],
  (.cons (.ret false (.band (.isi .int (.nm 0)) (.band (.bnot (.isi .bool (.nm 0))) (.cmp2 .le .le (.nm 1) (.nm 0) (.nm 2)))))
  .nil)⟩
/-- is_row_of: value size least most one -/
def t_is_row_of (k_is_number : Nat) : FnI := ⟨4, 5, [false, false, false, false],
  (.cons (.ret false (.band (.isi .tuple (.nm 0)) (.band (.cmp .eq (.bi .len (.cons (.nm 0) .nil)) (.nm 1)) (.bi .all (.cons (.comp (.call k_is_number (.cons (.nm 4) (.cons (.nm 2) (.cons (.nm 3) .nil)))) (.one 4) (.seq (.nm 0)) .om [4]) .nil)))))
  .nil)⟩
/-- is_good_table: value size one other row -/
def t_is_good_table (k_is_row_of : Nat) : FnI := ⟨1, 5, [false],
  (.cons (.ifs (.bor (.bnot (.isi .tuple (.nm 0))) (.bnot (.cmp2 .le .le (.ct (.int 1)) (.bi .len (.cons (.nm 0) .nil)) (.ct (.int 4))))) (.cons (.ret false (.ct (.bl false)))
    .nil) .nil)
  (.cons (.asg (.nm 1 false) (.bi .len (.cons (.nm 0) .nil)))
  (.cons (.ifs (.bnot (.bi .all (.cons (.comp (.call k_is_row_of (.cons (.nm 4) (.cons (.nm 1) (.cons (.neg (.ct (.int 9))) (.cons (.ct (.int 9)) .nil))))) (.one 4) (.seq (.nm 0)) .om [4]) .nil))) (.cons (.ret false (.ct (.bl false)))
    .nil) .nil)
  (.cons (.ret false (.bi .all (.cons (.comp2 (.cmp .eq (.idx (.idx (.nm 0) (.nm 2)) (.nm 3)) (.neg (.idx (.idx (.nm 0) (.nm 3)) (.nm 2)))) (.one 2) (.rng1 (.nm 1)) (.one 3) (.rng1 (.nm 1)) [2, 3]) .nil)))
  .nil))))⟩
/-- _law_of: source items -/
def t_law_of (k_law_draw : Nat) : FnI := ⟨2, 2, [false, false],
  (.cons (.ret false (.idx (.nm 1) (.call k_law_draw (.cons (.nm 0) (.cons (.bi .len (.cons (.nm 1) .nil)) .nil)))))
  .nil)⟩
/-- _law_table_by: size entries rows spots one spot entry place row other -/
def t_law_table_by : FnI := ⟨2, 10, [false, false],
  (.cons (.mat 2 0 0 7)
  (.cons (.asg (.nm 3 false) (.lst .nil))
  (.cons (.fors (.one 4) (.rng1 (.nm 0)) (.cons (.asg (.nm 3 false) (.bin .add (.nm 3) (.comp (.tup (.cons (.nm 4) (.cons (.nm 9) .nil))) (.one 9) (.rng2 (.bin .add (.nm 4) (.ct (.int 1))) (.nm 0)) .om [9])))
    .nil))
  (.cons (.fors (.many [5, 6]) (.zip (.nm 3) (.nm 1)) (.cons (.asg2 (.ix2 2 (.idx (.nm 5) (.ct (.int 0))) (.idx (.nm 5) (.ct (.int 1)))) (.ix2 2 (.idx (.nm 5) (.ct (.int 1))) (.idx (.nm 5) (.ct (.int 0)))) (.nm 6) (.neg (.nm 6)))
    .nil))
  (.cons (.ret false (.bi .tuple (.cons (.comp (.bi .tuple (.cons (.nm 8) .nil)) (.one 8) (.seq (.nm 2)) .om [8]) .nil)))
  .nil)))))⟩
/-- _law_table: source most high size entries turn entry -/
def t_law_table (k_law_draw : Nat) (k_law_table_by : Nat) : FnI := ⟨3, 7, [false, false, false],
  (.cons (.asg (.nm 3 false) (.bin .add (.ct (.int 1)) (.call k_law_draw (.cons (.nm 0) (.cons (.nm 1) .nil)))))
  (.cons (.asg (.nm 4 true) (.lst .nil))
  (.cons (.fors (.one 5) (.rng1 (.bin .fdiv (.bin .mul (.nm 3) (.bin .sub (.nm 3) (.ct (.int 1)))) (.ct (.int 2)))) (.cons (.asg (.nm 6 false) (.ite (.cmp .gt (.call k_law_draw (.cons (.nm 0) (.cons (.ct (.int 3)) .nil))) (.ct (.int 0))) (.call k_law_draw (.cons (.nm 0) (.cons (.bin .add (.nm 2) (.ct (.int 1))) .nil))) (.ct (.int 0))))
    (.cons (.app 4 (.ite (.cmp .eq (.call k_law_draw (.cons (.nm 0) (.cons (.ct (.int 2)) .nil))) (.ct (.int 0))) (.nm 6) (.neg (.nm 6))))
    .nil)))
  (.cons (.ret false (.call k_law_table_by (.cons (.nm 3) (.cons (.nm 4) .nil))))
  .nil))))⟩

theorem two_of {F : Fh} {x : Ex} {it it2 : It} {s s' : Ms} {i j : Nat} {ds : List D} {k : D → List D} {g : D → D → D} (hij : i ≠ j) (hit : evI F it s = .ok (ds, s')) (hi : i < s'.sl.length) (hj : j < s'.sl.length) (ho : ownOk [i, j] s' = true)
    (hl : (ds.flatMap fun d => (k d).map (g d)).length ≤ sizeLine)
    (h2 : ∀ d ∈ ds, evI F it2 ((s'.put j .un).put i (.va d)) = .ok (k d, (s'.put j .un).put i (.va d)))
    (h : ∀ d ∈ ds, ∀ y ∈ k d, evE F x ((s'.put j (.va y)).put i (.va d)) = .ok (g d y, (s'.put j (.va y)).put i (.va d))) :
    evE F (.comp2 x (.one i) it (.one j) it2 [i, j]) s = .ok (.lst (ds.flatMap fun d => (k d).map (g d)), s') := by
  have turn : ∀ d ∈ ds, ∀ a b, ∃ a' b', compO F x (.one i) (.one j) it2 [i, j] d ((s'.put j a).put i b) = .ok ((k d).map (g d), (s'.put j a').put i b') := fun d hd a b => by
    unfold compO
    have e1 : bindT (.one i) d (wipeM [i, j] ((s'.put j a).put i b)) = some ((s'.put j .un).put i (.va d)) := by
      show some (((((s'.put j a).put i b).put j .un).put i .un).put i (.va d)) = _
      rw [put_put, put_comm (s'.put j a) hij, put_put, put_put]
    rw [e1]
    simp only [h2 d hd, R_ok]
    obtain ⟨y, hy⟩ := compL_one (f := compI F x (.one j)) (g := fun y => some (g d y)) (i := j) (ds := k d) (s := (s'.put j .un).put i (.va d)) (by simpa [Ms.put] using hj) fun y hy z => by
      unfold compI
      have e2 : bindT (.one j) y (wipeM (tgs (.one j)) (((s'.put j .un).put i (.va d)).put j z)) = some ((s'.put j (.va y)).put i (.va d)) := by
        show some (((((s'.put j .un).put i (.va d)).put j z).put j .un).put j (.va y)) = _
        rw [put_put, put_put, put_comm _ hij, put_put]
      rw [e2]
      simp only [h d hd y hy, R_ok]
      rw [put_comm (s'.put j .un) hij, put_put]
    refine ⟨y, .va d, ?_⟩
    rw [hy, put_comm _ hij, put_put]
    simp
  have all : ∀ l : List D, (∀ d ∈ l, d ∈ ds) → ∀ a b, ∃ a' b', compL2 (compO F x (.one i) (.one j) it2 [i, j]) l ((s'.put j a).put i b) = .ok (l.flatMap fun d => (k d).map (g d), (s'.put j a').put i b') := by
    intro l
    induction l with
    | nil => exact fun _ a b => ⟨a, b, rfl⟩
    | cons d l ih =>
      intro hl a b
      obtain ⟨a1, b1, e1⟩ := turn d (hl d (by simp)) a b
      obtain ⟨a2, b2, e2⟩ := ih (fun d hd => hl d (by simp [hd])) a1 b1
      refine ⟨a2, b2, ?_⟩
      unfold compL2
      rw [e1]
      simp only [noEx, R_ok]
      rw [e2]
      simp
  have self : (s'.put j (s'.sl[j]'hj)).put i (s'.sl[i]'hi) = s' := by
    unfold Ms.put
    simp
  obtain ⟨a, b, e⟩ := all ds (fun _ h => h) (s'.sl[j]'hj) (s'.sl[i]'hi)
  rw [self] at e
  rw [evE_comp2, hit]
  simp only [R_ok]
  rw [e]
  simp only [R_ok]
  rw [if_pos (by rw [Bool.and_eq_true]; exact ⟨decide_eq_true hl, ho⟩)]
  congr 1
  rw [rest_cons, rest_cons]
  show (D.lst _, ((((s'.put j a).put i b).put j _).put i _)) = _
  congr 1
  rw [put_comm (s'.put j a) hij, put_put, put_put]
  unfold Ms.put
  rw [List.getD_eq_getElem?_getD, List.getD_eq_getElem?_getD, List.getElem?_eq_getElem hi, List.getElem?_eq_getElem hj]
  simp
theorem bools_map {α : Type} (p : α → Bool) : ∀ ds : List α, bools (ds.map fun d => .bl (p d)) = some (ds.map p)
  | [] => rfl
  | d :: ds => by simp [bools, bools_map p ds]
def plain : D → Bool
  | .non | .bl _ | .int _ | .str _ | .tup _ | .lst _ => true
  | _ => false
theorem plain_of_sh {L n : Nat} {d : D} (h : sh L n d = true) : plain d = true := by
  cases n with
  | zero => simp [sh] at h
  | succ n => cases d <;> simp [sh, plain] at h ⊢
def numB (a b : Int) : D → Bool
  | .int i => decide (a ≤ i) && decide (i ≤ b)
  | _ => false
theorem number_run (F : Fh) {v : D} (hv : plain v = true) (a b : Int) (ob : List Ob) : runF F t_is_number [.va v, .va (.int a), .va (.int b)] ob = .ok (.bl (numB a b v)) false [.va v, .va (.int a), .va (.int b)] ob := by
  cases v <;> first | (cases hv; done) | simp [runF, t_is_number, isSet, dr, op1, op2, isiD, outsF, opC, cmpD, numB, rdN]
  rename_i i
  by_cases h : a ≤ i <;> simp [h, outsF]
def NumOk (F : Fh) (k : Nat) : Prop := ∀ (v : D) (a b : Int) (ob : List Ob), plain v = true → F.run k [.va v, .va (.int a), .va (.int b)] ob = .ok (.bl (numB a b v)) false [.va v, .va (.int a), .va (.int b)] ob
def rowB (z a b : Int) : D → Bool
  | .tup ds => decide ((ds.length : Int) = z) && ds.all (numB a b)
  | _ => false
theorem row_run (F : Fh) {k : Nat} (hk : NumOk F k) {L n : Nat} {v : D} (hv : sh L n v = true) (hL : L ≤ 100000) (z a b : Int) (ob : List Ob) : runF F (t_is_row_of k) [.va v, .va (.int z), .va (.int a), .va (.int b)] ob = .ok (.bl (rowB z a b v)) false [.va v, .va (.int z), .va (.int a), .va (.int b)] ob := by
  cases n with
  | zero => simp [sh] at hv
  | succ n =>
    cases v <;> first | (simp [sh] at hv; done) | skip
    case tup ds =>
      simp only [sh, Bool.and_eq_true, decide_eq_true_eq, List.all_eq_true] at hv
      have hc : evE F (.comp (.call k (.cons (.nm 4) (.cons (.nm 2) (.cons (.nm 3) .nil)))) (.one 4) (.seq (.nm 0)) .om [4]) ⟨[.va (.tup ds), .va (.int z), .va (.int a), .va (.int b), .un], ob⟩ =
          .ok (.lst (ds.filterMap fun d => some (.bl (numB a b d))), ⟨[.va (.tup ds), .va (.int z), .va (.int a), .va (.int b), .un], ob⟩) := by
        refine ev_comp1 (by simp [rdN, seqD]) (by simp) (by simp [ownOk]) (by simpa using szl _ (by omega)) fun d hd => ?_
        simp [condR, isSet, cal, calF, lend, hk d a b ob (plain_of_sh (hv.2 d hd)), back]
      by_cases h : (ds.length : Int) = z
      · simp [runF, t_is_row_of, isSet, dr, drs, op1, op2, isiD, outsF, opC, opF, hc, rowB, h, bools_map]
      · simp [runF, t_is_row_of, isSet, dr, drs, op1, op2, isiD, outsF, opC, opF, rowB, h]
    all_goals simp [runF, t_is_row_of, isSet, dr, drs, op1, op2, isiD, outsF, rowB]
end Mi
/-! Part L2: tables recognized. -/
namespace Mi
open PySem
theorem rng0 (n : Nat) : rngD 0 (n : Int) = (List.range n).map fun i : Nat => D.int (i : Int) := by
  unfold rngD
  simp
theorem mem_rng {n : Nat} {d : D} (h : d ∈ rngD 0 (n : Int)) : ∃ i : Nat, i < n ∧ d = .int (i : Int) := by
  rw [rng0] at h
  obtain ⟨i, h1, rfl⟩ := List.mem_map.mp h
  exact ⟨i, List.mem_range.mp h1, rfl⟩
theorem bools_flat {α β : Type} (p : α → β → Bool) (m : List β) : ∀ l : List α, bools (l.flatMap fun i => m.map fun j => .bl (p i j)) = some (l.flatMap fun i => m.map (p i))
  | [] => rfl
  | i :: l => by
    have app : ∀ (x : List β) (y : List D) (z : List Bool), bools y = some z → bools ((x.map fun j => .bl (p i j)) ++ y) = some (x.map (p i) ++ z) := by
      intro x
      induction x with
      | nil => exact fun y z h => by simpa using h
      | cons a x ih => exact fun y z h => by simp [bools, ih y z h]
    rw [List.flatMap_cons, List.flatMap_cons]
    exact app m _ _ (bools_flat p m l)
theorem all_flat {α β : Type} (p : α → β → Bool) (m : List β) (l : List α) : (l.flatMap fun i => m.map (p i)).all id = l.all fun i => m.all (p i) := by
  simp [List.all_flatMap, List.all_map]
def ent (rows : List D) (i j : Nat) : Int := match rows[i]? with
  | some (.tup ds) => (match ds[j]? with
    | some (.int x) => x
    | _ => 0)
  | _ => 0
def antiB (rows : List D) : Bool := (List.range rows.length).all fun i => (List.range rows.length).all fun j => ent rows i j == - ent rows j i
def tabB : D → Bool
  | .tup rows => decide (1 ≤ rows.length) && decide (rows.length ≤ 4) && rows.all (rowB rows.length (-9) 9) && antiB rows
  | _ => false
theorem tabB_tup (rows : List D) : tabB (.tup rows) = (decide (1 ≤ rows.length) && decide (rows.length ≤ 4) && rows.all (rowB rows.length (-9) 9) && antiB rows) := rfl
theorem flat_len {α β γ : Type} (f : α → β → γ) (m : List β) : ∀ l : List α, (l.flatMap fun d => m.map (f d)).length = l.length * m.length
  | [] => by simp
  | a :: l => by rw [List.flatMap_cons, List.length_append, flat_len f m l, List.length_map, List.length_cons, Nat.succ_mul, Nat.add_comm]
/-- an entry of good rows -/
theorem ent_at {rows : List D} {a b : Int} (h : ∀ d ∈ rows, rowB rows.length a b d = true) {i j : Nat} (hi : i < rows.length) (hj : j < rows.length) : ∃ ds, rows[i]? = some (.tup ds) ∧ ds.length = rows.length ∧ ds[j]? = some (.int (ent rows i j)) ∧ a ≤ ent rows i j ∧ ent rows i j ≤ b := by
  have h1 := h rows[i] (List.getElem_mem hi)
  have e1 : rows[i]? = some rows[i] := List.getElem?_eq_getElem hi
  cases hd : rows[i] <;> rw [hd] at h1 <;> simp only [rowB, Bool.false_eq_true, Bool.and_eq_true, decide_eq_true_eq, List.all_eq_true] at h1
  rename_i ds
  obtain ⟨l1, l2⟩ := h1
  have l3 : ds.length = rows.length := by omega
  have h2 := l2 ds[j] (List.getElem_mem (by omega))
  have e2 : ds[j]? = some ds[j] := List.getElem?_eq_getElem (by omega)
  cases hx : ds[j]'(by omega) <;> rw [hx] at h2 <;> simp only [numB, Bool.false_eq_true, Bool.and_eq_true, decide_eq_true_eq] at h2
  rename_i x
  have e3 : ent rows i j = x := by
    unfold ent
    rw [e1, hd]
    simp only [e2, hx]
  refine ⟨ds, by rw [e1, hd], l3, by rw [e2, hx, e3], by omega, by omega⟩
theorem idx_at {ds : List D} {i : Nat} {d : D} (h : ds[i]? = some d) : idxD (.tup ds) (.int (i : Int)) = some d := by
  show L2.atI ds (i : Int) = some d
  obtain ⟨h1, h2⟩ := List.getElem?_eq_some_iff.mp h
  rw [atI_nat h1, h2]
theorem idx_atL {ds : List D} {i : Nat} {d : D} (h : ds[i]? = some d) : idxD (.lst ds) (.int (i : Int)) = some d := by
  show L2.atI ds (i : Int) = some d
  obtain ⟨h1, h2⟩ := List.getElem?_eq_some_iff.mp h
  rw [atI_nat h1, h2]
def RowOk (F : Fh) (k : Nat) : Prop := ∀ (L n : Nat) (v : D) (z a b : Int) (ob : List Ob), sh L n v = true → L ≤ 100000 → F.run k [.va v, .va (.int z), .va (.int a), .va (.int b)] ob = .ok (.bl (rowB z a b v)) false [.va v, .va (.int z), .va (.int a), .va (.int b)] ob
def goodC (k : Nat) : Ex := .comp (.call k (.cons (.nm 4) (.cons (.nm 1) (.cons (.neg (.ct (.int 9))) (.cons (.ct (.int 9)) .nil))))) (.one 4) (.seq (.nm 0)) .om [4]
def goodD : Ex := .comp2 (.cmp .eq (.idx (.idx (.nm 0) (.nm 2)) (.nm 3)) (.neg (.idx (.idx (.nm 0) (.nm 3)) (.nm 2)))) (.one 2) (.rng1 (.nm 1)) (.one 3) (.rng1 (.nm 1)) [2, 3]
theorem good_c (F : Fh) {k : Nat} (hk : RowOk F k) {L n : Nat} {rows : List D} (hL : L ≤ 100000) (hv1 : rows.length ≤ L) (hv2 : ∀ d ∈ rows, sh L n d = true) (ob : List Ob) : evE F (goodC k) ⟨[.va (.tup rows), .va (.int rows.length), .un, .un, .un], ob⟩ =
          .ok (.lst (rows.map fun d => .bl (rowB rows.length (-9) 9 d)), ⟨[.va (.tup rows), .va (.int rows.length), .un, .un, .un], ob⟩) := by
  have hm : (rows.filterMap fun d => some (D.bl (rowB rows.length (-9) 9 d))) = rows.map fun d => D.bl (rowB rows.length (-9) 9 d) := by simp
  rw [← hm]
  refine ev_comp1 (by simp [rdN, seqD]) (by simp) (by simp [ownOk]) (by rw [hm, List.length_map]; exact szl _ (by omega)) fun d hd => ?_
  simp [condR, isSet, cal, calF, lend, hk L n d rows.length (-9) 9 ob (hv2 d hd) hL, back]
theorem good_d (F : Fh) {rows : List D} (h4 : rows.length ≤ 4) (hr0 : ∀ d ∈ rows, rowB rows.length (-9) 9 d = true) (ob : List Ob) : ∃ ds, evE F goodD ⟨[.va (.tup rows), .va (.int rows.length), .un, .un, .un], ob⟩ = .ok (.lst ds, ⟨[.va (.tup rows), .va (.int rows.length), .un, .un, .un], ob⟩) ∧ (bools ds).map (fun bs => D.bl (bs.all id)) = some (.bl (antiB rows)) := by
  refine ⟨(rngD 0 (rows.length : Int)).flatMap fun d => (rngD 0 (rows.length : Int)).map ((fun d y => match d, y with
            | .int i, .int j => D.bl (ent rows i.toNat j.toNat == - ent rows j.toNat i.toNat)
            | _, _ => .non) d), two_of (k := fun _ => rngD 0 (rows.length : Int)) (by decide) (ev_rng1 (by simp [rdN]) (by omega) (by omega)) (by simp) (by simp) (by simp [ownOk]) ?_ (fun d hd => ev_rng1 (by simp [rdN]) (by omega) (by omega)) fun d hd y hy => ?_, ?_⟩
  · refine szl _ ?_
    rw [flat_len, rngD_len]
    have e : ((rows.length : Int) - 0).toNat = rows.length := by omega
    rw [e]
    have : rows.length * rows.length ≤ 4 * 4 := Nat.mul_le_mul h4 h4
    omega
  · obtain ⟨i, hi, rfl⟩ := mem_rng hd
    obtain ⟨j, hj, rfl⟩ := mem_rng hy
    obtain ⟨r1, a1, a2, a3, _⟩ := ent_at hr0 hi hj
    obtain ⟨r2, b1, b2, b3, _⟩ := ent_at hr0 hj hi
    simp [isSet, dr, op2, rdN, idx_at a1, idx_at a3, idx_at b1, idx_at b3, opC]
  · rw [rng0]
    have := bools_flat (fun i j => ent rows i j == - ent rows j i) (List.range rows.length) (List.range rows.length)
    have e2 : ((List.range rows.length).flatMap fun i => (List.range rows.length).map fun j => ent rows i j == - ent rows j i).all id = antiB rows := all_flat _ _ _
    rw [← e2]
    simp only [List.flatMap_map, List.map_map, Function.comp_def, Int.toNat_natCast]
    rw [this]
    rfl
theorem good_eq (k : Nat) : t_is_good_table k = ⟨1, 5, [false],
    .cons (.ifs (.bor (.bnot (.isi .tuple (.nm 0))) (.bnot (.cmp2 .le .le (.ct (.int 1)) (.bi .len (.cons (.nm 0) .nil)) (.ct (.int 4))))) (.cons (.ret false (.ct (.bl false))) .nil) .nil)
    (.cons (.asg (.nm 1 false) (.bi .len (.cons (.nm 0) .nil)))
    (.cons (.ifs (.bnot (.bi .all (.cons (goodC k) .nil))) (.cons (.ret false (.ct (.bl false))) .nil) .nil)
    (.cons (.ret false (.bi .all (.cons goodD .nil))) .nil)))⟩ := rfl
@[simp] theorem opd_gc (k : Nat) (r : R (D × Ms)) (s : Ms) : opd (goodC k) r s = r.bnd fun p => .ok (.dd p.1, p.2) := rfl
@[simp] theorem opd_gd (r : R (D × Ms)) (s : Ms) : opd goodD r s = r.bnd fun p => .ok (.dd p.1, p.2) := rfl
theorem good_run (F : Fh) {k : Nat} (hk : RowOk F k) {L n : Nat} {v : D} (hv : sh L n v = true) (hL : L ≤ 100000) (ob : List Ob) : runF F (t_is_good_table k) [.va v] ob = .ok (.bl (tabB v)) false [.va v] ob := by
  rw [good_eq]
  cases n with
  | zero => simp [sh] at hv
  | succ n =>
    cases v <;> first | (simp [sh] at hv; done) | skip
    case tup rows =>
      simp only [sh, Bool.and_eq_true, decide_eq_true_eq, List.all_eq_true] at hv
      obtain ⟨hv1, hv2⟩ := hv
      by_cases h1 : 1 ≤ rows.length
      case neg =>
        have h1' : ¬ (1 : Int) ≤ rows.length := by omega
        simp [runF, isSet, dr, drs, op1, op2, isiD, outsF, opC, cmpD, opF, tabB, h1, h1', rdN]
      by_cases h4 : rows.length ≤ 4
      case neg =>
        have h4' : ¬ (rows.length : Int) ≤ 4 := by omega
        have h1' : (1 : Int) ≤ rows.length := by omega
        simp [runF, isSet, dr, drs, op1, op2, isiD, outsF, opC, cmpD, opF, tabB, h4, h1', h4', rdN]
      have h4' : (rows.length : Int) ≤ 4 := by omega
      have h1' : (1 : Int) ≤ rows.length := by omega
      have hc := good_c F hk hL hv1 hv2 ob
      by_cases hr : rows.all (rowB rows.length (-9) 9) = true
      case neg =>
        have hr' : rows.all (rowB rows.length (-9) 9) = false := by simpa using hr
        have hr2 : (rows.map (rowB rows.length (-9) 9)).all id = false := by rw [List.all_map]; exact hr'
        have ht : tabB (.tup rows) = false := by rw [tabB_tup, hr']; simp
        rw [ht]
        simp [runF, isSet, dr, drs, op1, op2, isiD, outsF, opC, cmpD, opF, h1', h4', rdN, hc, bools_map, hr2]
      have hr2 : (rows.map (rowB rows.length (-9) 9)).all id = true := by rw [List.all_map]; exact hr
      obtain ⟨ds, hd, hb⟩ := good_d F h4 (List.all_eq_true.mp hr) ob
      have ht : tabB (.tup rows) = antiB rows := by
        rw [tabB_tup, hr]
        simp [h1, h4]
      rw [ht]
      simp [runF, isSet, dr, drs, op1, op2, isiD, outsF, opC, cmpD, opF, h1', h4', rdN, hc, bools_map, hr2, hd, hb]
    all_goals simp [runF, isSet, dr, drs, op1, op2, isiD, outsF, tabB]
end Mi
/-! Part L3: tables drawn. -/
namespace Mi
open PySem
theorem s_asgyy {F : Fh} {s : Ms} (i j : Nat) (k1 k2 l1 l2 a b : Ex) : evS F (.asg2 (.ix2 i k1 k2) (.ix2 j l1 l2) a b) s = (evE F a s).out fun p => (evE F b p.2).out fun q => match stL (.ix2 i k1 k2) p.1 q.2 with
    | some u => ofO (stL (.ix2 j l1 l2) q.1 u)
    | none => .no := by simp only [evS] <;> rfl
/-! ### draws -/
structure DrawOk (F : Fh) (k : Nat) : Prop where
  asg : F.asg k = [false, false]
  run : ∀ (x : Src) (m : Int) (ob : List Ob), 0 < m → m < 2 ^ 32 → ∃ r y, 0 ≤ r ∧ r < m ∧ F.run k [x.sl, .va (.int m)] ob = .ok (.int r) false [Src.sl y, .va (.int m)] ob
theorem draw_cal {F : Fh} {k : Nat} (h : DrawOk F k) {s : Ms} {i : Nat} {x : Src} {m : Int} (hs : s.sl[i]? = some x.sl) (h0 : 0 < m) (h1 : m < 2 ^ 32) : ∃ r y, 0 ≤ r ∧ r < m ∧ cal F k [.sl i, .dd (.int m)] s = .ok (.int r, s.put i (Src.sl y)) := by
  obtain ⟨r, y, a, b, e⟩ := h.run x m s.ob h0 h1
  refine ⟨r, y, a, b, ?_⟩
  have hs : s.sl[i]? = some (.ow (.lst [.int x.a, .int x.b])) := hs
  have e : F.run k [.ow (.lst [.int x.a, .int x.b]), .va (.int m)] s.ob = .ok (.int r) false [.ow (.lst [.int y.a, .int y.b]), .va (.int m)] s.ob := e
  simp [cal, calF, h.asg, lend, hs, Ms.put, e, back, Src.sl]
theorem draw_calN {F : Fh} {k : Nat} (h : DrawOk F k) {s : Ms} {i j : Nat} {x : Src} {m : Int} (hs : s.sl[i]? = some x.sl) (hj : s.sl[j]? = some (.va (.int m))) (h0 : 0 < m) (h1 : m < 2 ^ 32) : ∃ r y, 0 ≤ r ∧ r < m ∧ cal F k [.sl i, .sl j] s = .ok (.int r, s.put i (Src.sl y)) := by
  obtain ⟨r, y, a, b, e⟩ := h.run x m s.ob h0 h1
  refine ⟨r, y, a, b, ?_⟩
  have hij : i ≠ j := fun z => by
    subst z
    rw [hs] at hj
    cases hj
  have hs : s.sl[i]? = some (.ow (.lst [.int x.a, .int x.b])) := hs
  have e : F.run k [.ow (.lst [.int x.a, .int x.b]), .va (.int m)] s.ob = .ok (.int r) false [.ow (.lst [.int y.a, .int y.b]), .va (.int m)] s.ob := e
  have hj2 : (s.sl.set i .un)[j]? = some (.va (.int m)) := by rw [List.getElem?_set_ne hij]; exact hj
  simp [cal, calF, h.asg, lend, hs, hj2, Ms.put, e, back, Src.sl]
theorem of_run {F : Fh} {kd : Nat} (hd : DrawOk F kd) (x : Src) {ds : List D} (h0 : 0 < ds.length) (h1 : ds.length < 4096) (ob : List Ob) : ∃ d y, d ∈ ds ∧ runF F (t_law_of kd) [x.sl, .va (.lst ds)] ob = .ok d false [Src.sl y, .va (.lst ds)] ob := by
  obtain ⟨r, y, a, b, e⟩ := draw_cal hd (s := ⟨[x.sl, .va (.lst ds)], ob⟩) (i := 0) (x := x) (m := ds.length) rfl (by omega) (by omega)
  have hr : r = (r.toNat : Int) := by omega
  have hlt : r.toNat < ds.length := by omega
  have hi := idx_atL (List.getElem?_eq_getElem hlt)
  rw [← hr] at hi
  refine ⟨ds[r.toNat], y, List.getElem_mem hlt, ?_⟩
  have e : cal F kd [.sl 0, .dd (.int ds.length)] ⟨[.ow (.lst [.int x.a, .int x.b]), .va (.lst ds)], ob⟩ = .ok (.int r, ⟨[.ow (.lst [.int y.a, .int y.b]), .va (.lst ds)], ob⟩) := e
  simp [runF, t_law_of, Src.sl, isSet, drs, dr, opF, e, op2, hi, outsF]
theorem of_runT {F : Fh} {kd : Nat} (hd : DrawOk F kd) (x : Src) {ds : List D} (h0 : 0 < ds.length) (h1 : ds.length < 4096) (ob : List Ob) : ∃ d y, d ∈ ds ∧ runF F (t_law_of kd) [x.sl, .va (.tup ds)] ob = .ok d false [Src.sl y, .va (.tup ds)] ob := by
  obtain ⟨r, y, a, b, e⟩ := draw_cal hd (s := ⟨[x.sl, .va (.tup ds)], ob⟩) (i := 0) (x := x) (m := ds.length) rfl (by omega) (by omega)
  have hr : r = (r.toNat : Int) := by omega
  have hlt : r.toNat < ds.length := by omega
  have hi := idx_at (List.getElem?_eq_getElem hlt)
  rw [← hr] at hi
  refine ⟨ds[r.toNat], y, List.getElem_mem hlt, ?_⟩
  have e : cal F kd [.sl 0, .dd (.int ds.length)] ⟨[.ow (.lst [.int x.a, .int x.b]), .va (.tup ds)], ob⟩ = .ok (.int r, ⟨[.ow (.lst [.int y.a, .int y.b]), .va (.tup ds)], ob⟩) := e
  simp [runF, t_law_of, Src.sl, isSet, drs, dr, opF, e, op2, hi, outsF]
/-! ### matrices -/
def matL (n : Nat) (M : Nat → Nat → Int) : List (List D) := (List.range n).map fun i => (List.range n).map fun j => D.int (M i j)
def matD (n : Nat) (M : Nat → Nat → Int) : D := .tup ((matL n M).map .tup)
def updM (M : Nat → Nat → Int) (i j : Nat) (v : Int) : Nat → Nat → Int := fun a b => if a = i ∧ b = j then v else M a b
theorem matL_len (n : Nat) (M : Nat → Nat → Int) : (matL n M).length = n := by simp [matL]
theorem matL_get {n : Nat} {M : Nat → Nat → Int} {i : Nat} (h : i < n) : (matL n M).getD i [] = (List.range n).map fun j => D.int (M i j) := by
  simp [matL, List.getD_eq_getElem?_getD, h]
theorem mat_set {n : Nat} {M : Nat → Nat → Int} {i j : Nat} {v : Int} (hi : i < n) : (matL n M).set i (((List.range n).map fun j => D.int (M i j)).set j (.int v)) = matL n (updM M i j v) := by
  refine List.ext_getElem (by simp [matL]) fun a h1 h2 => ?_
  simp [matL] at h1
  rw [List.getElem_set]
  by_cases z : i = a
  · subst z
    rw [if_pos rfl]
    refine List.ext_getElem (by simp [matL]) fun b h3 h4 => ?_
    simp [matL] at h3
    rw [List.getElem_set]
    by_cases z2 : j = b
    · subst z2; simp [matL, updM]
    · have z3 : ¬ b = j := fun q => z2 q.symm
      simp [matL, updM, z2, z3]
  · rw [if_neg z]
    have z3 : ¬ a = i := fun q => z q.symm
    simp [matL, updM, z3]
theorem mat_zero (n : Nat) : List.replicate n (List.replicate n (D.int 0)) = matL n fun _ _ => 0 := by
  refine List.ext_getElem (by simp [matL]) fun a h1 h2 => ?_
  refine List.ext_getElem (by simp [matL]) fun b h3 h4 => ?_
  simp [matL]
theorem stL_mat {s : Ms} {i : Nat} {k1 k2 : Ex} {n : Nat} {M : Nat → Nat → Int} {p q : Nat} {v : Int} (hs : s.sl[i]? = some (.dp (matL n M))) (h1 : evC k1 s = some (p : Int)) (h2 : evC k2 s = some (q : Int)) (hp : p < n) (hq : q < n) : stL (.ix2 i k1 k2) (.int v) s = some (s.put i (.dp (matL n (updM M p q v)))) := by
  have hset : setI ((List.range n).map fun j => D.int (M p j)) (q : Int) (.int v) = some (((List.range n).map fun j => D.int (M p j)).set q (.int v)) := by
    unfold setI L2.ixN
    simp [hq]
  simp only [stL, h1, h2, hs, matL_len, Int.toNat_natCast]
  rw [if_pos (by simp [hp]), matL_get hp, hset]
  simp only [Option.map_some, mat_set hp]
def Anti (M : Nat → Nat → Int) : Prop := ∀ i j, M i j = - M j i
def Bnd (h : Int) (M : Nat → Nat → Int) : Prop := ∀ i j, -h ≤ M i j ∧ M i j ≤ h
theorem Anti.upd {M : Nat → Nat → Int} (a : Anti M) {p q : Nat} (hpq : p ≠ q) (v : Int) : Anti (updM (updM M p q v) q p (-v)) := fun i j => by
  unfold updM
  by_cases h1 : i = p ∧ j = q
  · have h2 : ¬ (i = q ∧ j = p) := fun z => hpq (h1.1.symm.trans z.1)
    have h3 : j = q ∧ i = p := ⟨h1.2, h1.1⟩
    simp [h1.1, h1.2, hpq]
  · by_cases h2 : i = q ∧ j = p
    · have h3 : ¬ q = p := fun z => hpq z.symm
      simp [h2.1, h2.2, hpq, h3]
    · have h3 : ¬ (j = q ∧ i = p) := fun z => h1 ⟨z.2, z.1⟩
      have h4 : ¬ (j = p ∧ i = q) := fun z => h2 ⟨z.2, z.1⟩
      simp only [h1, h2, h3, h4, if_false]
      exact a i j
theorem Bnd.upd {h : Int} {M : Nat → Nat → Int} (b : Bnd h M) {v : Int} (h1 : -h ≤ v) (h2 : v ≤ h) (p q : Nat) : Bnd h (updM M p q v) := fun i j => by
  unfold updM
  split
  · exact ⟨h1, h2⟩
  · exact b i j
theorem mem_zipD : ∀ {xs ys : List D} {d : D}, d ∈ zipD xs ys → ∃ x y, x ∈ xs ∧ y ∈ ys ∧ d = .tup [x, y]
  | [], _, d, h => by simp [zipD] at h
  | _ :: _, [], d, h => by simp [zipD] at h
  | x :: xs, y :: ys, d, h => by
    simp only [zipD, List.mem_cons] at h
    rcases h with rfl | h
    · exact ⟨x, y, by simp, by simp, rfl⟩
    · obtain ⟨a, b, h1, h2, h3⟩ := mem_zipD h
      exact ⟨a, b, by simp [h1], by simp [h2], h3⟩
/-! ### the table by its entries -/
def pairs (n : Nat) (d : D) : Prop := ∃ p q : Nat, p < n ∧ q < n ∧ p ≠ q ∧ d = .tup [.int p, .int q]
def intsB (h : Int) (d : D) : Prop := ∃ e : Int, -h ≤ e ∧ e ≤ h ∧ d = .int e
theorem tableby_turn (F : Fh) (E : Ex) (n i : Nat) (e1 e2 a : Sl) (ob : List Ob) (sp L : List D) (hc : evE F E ⟨[.va (.int n), e1, e2, .va (.lst sp), .va (.int i), .un, .un, .un, .un, .un], ob⟩ = .ok (.lst L, ⟨[.va (.int n), e1, e2, .va (.lst sp), .va (.int i), .un, .un, .un, .un, .un], ob⟩))
   (ho : ∀ r s, opd E r s = r.bnd fun p => .ok (.dd p.1, p.2)) (hsz : sp.length + L.length ≤ sizeLine) :
   forF F (.one 4) (.cons (.asg (.nm 3 false) (.bin .add (.nm 3) E)) .nil) (.int i) ⟨[.va (.int n), e1, e2, .va (.lst sp), a, .un, .un, .un, .un, .un], ob⟩ = .nx ⟨[.va (.int n), e1, e2, .va (.lst (sp ++ L)), .va (.int i), .un, .un, .un, .un, .un], ob⟩ := by
  unfold forF
  simp [bindT, isSet, hc, ho, op2, dr, opB, addD, hsz]
theorem tableby_spots (F : Fh) {n : Nat} (hn : n ≤ 100) (e1 e2 : Sl) (ob : List Ob) : ∃ sp a, (∀ d ∈ sp, pairs n d) ∧
    evS F (.fors (.one 4) (.rng1 (.nm 0)) (.cons (.asg (.nm 3 false) (.bin .add (.nm 3) (.comp (.tup (.cons (.nm 4) (.cons (.nm 9) .nil))) (.one 9) (.rng2 (.bin .add (.nm 4) (.ct (.int 1))) (.nm 0)) .om [9]))) .nil))
      ⟨[.va (.int n), e1, e2, .va (.lst []), .un, .un, .un, .un, .un, .un], ob⟩ = .nx ⟨[.va (.int n), e1, e2, .va (.lst sp), a, .un, .un, .un, .un, .un], ob⟩ := by
  rw [s_fors, ev_rngN1 (n := n) (by simp) (by omega) (by omega)]
  simp only [O_ok]
  obtain ⟨s', h1, h2⟩ := forL_inv (f := forF F (.one 4) (.cons (.asg (.nm 3 false) (.bin .add (.nm 3) (.comp (.tup (.cons (.nm 4) (.cons (.nm 9) .nil))) (.one 9) (.rng2 (.bin .add (.nm 4) (.ct (.int 1))) (.nm 0)) .om [9]))) .nil))
    (fun i s => ∃ sp a, sp.length ≤ i * n ∧ (∀ d ∈ sp, pairs n d) ∧ s = ⟨[.va (.int n), e1, e2, .va (.lst sp), a, .un, .un, .un, .un, .un], ob⟩) (ds := rngD 0 (n : Int)) 0 ⟨[], .un, by simp, by simp, rfl⟩ fun i d s hd ⟨sp, a, l1, l2, hs⟩ => by
      subst hs
      rw [Nat.zero_add] at l1 ⊢
      have hi : i < n := by
        have := (List.getElem?_eq_some_iff.mp hd).1
        rw [rngD_len] at this
        omega
      have hdi : d = .int (i : Int) := by
        rw [rng0] at hd
        simp [hi] at hd
        exact hd.symm
      subst hdi
      have hc : evE F (.comp (.tup (.cons (.nm 4) (.cons (.nm 9) .nil))) (.one 9) (.rng2 (.bin .add (.nm 4) (.ct (.int 1))) (.nm 0)) .om [9]) ⟨[.va (.int n), e1, e2, .va (.lst sp), .va (.int i), .un, .un, .un, .un, .un], ob⟩ =
          .ok (.lst ((rngD ((i : Int) + 1) n).filterMap fun d => some (.tup [.int i, d])), ⟨[.va (.int n), e1, e2, .va (.lst sp), .va (.int i), .un, .un, .un, .un, .un], ob⟩) := by
        refine ev_comp1 (ev_rng2s (m := (i : Int) + 1) (n := n) (by simp [isSet, op2, dr, opB, addD]) (by simp [rdN]) (by omega) (by omega) (by omega) (by omega)) (by simp) (by simp [ownOk]) ?_ fun d hd => ?_
        · rw [List.filterMap_eq_map']
          rw [List.length_map, rngD_len]
          exact szl _ (by omega)
        · simp [condR, rdN, (by decide : 2 ≤ sizeLine)]
      have hmap : ((rngD ((i : Int) + 1) n).filterMap fun d => some (D.tup [.int i, d])) = (rngD ((i : Int) + 1) n).map fun d => D.tup [.int i, d] := by simp
      rw [hmap] at hc
      have hl2 : ((rngD ((i : Int) + 1) n).map fun d => D.tup [.int i, d]).length ≤ n := by
        rw [List.length_map, rngD_len]; omega
      have hmul : i * n ≤ 100 * 100 := Nat.mul_le_mul (by omega) hn
      have hsz : sp.length + ((rngD ((i : Int) + 1) n).map fun d => D.tup [.int i, d]).length ≤ sizeLine := szl _ (by omega)
      refine ⟨_, .inl ?_, sp ++ (rngD ((i : Int) + 1) n).map fun d => D.tup [.int i, d], .va (.int i), ?_, ?_, rfl⟩
      · exact tableby_turn F _ n i e1 e2 a ob sp _ hc (fun _ _ => rfl) hsz
      · rw [List.length_append, Nat.add_mul, Nat.one_mul]
        omega
      · intro d hd
        rcases List.mem_append.mp hd with hd | hd
        · exact l2 d hd
        · obtain ⟨x, hx, rfl⟩ := List.mem_map.mp hd
          unfold rngD at hx
          obtain ⟨k, hk, rfl⟩ := List.mem_map.mp hx
          have hk := List.mem_range.mp hk
          exact ⟨i, i + 1 + k, hi, by omega, by omega, by simp⟩
  obtain ⟨sp, a, _, h3, rfl⟩ := h2
  exact ⟨sp, a, h3, h1⟩
theorem tableby_fill (F : Fh) {n : Nat} {h : Int} {sp es : List D} (hsp : ∀ d ∈ sp, pairs n d) (hes : ∀ d ∈ es, intsB h d) {M0 : Nat → Nat → Int} (a0 : Anti M0) (b0 : Bnd h M0) (z : Sl) (e1 : Sl) (he : e1 = .va (.lst es) ∨ e1 = .ow (.lst es)) (ob : List Ob) : ∃ M a b, Anti M ∧ Bnd h M ∧
    evS F (.fors (.many [5, 6]) (.zip (.nm 3) (.nm 1)) (.cons (.asg2 (.ix2 2 (.idx (.nm 5) (.ct (.int 0))) (.idx (.nm 5) (.ct (.int 1)))) (.ix2 2 (.idx (.nm 5) (.ct (.int 1))) (.idx (.nm 5) (.ct (.int 0)))) (.nm 6) (.neg (.nm 6))) .nil))
      ⟨[.va (.int n), e1, .dp (matL n M0), .va (.lst sp), z, .un, .un, .un, .un, .un], ob⟩ = .nx ⟨[.va (.int n), .va (.lst es), .dp (matL n M), .va (.lst sp), z, a, b, .un, .un, .un], ob⟩ := by
  have hz : evI F (.zip (.nm 3) (.nm 1)) ⟨[.va (.int n), e1, .dp (matL n M0), .va (.lst sp), z, .un, .un, .un, .un, .un], ob⟩ = .ok (zipD sp es, ⟨[.va (.int n), .va (.lst es), .dp (matL n M0), .va (.lst sp), z, .un, .un, .un, .un, .un], ob⟩) := by
    rcases he with rfl | rfl <;> simp [rdN, zipS, seqD]
  rw [s_fors, hz]
  simp only [O_ok]
  obtain ⟨s', h1, h2⟩ := forL_inv (f := forF F (.many [5, 6]) (.cons (.asg2 (.ix2 2 (.idx (.nm 5) (.ct (.int 0))) (.idx (.nm 5) (.ct (.int 1)))) (.ix2 2 (.idx (.nm 5) (.ct (.int 1))) (.idx (.nm 5) (.ct (.int 0)))) (.nm 6) (.neg (.nm 6))) .nil))
    (fun _ s => ∃ M a b, Anti M ∧ Bnd h M ∧ s = ⟨[.va (.int n), .va (.lst es), .dp (matL n M), .va (.lst sp), z, a, b, .un, .un, .un], ob⟩) (ds := zipD sp es) 0 ⟨M0, .un, .un, a0, b0, rfl⟩ fun i d s hd ⟨M, a, b, hA, hB, hs⟩ => by
      subst hs
      obtain ⟨x, y, hx, hy, rfl⟩ := mem_zipD (List.mem_of_getElem? hd)
      obtain ⟨p, q, hp, hq, hpq, rfl⟩ := hsp x hx
      obtain ⟨v, v1, v2, rfl⟩ := hes y hy
      have c0 : ∀ (w : Sl) (u : Sl) (m : Sl), evC (.idx (.nm 5) (.ct (.int 0))) ⟨[.va (.int n), .va (.lst es), m, .va (.lst sp), z, .va (.tup [.int p, .int q]), w, .un, .un, .un], ob⟩ = some (p : Int) := fun w u m => by
        simp [evC, idxD, L2.atI, L2.ixN, asInt?]
      have c1 : ∀ (w : Sl) (u : Sl) (m : Sl), evC (.idx (.nm 5) (.ct (.int 1))) ⟨[.va (.int n), .va (.lst es), m, .va (.lst sp), z, .va (.tup [.int p, .int q]), w, .un, .un, .un], ob⟩ = some (q : Int) := fun w u m => by
        simp [evC, idxD, L2.atI, L2.ixN, asInt?]
      refine ⟨_, .inl ?_, updM (updM M p q v) q p (-v), .va (.tup [.int p, .int q]), .va (.int v), hA.upd hpq v, (hB.upd v1 v2 p q).upd (by omega) (by omega) q p, rfl⟩
      unfold forF
      simp only [bindT, setAll, putMk, List.set_cons_succ, List.set_cons_zero]
      rw [ss_cons, s_asgyy]
      simp only [e_nm, e_neg, rdN, List.getElem?_cons_succ, List.getElem?_cons_zero, R_ok, O_ok]
      rw [stL_mat (M := M) (p := p) (q := q) rfl (c0 _ .un _) (c1 _ .un _) hp hq]
      simp only [putMk, List.set_cons_succ, List.set_cons_zero]
      rw [stL_mat (M := updM M p q v) (p := q) (q := p) rfl (c1 _ .un _) (c0 _ .un _) hq hp]
      simp only [ofO, putMk, List.set_cons_succ, List.set_cons_zero, ss_nil]
  obtain ⟨M, a, b, hA, hB, rfl⟩ := h2
  exact ⟨M, a, b, hA, hB, h1⟩
theorem tableby_run (F : Fh) {n : Nat} {h : Int} (hn : n ≤ 100) (hh : 0 ≤ h) {es : List D} (hes : ∀ d ∈ es, intsB h d) (e1 : Sl) (he : e1 = .va (.lst es) ∨ e1 = .ow (.lst es)) (ob : List Ob) : ∃ M, Anti M ∧ Bnd h M ∧ runF F t_law_table_by [.va (.int n), e1] ob = .ok (matD n M) false [.va (.int n), .va (.lst es)] ob := by
  obtain ⟨sp, z, hsp, q1⟩ := tableby_spots F hn e1 (.dp (matL n fun _ _ => 0)) ob
  obtain ⟨M, a, b, hA, hB, q2⟩ := tableby_fill F hsp hes (M0 := fun _ _ => 0) (fun _ _ => by simp) (fun _ _ => ⟨(by show -h ≤ 0; omega), hh⟩) z e1 he ob
  refine ⟨M, hA, hB, ?_⟩
  have q0 : evS F (.mat 2 0 0 7) ⟨[.va (.int n), e1, .un, .un, .un, .un, .un, .un, .un, .un], ob⟩ = .nx ⟨[.va (.int n), e1, .dp (matL n fun _ _ => 0), .un, .un, .un, .un, .un, .un, .un], ob⟩ := by
    have : (n : Int) ≤ 1000 := by omega
    simp [evS, yMat, ownOk, this, mat_zero]
  have q3 : evE F (.comp (.bi .tuple (.cons (.nm 8) .nil)) (.one 8) (.seq (.nm 2)) .om [8]) ⟨[.va (.int n), .va (.lst es), .dp (matL n M), .va (.lst sp), z, a, b, .un, .un, .un], ob⟩ =
      .ok (.lst (((matL n M).map D.lst).filterMap fun d => match d with
        | .lst r => some (.tup r)
        | _ => none), ⟨[.va (.int n), .va (.lst es), .va (.lst ((matL n M).map .lst)), .va (.lst sp), z, a, b, .un, .un, .un], ob⟩) := by
    refine ev_comp1 (by simp [rdN, seqD]) (by simp) (by simp [ownOk]) ?_ fun d hd => ?_
    · refine szl _ (Nat.le_trans (List.length_filterMap_le _ _) ?_)
      rw [List.length_map, matL_len]; omega
    · obtain ⟨r, hr, rfl⟩ := List.mem_map.mp hd
      simp [condR, isSet, drs, dr, opF]
  have q4 : (((matL n M).map D.lst).filterMap fun d => match d with
        | .lst r => some (D.tup r)
        | _ => none) = (matL n M).map .tup := by
    rw [List.filterMap_map]
    simp [Function.comp_def]
  rw [q4] at q3
  unfold runF t_law_table_by
  simp only [List.length_cons, List.length_nil]
  simp [q0, q1, q2, rdN, q3, drs, dr, opF, outsF, matD, (by decide : 0 ≤ sizeLine)]
/-! ### the drawn table -/
structure ByOk (F : Fh) (k : Nat) : Prop where
  asg : F.asg k = [false, false]
  run : ∀ (n : Nat) (h : Int) (es : List D) (ob : List Ob), n ≤ 100 → 0 ≤ h → (∀ d ∈ es, intsB h d) → ∃ M, Anti M ∧ Bnd h M ∧ F.run k [.va (.int n), .ow (.lst es)] ob = .ok (matD n M) false [.va (.int n), .va (.lst es)] ob
theorem table_run {F : Fh} {kd kb : Nat} (hd : DrawOk F kd) (hb : ByOk F kb) (x : Src) {m h : Nat} (hm : 0 < m) (hm2 : m ≤ 99) (hh : h < 1000000) (ob : List Ob) : ∃ n M y, 1 ≤ n ∧ n ≤ m ∧ Anti M ∧ Bnd h M ∧
    runF F (t_law_table kd kb) [x.sl, .va (.int m), .va (.int h)] ob = .ok (matD n M) false [Src.sl y, .va (.int m), .va (.int h)] ob := by
  obtain ⟨r, y, r0, r1, e1⟩ := draw_calN hd (s := ⟨[x.sl, .va (.int m), .va (.int h), .un, .un, .un, .un], ob⟩) (i := 0) (j := 1) (x := x) (m := m) rfl rfl (by omega) (by omega)
  obtain ⟨n, hn⟩ : ∃ n : Nat, (n : Int) = 1 + r := ⟨(1 + r).toNat, by omega⟩
  have hlen : ((n : Int) * (n - 1) / 2) ≤ 10000 := by
    have a1 : (n : Int) * (n - 1) ≤ 100 * 100 := Int.mul_le_mul (by omega) (by omega) (by omega) (by omega)
    omega
  have hlen0 : 0 ≤ ((n : Int) * (n - 1) / 2) := Int.ediv_nonneg (Int.mul_nonneg (by omega) (by omega)) (by decide)
  have mk : mulOk (n : Int) ((n : Int) - 1) = true := mulOk_small (by omega) (by omega)
  obtain ⟨s', h1, h2⟩ := forL_inv (f := forF F (.one 5) (.cons (.asg (.nm 6 false) (.ite (.cmp .gt (.call kd (.cons (.nm 0) (.cons (.ct (.int 3)) .nil))) (.ct (.int 0))) (.call kd (.cons (.nm 0) (.cons (.bin .add (.nm 2) (.ct (.int 1))) .nil))) (.ct (.int 0))))
    (.cons (.app 4 (.ite (.cmp .eq (.call kd (.cons (.nm 0) (.cons (.ct (.int 2)) .nil))) (.ct (.int 0))) (.nm 6) (.neg (.nm 6)))) .nil)))
    (fun i s => ∃ (y : Src) (es : List D) (a b : Sl), es.length ≤ i ∧ (∀ d ∈ es, intsB h d) ∧ s = ⟨[y.sl, .va (.int m), .va (.int h), .va (.int n), .ow (.lst es), a, b], ob⟩) (ds := rngD 0 ((n : Int) * (n - 1) / 2)) (s := ⟨[y.sl, .va (.int m), .va (.int h), .va (.int n), .ow (.lst []), .un, .un], ob⟩) 0 ⟨y, [], .un, .un, by simp, by simp, rfl⟩ fun i d s hd' ⟨y, es, a, b, l1, l2, hs⟩ => by
      subst hs
      rw [Nat.zero_add] at l1 ⊢
      have hi : i ≤ 10000 := by
        have := (List.getElem?_eq_some_iff.mp hd').1
        rw [rngD_len] at this
        omega
      -- the first draw
      obtain ⟨r1, y1, p0, p1, c1⟩ := draw_cal hd (s := ⟨[y.sl, .va (.int m), .va (.int h), .va (.int n), .ow (.lst es), .va d, b], ob⟩) (i := 0) (x := y) (m := 3) rfl (by decide) (by decide)
      have e1 : ∃ (v : Int) (y2 : Src), -(h : Int) ≤ v ∧ v ≤ h ∧ evE F (.ite (.cmp .gt (.call kd (.cons (.nm 0) (.cons (.ct (.int 3)) .nil))) (.ct (.int 0))) (.call kd (.cons (.nm 0) (.cons (.bin .add (.nm 2) (.ct (.int 1))) .nil))) (.ct (.int 0))) ⟨[y.sl, .va (.int m), .va (.int h), .va (.int n), .ow (.lst es), .va d, b], ob⟩ = .ok (.int v, ⟨[y2.sl, .va (.int m), .va (.int h), .va (.int n), .ow (.lst es), .va d, b], ob⟩) := by
        by_cases hr : 0 < r1
        · obtain ⟨r2, y2, q0, q1, c2⟩ := draw_cal hd (s := ⟨[y1.sl, .va (.int m), .va (.int h), .va (.int n), .ow (.lst es), .va d, b], ob⟩) (i := 0) (x := y1) (m := h + 1) rfl (by omega) (by omega)
          refine ⟨r2, y2, by omega, by omega, ?_⟩
          simp only [Src.sl] at c1 c2 ⊢
          simp only [putMk, List.set_cons_zero] at c1 c2
          simp [isSet, c1, op2, dr, opC, cmpD, hr, opB, addD, c2]
        · refine ⟨0, y1, by omega, by omega, ?_⟩
          simp only [Src.sl] at c1 ⊢
          simp only [putMk, List.set_cons_zero] at c1
          simp [isSet, c1, op2, dr, opC, cmpD, hr]
      obtain ⟨v, y2, v0, v1, e1⟩ := e1
      obtain ⟨r3, y3, t0, t1, c3⟩ := draw_cal hd (s := ⟨[y2.sl, .va (.int m), .va (.int h), .va (.int n), .ow (.lst es), .va d, .va (.int v)], ob⟩) (i := 0) (x := y2) (m := 2) rfl (by decide) (by decide)
      have hsz : es.length < sizeLine := Nat.lt_of_lt_of_le (by omega : es.length < 100000) (by decide)
      have e2 : ∃ (u : Int), -(h : Int) ≤ u ∧ u ≤ h ∧ evE F (.ite (.cmp .eq (.call kd (.cons (.nm 0) (.cons (.ct (.int 2)) .nil))) (.ct (.int 0))) (.nm 6) (.neg (.nm 6))) ⟨[y2.sl, .va (.int m), .va (.int h), .va (.int n), .ow (.lst es), .va d, .va (.int v)], ob⟩ = .ok (.int u, ⟨[y3.sl, .va (.int m), .va (.int h), .va (.int n), .ow (.lst es), .va d, .va (.int v)], ob⟩) := by
        simp only [Src.sl] at c3 ⊢
        simp only [putMk, List.set_cons_zero] at c3
        by_cases hr : r3 = 0
        · exact ⟨v, v0, v1, by simp [isSet, c3, op2, dr, opC, hr, rdN]⟩
        · exact ⟨-v, by omega, by omega, by simp [isSet, c3, op2, dr, opC, hr, rdN]⟩
      obtain ⟨u, u0, u1, e2⟩ := e2
      refine ⟨⟨[y3.sl, .va (.int m), .va (.int h), .va (.int n), .ow (.lst (es ++ [.int u])), .va d, .va (.int v)], ob⟩, .inl ?_, y3, es ++ [.int u], _, _, by simp; omega, fun d hd => ?_, rfl⟩
      · unfold forF
        simp only [bindT, putMk, List.set_cons_succ, List.set_cons_zero]
        rw [ss_cons, s_asg, evR_false, e1]
        simp only [O_ok, putL_f, List.set_cons_succ, List.set_cons_zero]
        rw [ss_cons, s_app, e2]
        simp [hasS, hsz]
      · rcases List.mem_append.mp hd with hd | hd
        · exact l2 d hd
        · simp at hd
          exact ⟨u, u0, u1, hd⟩
  obtain ⟨y', es, a, b, _, l2, rfl⟩ := h2
  obtain ⟨M, hA, hB, hrun⟩ := hb.run n h es ob (by omega) (by omega) l2
  refine ⟨n, M, y', by omega, by omega, hA, hB, ?_⟩
  have hev : evI F (.rng1 (.bin .fdiv (.bin .mul (.nm 3) (.bin .sub (.nm 3) (.ct (.int 1)))) (.ct (.int 2)))) ⟨[y.sl, .va (.int m), .va (.int h), .va (.int n), .ow (.lst []), .un, .un], ob⟩ = .ok (rngD 0 ((n : Int) * (n - 1) / 2), ⟨[y.sl, .va (.int m), .va (.int h), .va (.int n), .ow (.lst []), .un, .un], ob⟩) := by
    refine ev_rng1s ?_ (by omega) (by omega)
    have d2 : divOk 2 = true := by decide
    simp [isSet, op2, dr, opB, mulD, subD, fdivD, mk, d2]
  have e1' : cal F kd [.sl 0, .sl 1] ⟨[.ow (.lst [.int x.a, .int x.b]), .va (.int m), .va (.int h), .un, .un, .un, .un], ob⟩ = .ok (.int r, ⟨[y.sl, .va (.int m), .va (.int h), .un, .un, .un, .un], ob⟩) := e1
  have hsl : x.sl = .ow (.lst [.int x.a, .int x.b]) := rfl
  have e3 : cal F kb [.sl 3, .sl 4] ⟨[y'.sl, .va (.int m), .va (.int h), .va (.int n), .ow (.lst es), a, b], ob⟩ = .ok (matD n M, ⟨[y'.sl, .va (.int m), .va (.int h), .va (.int n), .va (.lst es), a, b], ob⟩) := by
    simp [cal, calF, hb.asg, lend, hrun, back]
  rw [hsl]
  unfold runF t_law_table
  simp only [List.length_cons, List.length_nil]
  have hadd : evE F (.bin .add (.ct (.int 1)) (.call kd (.cons (.nm 0) (.cons (.nm 1) .nil)))) ⟨[.ow (.lst [.int x.a, .int x.b]), .va (.int m), .va (.int h), .un, .un, .un, .un], ob⟩ = .ok (.int n, ⟨[y.sl, .va (.int m), .va (.int h), .un, .un, .un, .un], ob⟩) := by
    simp [isSet, e1', op2, dr, opB, addD, hn]
  simp only [beq_self_eq_true, if_true, List.cons_append, List.nil_append, List.replicate, Nat.reduceAdd, Nat.reduceSub]
  rw [ss_cons, s_asg, evR_false, hadd]
  simp only [O_ok, putL_f, List.set_cons_succ, List.set_cons_zero]
  rw [ss_cons, s_asg]
  have hfr : evR F true (.lst .nil) ⟨[y.sl, .va (.int m), .va (.int h), .va (.int n), .un, .un, .un], ob⟩ = .ok (.lst [], ⟨[y.sl, .va (.int m), .va (.int h), .va (.int n), .un, .un, .un], ob⟩) := by
    simp [evR, isFr]
  rw [hfr]
  simp only [O_ok, putL_t, ownS_l, List.set_cons_succ, List.set_cons_zero]
  rw [ss_cons, s_fors, hev]
  simp only [O_ok]
  rw [h1]
  simp only
  rw [ss_cons, s_ret, evR_false]
  have i3 : isSet ⟨[y'.sl, .va (.int m), .va (.int h), .va (.int n), .ow (.lst es), a, b], ob⟩ 3 = true := rfl
  have i4 : isSet ⟨[y'.sl, .va (.int m), .va (.int h), .va (.int n), .ow (.lst es), a, b], ob⟩ 4 = true := rfl
  simp only [e_call, eo_cons, eo_nil, opd_nm, i3, i4, if_true, R_ok, e3, O_ok]
  simp [outsF]
end Mi
/-! Part L4: loops that may end early. -/
namespace Mi
open PySem
theorem forL_or {f : D → Ms → Out} {P : Ms → Prop} {good : D → Bool} {d0 : D} : ∀ {ds : List D} {s : Ms}, P s → (∀ d ∈ ds, ∀ s, P s → if good d = true then ∃ s', (f d s = .nx s' ∨ f d s = .ct s') ∧ P s' else ∃ s', f d s = .rt d0 false s' ∧ P s') →
    if ds.all good = true then ∃ s', forL f ds s = .nx s' ∧ P s' else ∃ s', forL f ds s = .rt d0 false s' ∧ P s'
  | [], s, h, _ => by simp only [List.all_nil, if_true]; exact ⟨s, rfl, h⟩
  | d :: ds, s, h, k => by
    have h1 := k d (by simp) s h
    by_cases g : good d = true
    · rw [if_pos g] at h1
      obtain ⟨s1, e1, p1⟩ := h1
      have h2 := forL_or (f := f) (P := P) (good := good) (d0 := d0) (ds := ds) p1 fun d hd => k d (by simp [hd])
      have e2 : forL f (d :: ds) s = forL f ds s1 := by
        rw [forL]
        rcases e1 with e1 | e1 <;> rw [e1]
      rw [List.all_cons, g, Bool.true_and, e2]
      exact h2
    · rw [if_neg g] at h1
      obtain ⟨s1, e1, p1⟩ := h1
      have g' : good d = false := by simpa using g
      have z : (d :: ds).all good = false := by rw [List.all_cons, g', Bool.false_and]
      rw [z, if_neg (by decide)]
      exact ⟨s1, by rw [forL, e1], p1⟩
theorem cut_mem {ds : List D} {lo hi : Option Int} {d : D} (h : d ∈ cutD ds lo hi) : d ∈ ds := by
  unfold cutD at h
  exact List.mem_of_mem_drop (List.mem_of_mem_take h)
theorem cut_len (ds : List D) (lo hi : Option Int) : (cutD ds lo hi).length ≤ ds.length := by
  unfold cutD
  rw [List.length_take, List.length_drop]
  omega
structure OfOk (F : Fh) (k : Nat) : Prop where
  asg : F.asg k = [false, false]
  run : ∀ (x : Src) (ds : List D) (ob : List Ob), 0 < ds.length → ds.length < 4096 → ∃ d y, d ∈ ds ∧ F.run k [x.sl, .va (.lst ds)] ob = .ok d false [Src.sl y, .va (.lst ds)] ob
  runT : ∀ (x : Src) (ds : List D) (ob : List Ob), 0 < ds.length → ds.length < 4096 → ∃ d y, d ∈ ds ∧ F.run k [x.sl, .va (.tup ds)] ob = .ok d false [Src.sl y, .va (.tup ds)] ob
end Mi
/-! Part L5: comprehensions whose turns change the state. -/
namespace Mi
open PySem
theorem s_whl {F : Fh} {s : Ms} (c : Ex) (b : Sms) : evS F (.whl c b) s = whlN (fun s1 => evE F c s1) (fun s1 => evSs F b s1) F.wf s := rfl
theorem runF_rt {F : Fh} {f : FnI} {ps : List Sl} {ob : List Ob} {s s' : Ms} {d : D} {o : Bool} (h : (ps.length == f.np) = true) (hs : (⟨ps ++ List.replicate (f.n - f.np) .un, ob⟩ : Ms) = s) (he : evSs F f.body s = .rt d o s') : runF F f ps ob = .ok d o (outsF f.asg (s'.sl.take f.np)) s'.ob := by
  unfold runF
  rw [if_pos h, hs, he]
/-! steps that leave what stands behind them as it is -/
theorem ifs_t {F : Fh} {c : Ex} {a b : Sms} {s s' : Ms} (h : evE F c s = .ok (.bl true, s')) : evS F (.ifs c a b) s = evSs F a s' := by
  rw [s_ifs, h] <;> rfl
theorem ifs_f {F : Fh} {c : Ex} {a b : Sms} {s s' : Ms} (h : evE F c s = .ok (.bl false, s')) : evS F (.ifs c a b) s = evSs F b s' := by
  rw [s_ifs, h] <;> rfl
theorem ss_nx {F : Fh} {a : Sm} {r : Sms} {s s' : Ms} (h : evS F a s = .nx s') : evSs F (.cons a r) s = evSs F r s' := by
  rw [ss_cons, h]
theorem ss_rt {F : Fh} {a : Sm} {r : Sms} {s s' : Ms} {d : D} {o : Bool} (h : evS F a s = .rt d o s') : evSs F (.cons a r) s = .rt d o s' := by
  rw [ss_cons, h]
theorem ss_ex {F : Fh} {a : Sm} {r : Sms} {s s' : Ms} {e : Ev} (h : evS F a s = .ex e s') : evSs F (.cons a r) s = .ex e s' := by
  rw [ss_cons, h]
theorem fors_nx {F : Fh} {tg : Tg} {it : It} {b : Sms} {s s' : Ms} {ds : List D} {o : Out} (h : evI F it s = .ok (ds, s')) (f : forL (forF F tg b) ds s' = o) : evS F (.fors tg it b) s = o := by
  rw [s_fors, h]
  exact f
theorem asg_nx {F : Fh} {i : Nat} {e : Ex} {d : D} {s s' : Ms} (h : evE F e s = .ok (d, s')) : evS F (.asg (.nm i false) e) s = .nx (s'.put i (.va d)) := by
  rw [s_asg, evR_false, h] <;> rfl
theorem asg_fr {F : Fh} {i : Nat} {e : Ex} {d : D} {s s' : Ms} (h : evR F true e s = .ok (d, s')) : evS F (.asg (.nm i true) e) s = .nx (s'.put i (ownS d)) := by
  rw [s_asg, h] <;> rfl
theorem ret_rt {F : Fh} {e : Ex} {d : D} {s s' : Ms} (h : evE F e s = .ok (d, s')) : evS F (.ret false e) s = .rt d false s' := by
  rw [s_ret, evR_false, h] <;> rfl
/-- a comprehension's turn, where there is no test -/
theorem compF_om {F : Fh} {x : Ex} {i : Nat} {d : D} {s1 : Ms} : compF F x (.one i) .om [i] d s1 = (evE F x (s1.put i (.va d))).bnd fun y => .ok (some y.1, y.2) := by
  unfold compF
  have e1 : bindT (.one i) d (wipeM [i] s1) = some (s1.put i (.va d)) := by
    show some ((s1.put i .un).put i (.va d)) = _
    rw [put_put]
  rw [e1]
  rfl
theorem compL_S {σ : Type} {f : D → Ms → R (Option D × Ms)} {st : σ → Sl → Ms} (Q : Nat → List D → σ → Prop) : ∀ {ds : List D} {n : Nat} {acc : List D} {a : σ} {u : Sl}, Q n acc a →
    (∀ (m : Nat) (d : D) (acc : List D) (a : σ) (u : Sl), ds[m]? = some d → Q (n + m) acc a → ∃ y b w, f d (st a u) = .ok (some y, st b w) ∧ Q (n + m + 1) (acc ++ [y]) b) →
    ∃ ys b w, compL f ds (st a u) = .ok (ys, st b w) ∧ ys.length = ds.length ∧ Q (n + ds.length) (acc ++ ys) b
  | [], n, acc, a, u, h, _ => ⟨[], a, u, rfl, rfl, by simpa using h⟩
  | d :: ds, n, acc, a, u, h, k => by
    obtain ⟨y, b, w, e1, q1⟩ := k 0 d acc a u rfl (by simpa using h)
    obtain ⟨ys, b2, w2, e2, l2, q2⟩ := compL_S Q (ds := ds) (n := n + 1) (acc := acc ++ [y]) (a := b) (u := w) (by simpa using q1) fun m d' acc a u hd hq => by
      obtain ⟨y, b, w, e, q⟩ := k (m + 1) d' acc a u (by simpa using hd) (by rw [← Nat.add_assoc, Nat.add_right_comm]; exact hq)
      exact ⟨y, b, w, e, by rw [Nat.add_right_comm n 1 m]; exact q⟩
    refine ⟨y :: ys, b2, w2, ?_, by simp [l2], ?_⟩
    · unfold compL
      rw [e1]
      simp only [noEx, R_ok]
      rw [e2]
      rfl
    · rw [List.length_cons, Nat.add_comm ds.length 1, ← Nat.add_assoc]
      simpa using q2
/-- a comprehension of one name, without a test, whose turns change the rest of the state -/
theorem ev_compS {σ : Type} {F : Fh} {s : Ms} {x : Ex} {it : It} {i : Nat} {ds : List D} {st : σ → Sl → Ms} {a0 : σ} {u0 : Sl} (Q : Nat → List D → σ → Prop)
    (hit : evI F it s = .ok (ds, st a0 u0)) (hput : ∀ a u v, (st a u).put i v = st a v) (hg : ((st a0 u0).sl.getD i .un) = u0) (ho : ownOk [i] (st a0 u0) = true) (hl : ds.length ≤ sizeLine) (h0 : Q 0 [] a0)
    (k : ∀ (m : Nat) (d : D) (acc : List D) (a : σ), ds[m]? = some d → Q m acc a → ∃ y b w, evE F x (st a (.va d)) = .ok (y, st b w) ∧ Q (m + 1) (acc ++ [y]) b) :
    ∃ ys b, evE F (.comp x (.one i) it .om [i]) s = .ok (.lst ys, st b u0) ∧ ys.length = ds.length ∧ Q ds.length ys b := by
  obtain ⟨ys, b, w, e, l, q⟩ := compL_S (f := compF F x (.one i) .om [i]) (st := st) Q (ds := ds) (n := 0) (acc := []) (a := a0) (u := u0) h0 fun m d acc a u hd hq => by
    rw [Nat.zero_add] at hq
    obtain ⟨y, b, w, e, q⟩ := k m d acc a hd hq
    refine ⟨y, b, w, ?_, by rw [Nat.zero_add]; exact q⟩
    rw [compF_om, hput, e]
    rfl
  refine ⟨ys, b, ?_, l, by simpa using q⟩
  rw [evE_comp, hit]
  simp only [R_ok]
  rw [e]
  simp only [R_ok]
  rw [if_pos (by simp [l, hl, ho])]
  congr 2
  rw [rest_cons, hg]
  show (st b w).put i u0 = _
  rw [hput]
theorem eqD_self {L n : Nat} {d : D} (h : sh L n d = true) (hn : n ≤ 64) : eqD d d = some true := by
  obtain ⟨x, h1, h2, h3⟩ := py_of_sh h
  rw [eqD_of h1 h1 (shaped_of h2 (by omega)) (shaped_of h2 (by omega))]
  rw [SeqAt.eqv_refl x h2]
end Mi
/-! Part L6: tables turned. -/
namespace Mi
open PySem
/-- need_table: value -/
def tt_need_table (k_is_good_table cc : Nat) : FnI := ⟨1, 1, [false],
  (.cons (.ifs (.bnot (.call k_is_good_table (.cons (.nm 0) .nil))) (.cons (.rai cc)
    .nil) .nil)
  .nil)⟩
/-- need_place: table value -/
def tt_need_place (k_is_number cc : Nat) : FnI := ⟨2, 2, [false, false],
  (.cons (.ifs (.bnot (.call k_is_number (.cons (.nm 1) (.cons (.ct (.int 0)) (.cons (.bin .sub (.bi .len (.cons (.nm 0) .nil)) (.ct (.int 1))) .nil))))) (.cons (.rai cc)
    .nil) .nil)
  .nil)⟩
/-- need_places: table value place -/
def tt_need_places (k_is_number gg cc : Nat) : FnI := ⟨2, 3, [false, false],
  (.cons (.ifs (.bor (.bnot (.isi .tuple (.nm 1))) (.cmp .gt (.bi .len (.cons (.nm 1) .nil)) (.gl gg 8))) (.cons (.rai cc)
    .nil) .nil)
  (.cons (.ifs (.bnot (.bi .all (.cons (.comp (.call k_is_number (.cons (.nm 2) (.cons (.ct (.int 0)) (.cons (.bin .sub (.bi .len (.cons (.nm 0) .nil)) (.ct (.int 1))) .nil)))) (.one 2) (.seq (.nm 1)) .om [2]) .nil))) (.cons (.rai cc)
    .nil) .nil)
  .nil))⟩
/-- turned_at: table place rows one row entries other entry -/
def t_turned_at : FnI := ⟨2, 8, [false, false],
  (.cons (.asg (.nm 2 true) (.lst .nil))
  (.cons (.fors (.many [3, 4]) (.enu (.nm 0)) (.cons (.asg (.nm 5 true) (.lst .nil))
    (.cons (.fors (.many [6, 7]) (.enu (.nm 4)) (.cons (.ifs (.cmp .inn (.nm 1) (.tup (.cons (.nm 3) (.cons (.nm 6) .nil)))) (.cons (.app 5 (.neg (.nm 7)))
        .nil) (.cons (.ifs (.band (.cmp .gt (.idx (.nm 4) (.nm 1)) (.ct (.int 0))) (.cmp .gt (.idx (.idx (.nm 0) (.nm 1)) (.nm 6)) (.ct (.int 0)))) (.cons (.app 5 (.bin .add (.nm 7) (.bin .mul (.idx (.nm 4) (.nm 1)) (.idx (.idx (.nm 0) (.nm 1)) (.nm 6)))))
          .nil) (.cons (.ifs (.band (.cmp .lt (.idx (.nm 4) (.nm 1)) (.ct (.int 0))) (.cmp .lt (.idx (.idx (.nm 0) (.nm 1)) (.nm 6)) (.ct (.int 0)))) (.cons (.app 5 (.bin .sub (.nm 7) (.bin .mul (.idx (.nm 4) (.nm 1)) (.idx (.idx (.nm 0) (.nm 1)) (.nm 6)))))
            .nil) (.cons (.app 5 (.nm 7))
            .nil))
          .nil))
        .nil))
      .nil))
    (.cons (.app 2 (.bi .tuple (.cons (.nm 5) .nil)))
    .nil))))
  (.cons (.ret false (.bi .tuple (.cons (.nm 2) .nil)))
  .nil)))⟩
/-- turned: table place -/
def t_turned (k_need_table : Nat) (k_need_place : Nat) (k_turned_at : Nat) : FnI := ⟨2, 2, [false, false],
  (.cons (.exp (.call k_need_table (.cons (.nm 0) .nil)))
  (.cons (.exp (.call k_need_place (.cons (.nm 0) (.cons (.nm 1) .nil))))
  (.cons (.ret false (.call k_turned_at (.cons (.nm 0) (.cons (.nm 1) .nil))))
  .nil)))⟩
/-- turned_by: table places place -/
def t_turned_by (k_need_table : Nat) (k_need_places : Nat) (k_turned_at : Nat) : FnI := ⟨2, 3, [true, false],
  (.cons (.exp (.call k_need_table (.cons (.nm 0) .nil)))
  (.cons (.exp (.call k_need_places (.cons (.nm 0) (.cons (.nm 1) .nil))))
  (.cons (.fors (.one 2) (.seq (.nm 1)) (.cons (.asg (.nm 0 false) (.call k_turned_at (.cons (.nm 0) (.cons (.nm 2) .nil))))
    .nil))
  (.cons (.ret false (.nm 0))
  .nil))))⟩
/-- _law_known: ring one two -/
def t_law_known : FnI := ⟨0, 3, [],
  (.cons (.asg2 (.nm 1 false) (.nm 2 false) (.tup (.cons (.tup (.cons (.ct (.int 0)) (.cons (.ct (.int 1)) .nil))) (.cons (.tup (.cons (.neg (.ct (.int 1))) (.cons (.ct (.int 0)) .nil))) .nil))) (.tup (.cons (.tup (.cons (.ct (.int 0)) (.cons (.ct (.int 2)) .nil))) (.cons (.tup (.cons (.neg (.ct (.int 2))) (.cons (.ct (.int 0)) .nil))) .nil))))
  (.cons (.asg (.nm 0 false) (.tup (.cons (.tup (.cons (.ct (.int 0)) (.cons (.ct (.int 2)) (.cons (.neg (.ct (.int 2))) .nil)))) (.cons (.tup (.cons (.neg (.ct (.int 2))) (.cons (.ct (.int 0)) (.cons (.ct (.int 2)) .nil)))) (.cons (.tup (.cons (.ct (.int 2)) (.cons (.neg (.ct (.int 2))) (.cons (.ct (.int 0)) .nil)))) .nil)))))
  (.cons (.ret false (.tup (.cons (.nm 1) (.cons (.nm 2) (.cons (.nm 0) (.cons (.tup (.cons (.tup (.cons (.ct (.int 0)) (.cons (.ct (.int 1)) (.cons (.ct (.int 1)) (.cons (.ct (.int 1)) .nil))))) (.cons (.tup (.cons (.neg (.ct (.int 1))) (.cons (.ct (.int 0)) (.cons (.ct (.int 0)) (.cons (.ct (.int 0)) .nil))))) (.cons (.tup (.cons (.neg (.ct (.int 1))) (.cons (.ct (.int 0)) (.cons (.ct (.int 0)) (.cons (.ct (.int 0)) .nil))))) (.cons (.tup (.cons (.neg (.ct (.int 1))) (.cons (.ct (.int 0)) (.cons (.ct (.int 0)) (.cons (.ct (.int 0)) .nil))))) .nil))))) .nil))))))
  .nil)))⟩
/-- _law_places: source size most many turn -/
def t_law_places (k_law_draw : Nat) : FnI := ⟨3, 5, [false, false, false],
  (.cons (.asg (.nm 3 false) (.call k_law_draw (.cons (.nm 0) (.cons (.bin .add (.nm 2) (.ct (.int 1))) .nil))))
  (.cons (.ret false (.bi .tuple (.cons (.comp (.call k_law_draw (.cons (.nm 0) (.cons (.nm 1) .nil))) (.one 4) (.rng1 (.nm 3)) .om [4]) .nil)))
  .nil))⟩
/-- _law_turned: table place one size rows row other more entry here there -/
def t_law_turned : FnI := ⟨2, 11, [false, false],
  (.cons (.asg2 (.nm 3 false) (.nm 4 true) (.bi .len (.cons (.nm 0) .nil)) (.lst .nil))
  (.cons (.fors (.one 2) (.rng1 (.nm 3)) (.cons (.asg (.nm 5 true) (.lst .nil))
    (.cons (.fors (.one 6) (.rng1 (.nm 3)) (.cons (.asg2 (.nm 9 false) (.nm 10 false) (.idx (.idx (.nm 0) (.nm 2)) (.nm 1)) (.idx (.idx (.nm 0) (.nm 1)) (.nm 6)))
      (.cons (.asg (.nm 7 false) (.bin .fdiv (.bin .add (.bin .mul (.bi .abs (.cons (.nm 9) .nil)) (.nm 10)) (.bin .mul (.nm 9) (.bi .abs (.cons (.nm 10) .nil)))) (.ct (.int 2))))
      (.cons (.asg (.nm 8 false) (.idx (.idx (.nm 0) (.nm 2)) (.nm 6)))
      (.cons (.app 5 (.ite (.cmp .inn (.nm 1) (.tup (.cons (.nm 2) (.cons (.nm 6) .nil)))) (.neg (.nm 8)) (.bin .add (.nm 8) (.nm 7))))
      .nil)))))
    (.cons (.app 4 (.bi .tuple (.cons (.nm 5) .nil)))
    .nil))))
  (.cons (.ret false (.bi .tuple (.cons (.nm 4) .nil)))
  .nil)))⟩

/-! ### what a turn gives -/
def turnM (M : Nat → Nat → Int) (p : Nat) : Nat → Nat → Int := fun i j => if i = p ∨ j = p then - M i j else if 0 < M i p ∧ 0 < M p j then M i j + M i p * M p j else if M i p < 0 ∧ M p j < 0 then M i j - M i p * M p j else M i j
/-- bounds by a power of two -/
def BndP (k : Nat) (M : Nat → Nat → Int) : Prop := ∀ i j, (M i j).natAbs ≤ 2 ^ k
theorem mul_ok2 {k : Nat} {x y : Int} (hx : x.natAbs ≤ 2 ^ k) (hy : y.natAbs ≤ 2 ^ k) (hk : k ≤ 100000) : mulOk x y = true := by
  have l : ∀ z : Int, z.natAbs ≤ 2 ^ k → z.natAbs.log2 ≤ k := fun x h => by
    by_cases z : x.natAbs = 0
    · rw [z]
      have : Nat.log2 0 = 0 := by decide
      omega
    · have := (Nat.log2_lt z).mpr (show x.natAbs < 2 ^ (k + 1) from Nat.lt_of_le_of_lt h (Nat.pow_lt_pow_right (by decide) (Nat.lt_succ_self k)))
      omega
  have := l x hx
  have := l y hy
  unfold mulOk
  simp only [decide_eq_true_eq]
  omega
theorem BndP.mul {k : Nat} {M : Nat → Nat → Int} (h : BndP k M) (hk : k ≤ 100000) (a b c d : Nat) : mulOk (M a b) (M c d) = true :=
  mul_ok2 (h a b) (h c d) hk
theorem BndP.turn {k : Nat} {M : Nat → Nat → Int} (h : BndP k M) (p : Nat) : BndP (2 * k + 1) (turnM M p) := fun i j => by
  have one : 1 ≤ 2 ^ k := Nat.pow_pos (by decide)
  have e : 2 ^ (2 * k + 1) = 2 ^ k * 2 ^ k + 2 ^ k * 2 ^ k := by rw [Nat.pow_succ, Nat.two_mul k, Nat.pow_add, Nat.mul_two]
  have sq : 2 ^ k ≤ 2 ^ k * 2 ^ k := Nat.le_mul_of_pos_left _ one
  have hp : (M i p * M p j).natAbs ≤ 2 ^ k * 2 ^ k := by rw [Int.natAbs_mul]; exact Nat.mul_le_mul (h i p) (h p j)
  have hij := h i j
  rw [e]
  unfold turnM
  generalize M i p * M p j = z at *
  generalize M i j = x at *
  generalize 2 ^ k * 2 ^ k = y at *
  split
  · omega
  · split
    · omega
    · split
      · omega
      · omega
theorem BndP.mono {k l : Nat} {M : Nat → Nat → Int} (h : BndP k M) (hl : k ≤ l) : BndP l M := fun i j => Nat.le_trans (h i j) (Nat.pow_le_pow_right (by decide) hl)
theorem Anti.turn {M : Nat → Nat → Int} (h : Anti M) (p : Nat) : Anti (turnM M p) := fun i j => by
  have h1 := h i j
  have e1 : M j p = - M p j := h j p
  have e2 : M p i = - M i p := h p i
  have nc : ¬ (i = p ∨ j = p) → ¬ (j = p ∨ i = p) := fun a q => a q.symm
  unfold turnM
  rw [e1, e2, Int.neg_mul_neg, Int.mul_comm (M p j) (M i p)]
  generalize M i p * M p j = z at *
  generalize M i p = x at *
  generalize M p j = y at *
  generalize M i j = u at *
  generalize M j i = v at *
  by_cases a : i = p ∨ j = p
  · rw [if_pos a, if_pos (c := j = p ∨ i = p) a.symm]; omega
  · rw [if_neg a, if_neg (c := j = p ∨ i = p) (nc a)]
    by_cases b : 0 < x ∧ 0 < y
    · rw [if_pos b, if_neg (by omega), if_pos (by omega)]; omega
    · rw [if_neg b]
      by_cases c : x < 0 ∧ y < 0
      · rw [if_pos c, if_pos (by omega)]; omega
      · rw [if_neg c, if_neg (by omega), if_neg (by omega)]; omega
theorem turn_twice {M : Nat → Nat → Int} (h : Anti M) (p : Nat) : turnM (turnM M p) p = M := by
  funext i j
  have hp : M p p = 0 := by have := h p p; omega
  by_cases a : i = p ∨ j = p
  · have e : turnM M p i j = - M i j := by unfold turnM; rw [if_pos a]
    unfold turnM at e ⊢
    rw [if_pos a, if_pos a]
    omega
  · have e1 : turnM M p i p = - M i p := by unfold turnM; rw [if_pos (.inr rfl)]
    have e2 : turnM M p p j = - M p j := by unfold turnM; rw [if_pos (.inl rfl)]
    have e3 : turnM (turnM M p) p i j = if 0 < turnM M p i p ∧ 0 < turnM M p p j then turnM M p i j + turnM M p i p * turnM M p p j else if turnM M p i p < 0 ∧ turnM M p p j < 0 then turnM M p i j - turnM M p i p * turnM M p p j else turnM M p i j := by
      conv => lhs; unfold turnM
      rw [if_neg a]
      rfl
    have e4 : turnM M p i j = if 0 < M i p ∧ 0 < M p j then M i j + M i p * M p j else if M i p < 0 ∧ M p j < 0 then M i j - M i p * M p j else M i j := by
      conv => lhs; unfold turnM
      rw [if_neg a]
    rw [e3, e1, e2, e4, Int.neg_mul_neg]
    generalize M i p * M p j = z at *
    split <;> split <;> first | omega | (split <;> omega)
/-! ### rows -/
def rowL (n : Nat) (f : Nat → Int) : List D := (List.range n).map fun j => D.int (f j)
theorem matD_eq (n : Nat) (M : Nat → Nat → Int) : matD n M = .tup ((List.range n).map fun i => .tup (rowL n (M i))) := by
  unfold matD matL rowL
  rw [List.map_map]
  rfl
theorem rowL_len (n : Nat) (f : Nat → Int) : (rowL n f).length = n := by simp [rowL]
theorem idx_row {n : Nat} {f : Nat → Int} {j : Nat} (h : j < n) : idxD (.tup (rowL n f)) (.int (j : Int)) = some (.int (f j)) := idx_at (by simp [rowL, h])
theorem idx_mat {n : Nat} {M : Nat → Nat → Int} {i : Nat} (h : i < n) : idxD (matD n M) (.int (i : Int)) = some (.tup (rowL n (M i))) := by
  rw [matD_eq]
  exact idx_at (by simp [h])
theorem len_mat (n : Nat) (M : Nat → Nat → Int) : opF .len [matD n M] = some (.int n) := by
  rw [matD_eq]
  simp [opF]
theorem seq_mat (n : Nat) (M : Nat → Nat → Int) : seqD (matD n M) = some ((List.range n).map fun i => .tup (rowL n (M i))) := by
  rw [matD_eq]; rfl
theorem matD_sh {n : Nat} {M : Nat → Nat → Int} {L : Nat} (h : n ≤ L) : sh L 3 (matD n M) = true := by
  rw [matD_eq]
  simp only [sh, Bool.and_eq_true, decide_eq_true_eq, List.all_eq_true]
  refine ⟨by simp; exact h, fun d hd => ?_⟩
  obtain ⟨i, _, rfl⟩ := List.mem_map.mp hd
  simp only [sh, Bool.and_eq_true, decide_eq_true_eq, List.all_eq_true]
  refine ⟨by rw [rowL_len]; exact h, fun d hd => ?_⟩
  unfold rowL at hd
  obtain ⟨j, _, rfl⟩ := List.mem_map.mp hd
  rfl

theorem enu_get : ∀ (xs : List D) (n i : Nat), (enuD n xs)[i]? = xs[i]?.map fun x => .tup [.int ((n + i : Nat) : Int), x]
  | [], n, i => by simp [enuD]
  | x :: xs, n, 0 => by simp [enuD]
  | x :: xs, n, i + 1 => by
    have := enu_get xs (n + 1) i
    simp only [enuD, List.getElem?_cons_succ, this]
    rw [show n + 1 + i = n + (i + 1) by omega]
theorem enu_len : ∀ (xs : List D) (n : Nat), (enuD n xs).length = xs.length
  | [], n => rfl
  | x :: xs, n => by simp [enuD, enu_len xs]
/-- a list that grows by what a function tells -/
def upto (f : Nat → D) (i : Nat) : List D := (List.range i).map f
theorem upto_succ (f : Nat → D) (i : Nat) : upto f (i + 1) = upto f i ++ [f i] := by
  unfold upto
  rw [List.range_succ, List.map_append]
  rfl
theorem upto_len (f : Nat → D) (i : Nat) : (upto f i).length = i := by simp [upto]
/-! ### the program's turn -/
def taI : Sms := (.cons (.ifs (.cmp .inn (.nm 1) (.tup (.cons (.nm 3) (.cons (.nm 6) .nil)))) (.cons (.app 5 (.neg (.nm 7)))
        .nil) (.cons (.ifs (.band (.cmp .gt (.idx (.nm 4) (.nm 1)) (.ct (.int 0))) (.cmp .gt (.idx (.idx (.nm 0) (.nm 1)) (.nm 6)) (.ct (.int 0)))) (.cons (.app 5 (.bin .add (.nm 7) (.bin .mul (.idx (.nm 4) (.nm 1)) (.idx (.idx (.nm 0) (.nm 1)) (.nm 6)))))
          .nil) (.cons (.ifs (.band (.cmp .lt (.idx (.nm 4) (.nm 1)) (.ct (.int 0))) (.cmp .lt (.idx (.idx (.nm 0) (.nm 1)) (.nm 6)) (.ct (.int 0)))) (.cons (.app 5 (.bin .sub (.nm 7) (.bin .mul (.idx (.nm 4) (.nm 1)) (.idx (.idx (.nm 0) (.nm 1)) (.nm 6)))))
            .nil) (.cons (.app 5 (.nm 7))
            .nil))
          .nil))
        .nil))
      .nil)
def taO : Sms := (.cons (.asg (.nm 5 true) (.lst .nil)) (.cons (.fors (.many [6, 7]) (.enu (.nm 4)) taI) (.cons (.app 2 (.bi .tuple (.cons (.nm 5) .nil))) .nil)))
theorem ta_eq : t_turned_at = ⟨2, 8, [false, false], (.cons (.asg (.nm 2 true) (.lst .nil)) (.cons (.fors (.many [3, 4]) (.enu (.nm 0)) taO) (.cons (.ret false (.bi .tuple (.cons (.nm 2) .nil))) .nil)))⟩ := rfl
def taS (T : D) (p : Nat) (R : List D) (a b c d e : Sl) (ob : List Ob) : Ms := ⟨[.va T, .va (.int p), .ow (.lst R), a, b, c, d, e], ob⟩
theorem in_two (p i j : Nat) : inD (.int (p : Int)) (.tup [.int (i : Int), .int (j : Int)]) = some (decide (i = p ∨ j = p)) := by
  have e : ∀ a b : Nat, ((a : Int) == (b : Int)) = decide (a = b) := fun a b => by
    by_cases h : a = b
    · subst h; simp
    · rw [beq_eq_false_iff_ne.mpr (show (a : Int) ≠ b by omega)]; simp [h]
  simp only [inD, intsD, Option.map_some, List.any_cons, List.any_nil, e, Bool.or_false, Bool.decide_or]
theorem taI_run (F : Fh) {n k p i j : Nat} {M : Nat → Nat → Int} (hM : BndP k M) (hk : k ≤ 100000) (hp : p < n) (hj : j < n) (R E : List D) (hE : E.length < 100000) (ob : List Ob) :
    evSs F taI (taS (matD n M) p R (.va (.int i)) (.va (.tup (rowL n (M i)))) (.ow (.lst E)) (.va (.int j)) (.va (.int (M i j))) ob) = .nx (taS (matD n M) p R (.va (.int i)) (.va (.tup (rowL n (M i)))) (.ow (.lst (E ++ [.int (turnM M p i j)]))) (.va (.int j)) (.va (.int (M i j))) ob) := by
  have i1 := idx_row (n := n) (f := M i) hp
  have i2 := idx_mat (M := M) hp
  have i3 := idx_row (n := n) (f := M p) hj
  have mo := hM.mul hk i p p j
  have hin := in_two p i j
  have z2 : 2 ≤ sizeLine := by decide
  have zl : E.length < sizeLine := Nat.lt_of_lt_of_le hE (by decide)
  unfold turnM taS
  by_cases a : i = p ∨ j = p
  · rw [decide_eq_true a] at hin
    rw [if_pos a]
    simp [taI, isSet, dr, op2, opC, z2, hin, hasS, zl, rdN]
  · rw [decide_eq_false a] at hin
    rw [if_neg a]
    by_cases b : 0 < M i p
    · by_cases c : 0 < M p j
      · rw [if_pos ⟨b, c⟩]
        simp [taI, isSet, dr, op2, opC, z2, hin, hasS, zl, i1, i2, i3, rdN, cmpD, b, c, opB, addD, mulD, mo]
      · have d : ¬ M i p < 0 := by omega
        rw [if_neg (fun q => c q.2), if_neg (fun q => d q.1)]
        simp [taI, isSet, dr, op2, opC, z2, hin, hasS, zl, i1, i2, i3, rdN, cmpD, b, c, d]
    · by_cases d : M i p < 0
      · by_cases c : M p j < 0
        · rw [if_neg (fun q => b q.1), if_pos ⟨d, c⟩]
          simp [taI, isSet, dr, op2, opC, z2, hin, hasS, zl, i1, i2, i3, rdN, cmpD, b, c, d, opB, subD, mulD, mo]
        · rw [if_neg (fun q => b q.1), if_neg (fun q => c q.2)]
          simp [taI, isSet, dr, op2, opC, z2, hin, hasS, zl, i1, i2, i3, rdN, cmpD, b, c, d]
      · rw [if_neg (fun q => b q.1), if_neg (fun q => d q.1)]
        simp [taI, isSet, dr, op2, opC, z2, hin, hasS, zl, i1, i2, i3, rdN, cmpD, b, d]
theorem taO_run (F : Fh) {n k p i : Nat} {M : Nat → Nat → Int} (hM : BndP k M) (hk : k ≤ 100000) (hn : n ≤ 10000) (hp : p < n) (R : List D) (hR : R.length < 100000) (c d e : Sl) (ob : List Ob) :
    ∃ c' d' e', evSs F taO (taS (matD n M) p R (.va (.int i)) (.va (.tup (rowL n (M i)))) c d e ob) = .nx (taS (matD n M) p (R ++ [.tup (rowL n (turnM M p i))]) (.va (.int i)) (.va (.tup (rowL n (M i)))) c' d' e' ob) := by
  have z0 : 0 ≤ sizeLine := by decide
  have a0 : evS F (.asg (.nm 5 true) (.lst .nil)) (taS (matD n M) p R (.va (.int i)) (.va (.tup (rowL n (M i)))) c d e ob) = .nx (taS (matD n M) p R (.va (.int i)) (.va (.tup (rowL n (M i)))) (.ow (.lst [])) d e ob) := by
    simp [taS, evR, isFr, z0]
  obtain ⟨s', f1, d', e', h1⟩ := forL_inv (f := forF F (.many [6, 7]) taI) (fun j s => ∃ d e, s = taS (matD n M) p R (.va (.int i)) (.va (.tup (rowL n (M i)))) (.ow (.lst (upto (fun j => .int (turnM M p i j)) j))) d e ob) (ds := enuD 0 (rowL n (M i))) (s := taS (matD n M) p R (.va (.int i)) (.va (.tup (rowL n (M i)))) (.ow (.lst [])) d e ob) 0 ⟨d, e, rfl⟩ fun j x s hd ⟨d, e, hs⟩ => by
    subst hs
    rw [Nat.zero_add]
    rw [enu_get] at hd
    obtain ⟨y, hy, rfl⟩ := Option.map_eq_some_iff.mp hd
    obtain ⟨hj, hy⟩ := List.getElem?_eq_some_iff.mp hy
    have hj : j < n := by rw [rowL_len] at hj; exact hj
    have hy : y = .int (M i j) := by rw [← hy]; simp [rowL]
    subst hy
    refine ⟨_, .inl ?_, .va (.int j), .va (.int (M i j)), rfl⟩
    rw [Nat.zero_add, upto_succ]
    exact taI_run F hM hk hp hj R (upto (fun j => .int (turnM M p i j)) j) (by rw [upto_len]; omega) ob
  subst h1
  rw [enu_len, rowL_len, Nat.zero_add] at f1
  have e1 : evI F (.enu (.nm 4)) (taS (matD n M) p R (.va (.int i)) (.va (.tup (rowL n (M i)))) (.ow (.lst [])) d e ob) = .ok (enuD 0 (rowL n (M i)), taS (matD n M) p R (.va (.int i)) (.va (.tup (rowL n (M i)))) (.ow (.lst [])) d e ob) := by
    simp [taS, rdN, lstD]
  have zR : R.length < sizeLine := Nat.lt_of_lt_of_le hR (by decide)
  refine ⟨.ow (.lst (rowL n (turnM M p i))), d', e', ?_⟩
  refine (ss_nx a0).trans ((ss_nx (fors_nx e1 f1)).trans ?_)
  have e2 : upto (fun j => D.int (turnM M p i j)) n = rowL n (turnM M p i) := rfl
  rw [e2]
  simp [taS, isSet, drs, dr, opF, hasS, zR]
/-- what a call of turned_at gives -/
theorem turned_run (F : Fh) {n k p : Nat} {M : Nat → Nat → Int} (hM : BndP k M) (hk : k ≤ 100000) (hn : n ≤ 10000) (hp : p < n) (ob : List Ob) : runF F t_turned_at [.va (matD n M), .va (.int p)] ob = .ok (matD n (turnM M p)) false [.va (matD n M), .va (.int p)] ob := by
  have z0 : 0 ≤ sizeLine := by decide
  have a0 : evS F (.asg (.nm 2 true) (.lst .nil)) ⟨[.va (matD n M), .va (.int p), .un, .un, .un, .un, .un, .un], ob⟩ = .nx (taS (matD n M) p [] .un .un .un .un .un ob) := by
    simp [taS, evR, isFr, z0]
  obtain ⟨s', f1, a', b', c', d', e', h1⟩ := forL_inv (f := forF F (.many [3, 4]) taO) (fun i s => ∃ a b c d e, s = taS (matD n M) p (upto (fun i => .tup (rowL n (turnM M p i))) i) a b c d e ob) (ds := enuD 0 ((List.range n).map fun i => .tup (rowL n (M i)))) (s := taS (matD n M) p [] .un .un .un .un .un ob) 0 ⟨.un, .un, .un, .un, .un, rfl⟩ fun i x s hd ⟨a, b, c, d, e, hs⟩ => by
    subst hs
    rw [Nat.zero_add]
    rw [enu_get] at hd
    obtain ⟨y, hy, rfl⟩ := Option.map_eq_some_iff.mp hd
    obtain ⟨hi, hy⟩ := List.getElem?_eq_some_iff.mp hy
    have hi : i < n := by simpa using hi
    have hy : y = .tup (rowL n (M i)) := by rw [← hy]; simp
    subst hy
    obtain ⟨c2, d2, e2, q⟩ := taO_run F hM hk hn hp (i := i) (upto (fun i => .tup (rowL n (turnM M p i))) i) (by rw [upto_len]; omega) c d e ob
    refine ⟨_, .inl ?_, .va (.int i), .va (.tup (rowL n (M i))), c2, d2, e2, rfl⟩
    rw [Nat.zero_add, upto_succ]
    exact q
  subst h1
  rw [enu_len, List.length_map, List.length_range, Nat.zero_add] at f1
  have e1 : evI F (.enu (.nm 0)) (taS (matD n M) p [] .un .un .un .un .un ob) = .ok (enuD 0 ((List.range n).map fun i => .tup (rowL n (M i))), taS (matD n M) p [] .un .un .un .un .un ob) := by
    rw [matD_eq]
    simp [taS, rdN, lstD]
  rw [ta_eq]
  have e2 : D.tup (upto (fun i => .tup (rowL n (turnM M p i))) n) = matD n (turnM M p) := by rw [matD_eq]; rfl
  refine (runF_rt (s := ⟨[.va (matD n M), .va (.int p), .un, .un, .un, .un, .un, .un], ob⟩) (s' := taS (matD n M) p (upto (fun i => .tup (rowL n (turnM M p i))) n) a' b' c' d' e' ob) (d := matD n (turnM M p)) (o := false) rfl rfl ((ss_nx a0).trans ((ss_nx (fors_nx e1 f1)).trans (ss_rt (ret_rt ?_))))).trans ?_
  · rw [← e2]
    simp [taS, isSet, drs, dr, opF]
  · simp [taS, outsF]
end Mi
/-! Part L7: the laws' turn by halves; what is asked of arguments. -/
namespace Mi
open PySem
/-! ### by halves -/
def absI (h : Int) : Int := if h < 0 then -h else h
def halfM (h t : Int) : Int := if 0 < h ∧ 0 < t then h * t else if h < 0 ∧ t < 0 then -(h * t) else 0
theorem half_eq (h t : Int) : (absI h * t + h * absI t) / 2 = halfM h t := by
  unfold absI halfM
  rcases Int.lt_trichotomy h 0 with a | a | a
  · rcases Int.lt_trichotomy t 0 with b | b | b
    · rw [if_pos a, if_pos b, if_neg (by omega), if_pos ⟨a, b⟩, Int.neg_mul, Int.mul_neg]
      omega
    · subst b; simp
    · rw [if_pos a, if_neg (by omega), if_neg (by omega), if_neg (by omega), Int.neg_mul]
      omega
  · subst a; simp
  · rcases Int.lt_trichotomy t 0 with b | b | b
    · rw [if_neg (by omega), if_pos b, if_neg (by omega), if_neg (by omega), Int.mul_neg]
      omega
    · subst b; simp
    · rw [if_neg (by omega), if_neg (by omega), if_pos ⟨a, b⟩]
      omega
theorem turn_half (M : Nat → Nat → Int) (p i j : Nat) : turnM M p i j = if i = p ∨ j = p then - M i j else M i j + halfM (M i p) (M p j) := by
  unfold turnM halfM
  split
  · rfl
  · split
    · rfl
    · split
      · omega
      · omega
def ltI : Sms := (.cons (.asg2 (.nm 9 false) (.nm 10 false) (.idx (.idx (.nm 0) (.nm 2)) (.nm 1)) (.idx (.idx (.nm 0) (.nm 1)) (.nm 6)))
      (.cons (.asg (.nm 7 false) (.bin .fdiv (.bin .add (.bin .mul (.bi .abs (.cons (.nm 9) .nil)) (.nm 10)) (.bin .mul (.nm 9) (.bi .abs (.cons (.nm 10) .nil)))) (.ct (.int 2))))
      (.cons (.asg (.nm 8 false) (.idx (.idx (.nm 0) (.nm 2)) (.nm 6)))
      (.cons (.app 5 (.ite (.cmp .inn (.nm 1) (.tup (.cons (.nm 2) (.cons (.nm 6) .nil)))) (.neg (.nm 8)) (.bin .add (.nm 8) (.nm 7))))
      .nil))))
def ltO : Sms := (.cons (.asg (.nm 5 true) (.lst .nil)) (.cons (.fors (.one 6) (.rng1 (.nm 3)) ltI) (.cons (.app 4 (.bi .tuple (.cons (.nm 5) .nil))) .nil)))
def ltA : Sm := .asg2 (.nm 3 false) (.nm 4 true) (.bi .len (.cons (.nm 0) .nil)) (.lst .nil)
def ltF : Sm := .fors (.one 2) (.rng1 (.nm 3)) ltO
def ltR : Sm := .ret false (.bi .tuple (.cons (.nm 4) .nil))
def ltB : Sms := .cons ltA (.cons ltF (.cons ltR .nil))
theorem lt_eq : t_law_turned = ⟨2, 11, [false, false], ltB⟩ := rfl
def ltS (T : D) (p n : Nat) (R : List D) (a b c d e f g : Sl) (ob : List Ob) : Ms := ⟨[.va T, .va (.int p), a, .va (.int n), .ow (.lst R), b, c, d, e, f, g], ob⟩
theorem ltI_run (F : Fh) {n k p i j : Nat} {M : Nat → Nat → Int} (hM : BndP k M) (hk : k ≤ 100000) (hp : p < n) (hi : i < n) (hj : j < n) (R E : List D) (hE : E.length < 100000) (d e f g : Sl) (ob : List Ob) :
    ∃ d' e' f' g', evSs F ltI (ltS (matD n M) p n R (.va (.int i)) (.ow (.lst E)) (.va (.int j)) d e f g ob) = .nx (ltS (matD n M) p n R (.va (.int i)) (.ow (.lst (E ++ [.int (turnM M p i j)]))) (.va (.int j)) d' e' f' g' ob) := by
  have i0 := idx_mat (M := M) hi
  have i1 := idx_row (n := n) (f := M i) hp
  have i2 := idx_mat (M := M) hp
  have i3 := idx_row (n := n) (f := M p) hj
  have i4 := idx_row (n := n) (f := M i) hj
  have ab : ∀ x : Int, (absI x).natAbs = x.natAbs := fun x => by unfold absI; split <;> omega
  have m1 : mulOk (if M i p < 0 then - M i p else M i p) (M p j) = true := mul_ok2 (k := k) (by have := ab (M i p); unfold absI at this; rw [this]; exact hM i p) (hM p j) hk
  have m2 : mulOk (M i p) (if M p j < 0 then - M p j else M p j) = true := mul_ok2 (k := k) (hM i p) (by have := ab (M p j); unfold absI at this; rw [this]; exact hM p j) hk
  have hin := in_two p i j
  have z2 : 2 ≤ sizeLine := by decide
  have d2 : divOk 2 = true := by decide
  have zl : E.length < sizeLine := Nat.lt_of_lt_of_le hE (by decide)
  have hh := half_eq (M i p) (M p j)
  unfold absI at hh
  refine ⟨.va (.int (halfM (M i p) (M p j))), .va (.int (M i j)), .va (.int (M i p)), .va (.int (M p j)), ?_⟩
  rw [turn_half]
  have e1 : evS F (.asg2 (.nm 9 false) (.nm 10 false) (.idx (.idx (.nm 0) (.nm 2)) (.nm 1)) (.idx (.idx (.nm 0) (.nm 1)) (.nm 6))) (ltS (matD n M) p n R (.va (.int i)) (.ow (.lst E)) (.va (.int j)) d e f g ob) = .nx (ltS (matD n M) p n R (.va (.int i)) (.ow (.lst E)) (.va (.int j)) d e (.va (.int (M i p))) (.va (.int (M p j))) ob) := by
    simp [ltS, isSet, dr, op2, i0, i1, i2, i3, rdN]
  have e2 : evS F (.asg (.nm 7 false) (.bin .fdiv (.bin .add (.bin .mul (.bi .abs (.cons (.nm 9) .nil)) (.nm 10)) (.bin .mul (.nm 9) (.bi .abs (.cons (.nm 10) .nil)))) (.ct (.int 2)))) (ltS (matD n M) p n R (.va (.int i)) (.ow (.lst E)) (.va (.int j)) d e (.va (.int (M i p))) (.va (.int (M p j))) ob) = .nx (ltS (matD n M) p n R (.va (.int i)) (.ow (.lst E)) (.va (.int j)) (.va (.int (halfM (M i p) (M p j)))) e (.va (.int (M i p))) (.va (.int (M p j))) ob) := by
    simp [ltS, isSet, dr, drs, op2, opF, opB, addD, mulD, fdivD, m1, m2, d2, hh]
  have e3 : evS F (.asg (.nm 8 false) (.idx (.idx (.nm 0) (.nm 2)) (.nm 6))) (ltS (matD n M) p n R (.va (.int i)) (.ow (.lst E)) (.va (.int j)) (.va (.int (halfM (M i p) (M p j)))) e (.va (.int (M i p))) (.va (.int (M p j))) ob) = .nx (ltS (matD n M) p n R (.va (.int i)) (.ow (.lst E)) (.va (.int j)) (.va (.int (halfM (M i p) (M p j)))) (.va (.int (M i j))) (.va (.int (M i p))) (.va (.int (M p j))) ob) := by
    simp [ltS, isSet, dr, op2, i0, i4, rdN]
  refine (ss_nx e1).trans ((ss_nx e2).trans ((ss_nx e3).trans ?_))
  by_cases a : i = p ∨ j = p
  · rw [decide_eq_true a] at hin
    rw [if_pos a]
    simp [ltS, isSet, dr, op2, opC, z2, hin, hasS, zl, rdN]
  · rw [decide_eq_false a] at hin
    rw [if_neg a]
    simp [ltS, isSet, dr, op2, opC, z2, hin, hasS, zl, rdN, opB, addD]
theorem ltO_run (F : Fh) {n k p i : Nat} {M : Nat → Nat → Int} (hM : BndP k M) (hk : k ≤ 100000) (hn : n ≤ 10000) (hp : p < n) (hi : i < n) (R : List D) (hR : R.length < 100000) (b c d e f g : Sl) (ob : List Ob) :
    ∃ b' c' d' e' f' g', evSs F ltO (ltS (matD n M) p n R (.va (.int i)) b c d e f g ob) = .nx (ltS (matD n M) p n (R ++ [.tup (rowL n (turnM M p i))]) (.va (.int i)) b' c' d' e' f' g' ob) := by
  have z0 : 0 ≤ sizeLine := by decide
  have a0 : evS F (.asg (.nm 5 true) (.lst .nil)) (ltS (matD n M) p n R (.va (.int i)) b c d e f g ob) = .nx (ltS (matD n M) p n R (.va (.int i)) (.ow (.lst [])) c d e f g ob) := by
    simp [ltS, evR, isFr, z0]
  obtain ⟨s', f1, c', d', e', f', g', h1⟩ := forL_inv (f := forF F (.one 6) ltI) (fun j s => ∃ c d e f g, s = ltS (matD n M) p n R (.va (.int i)) (.ow (.lst (upto (fun j => .int (turnM M p i j)) j))) c d e f g ob) (ds := rngD 0 (n : Int)) (s := ltS (matD n M) p n R (.va (.int i)) (.ow (.lst [])) c d e f g ob) 0 ⟨c, d, e, f, g, rfl⟩ fun j x s hd ⟨c, d, e, f, g, hs⟩ => by
    subst hs
    rw [Nat.zero_add]
    rw [rng0] at hd
    obtain ⟨hj, hx⟩ := List.getElem?_eq_some_iff.mp hd
    have hj : j < n := by simpa using hj
    have hx : x = .int (j : Int) := by rw [← hx]; simp
    subst hx
    obtain ⟨d', e', f', g', q⟩ := ltI_run F hM hk hp hi hj R (upto (fun j => .int (turnM M p i j)) j) (by rw [upto_len]; omega) d e f g ob
    refine ⟨_, .inl ?_, .va (.int j), d', e', f', g', rfl⟩
    rw [upto_succ]
    exact q
  subst h1
  have hl : 0 + (rngD 0 (n : Int)).length = n := by rw [rngD_len]; omega
  rw [hl] at f1
  have e1 : evI F (.rng1 (.nm 3)) (ltS (matD n M) p n R (.va (.int i)) (.ow (.lst [])) c d e f g ob) = .ok (rngD 0 (n : Int), ltS (matD n M) p n R (.va (.int i)) (.ow (.lst [])) c d e f g ob) := ev_rngN1 rfl (by omega) (by omega)
  have zR : R.length < sizeLine := Nat.lt_of_lt_of_le hR (by decide)
  refine ⟨.ow (.lst (rowL n (turnM M p i))), c', d', e', f', g', ?_⟩
  refine (ss_nx a0).trans ((ss_nx (fors_nx e1 f1)).trans ?_)
  have e2 : upto (fun j => D.int (turnM M p i j)) n = rowL n (turnM M p i) := rfl
  rw [e2]
  simp [ltS, isSet, drs, dr, opF, hasS, zR]
theorem ltF_run (F : Fh) {n k p : Nat} {M : Nat → Nat → Int} (hM : BndP k M) (hk : k ≤ 100000) (hn : n ≤ 10000) (hp : p < n) (ob : List Ob) : ∃ a b c d e f g, evS F ltF (ltS (matD n M) p n [] .un .un .un .un .un .un .un ob) = .nx (ltS (matD n M) p n (upto (fun i => .tup (rowL n (turnM M p i))) n) a b c d e f g ob) := by
  obtain ⟨s', f1, a', b', c', d', e', f', g', h1⟩ := forL_inv (f := forF F (.one 2) ltO) (fun i s => ∃ a b c d e f g, s = ltS (matD n M) p n (upto (fun i => .tup (rowL n (turnM M p i))) i) a b c d e f g ob) (ds := rngD 0 (n : Int)) (s := ltS (matD n M) p n [] .un .un .un .un .un .un .un ob) 0 ⟨.un, .un, .un, .un, .un, .un, .un, rfl⟩ fun i x s hd ⟨a, b, c, d, e, f, g, hs⟩ => by
    subst hs
    rw [Nat.zero_add]
    rw [rng0] at hd
    obtain ⟨hi, hx⟩ := List.getElem?_eq_some_iff.mp hd
    have hi : i < n := by simpa using hi
    have hx : x = .int (i : Int) := by rw [← hx]; simp
    subst hx
    obtain ⟨b2, c2, d2, e2, f2, g2, q⟩ := ltO_run F hM hk hn hp hi (upto (fun i => .tup (rowL n (turnM M p i))) i) (by rw [upto_len]; omega) b c d e f g ob
    refine ⟨_, .inl ?_, .va (.int i), b2, c2, d2, e2, f2, g2, rfl⟩
    rw [upto_succ]
    exact q
  subst h1
  have hl : 0 + (rngD 0 (n : Int)).length = n := by rw [rngD_len]; omega
  rw [hl] at f1
  have e1 : evI F (.rng1 (.nm 3)) (ltS (matD n M) p n [] .un .un .un .un .un .un .un ob) = .ok (rngD 0 (n : Int), ltS (matD n M) p n [] .un .un .un .un .un .un .un ob) := ev_rngN1 rfl (by omega) (by omega)
  exact ⟨a', b', c', d', e', f', g', fors_nx e1 f1⟩
theorem ltA_run (F : Fh) {n p : Nat} {M : Nat → Nat → Int} (ob : List Ob) : evS F ltA ⟨[.va (matD n M), .va (.int p), .un, .un, .un, .un, .un, .un, .un, .un, .un], ob⟩ = .nx (ltS (matD n M) p n [] .un .un .un .un .un .un .un ob) := by
  have z0 : 0 ≤ sizeLine := by decide
  have lm := len_mat n M
  simp [ltA, ltS, evR, isFr, z0, isSet, drs, dr, lm]
theorem ltR_run (F : Fh) {n p : Nat} {T : D} {M : Nat → Nat → Int} (a b c d e f g : Sl) (ob : List Ob) : evS F ltR (ltS T p n (upto (fun i => .tup (rowL n (M i))) n) a b c d e f g ob) = .rt (matD n M) false (ltS T p n (upto (fun i => .tup (rowL n (M i))) n) a b c d e f g ob) := by
  have e2 : D.tup (upto (fun i => .tup (rowL n (M i))) n) = matD n M := by rw [matD_eq]; rfl
  rw [← e2]
  simp [ltR, ltS, isSet, drs, dr, opF]
theorem lawturned_run (F : Fh) {n k p : Nat} {M : Nat → Nat → Int} (hM : BndP k M) (hk : k ≤ 100000) (hn : n ≤ 10000) (hp : p < n) (ob : List Ob) : runF F t_law_turned [.va (matD n M), .va (.int p)] ob = .ok (matD n (turnM M p)) false [.va (matD n M), .va (.int p)] ob := by
  obtain ⟨a, b, c, d, e, f, g, k2⟩ := ltF_run F hM hk hn hp ob
  have key : evSs F ltB ⟨[.va (matD n M), .va (.int p), .un, .un, .un, .un, .un, .un, .un, .un, .un], ob⟩ = .rt (matD n (turnM M p)) false (ltS (matD n M) p n (upto (fun i => .tup (rowL n (turnM M p i))) n) a b c d e f g ob) := by
    unfold ltB
    rw [ss_nx (ltA_run F ob), ss_nx k2, ss_rt (ltR_run F (M := turnM M p) a b c d e f g ob)]
  rw [lt_eq]
  refine (runF_rt (F := F) (f := ⟨2, 11, [false, false], ltB⟩) (ps := [.va (matD n M), .va (.int p)]) (ob := ob) (s := ⟨[.va (matD n M), .va (.int p), .un, .un, .un, .un, .un, .un, .un, .un, .un], ob⟩) rfl rfl key).trans ?_
  simp [ltS, outsF]
end Mi
/-! Part L8: what is asked of arguments; turned, turned_by; rows of turns drawn. -/
namespace Mi
open PySem
theorem tabB_mat {n : Nat} {M : Nat → Nat → Int} (h1 : 1 ≤ n) (h4 : n ≤ 4) (hA : Anti M) (hB : Bnd 9 M) : tabB (matD n M) = true := by
  rw [matD_eq, tabB_tup]
  have hent : ∀ i j, i < n → j < n → ent ((List.range n).map fun i => D.tup (rowL n (M i))) i j = M i j := fun i j hi hj => by
    unfold ent
    have e1 : ((List.range n).map fun i => D.tup (rowL n (M i)))[i]? = some (.tup (rowL n (M i))) := by simp [hi]
    have e2 : (rowL n (M i))[j]? = some (.int (M i j)) := by simp [rowL, hj]
    simp only [e1, e2]
  simp only [Bool.and_eq_true, decide_eq_true_eq, List.length_map, List.length_range, List.all_eq_true]
  refine ⟨⟨⟨h1, h4⟩, fun d hd => ?_⟩, ?_⟩
  · obtain ⟨i, _, rfl⟩ := List.mem_map.mp hd
    simp only [rowB, Bool.and_eq_true, decide_eq_true_eq, List.all_eq_true]
    refine ⟨by rw [rowL_len], fun x hx => ?_⟩
    unfold rowL at hx
    obtain ⟨j, _, rfl⟩ := List.mem_map.mp hx
    simp only [numB, Bool.and_eq_true, decide_eq_true_eq]
    exact hB i j
  · unfold antiB
    simp only [List.length_map, List.length_range, List.all_eq_true, List.mem_range, beq_iff_eq]
    intro i hi j hj
    rw [hent i j hi hj, hent j i hj hi]
    exact hA i j
structure TuOk (F : Fh) (k : Nat) : Prop where
  asg : F.asg k = [false, false]
  run : ∀ (n b p : Nat) (M : Nat → Nat → Int) (ob : List Ob), BndP b M → b ≤ 100000 → n ≤ 10000 → p < n → F.run k [.va (matD n M), .va (.int p)] ob = .ok (matD n (turnM M p)) false [.va (matD n M), .va (.int p)] ob
structure GdOk (F : Fh) (k : Nat) : Prop where
  asg : F.asg k = [false]
  run : ∀ (L m : Nat) (v : D) (ob : List Ob), sh L m v = true → L ≤ 100000 → F.run k [.va v] ob = .ok (.bl (tabB v)) false [.va v] ob
structure NuOk (F : Fh) (k : Nat) : Prop where
  asg : F.asg k = [false, false, false]
  run : NumOk F k
/-- a def that asks something of its arguments -/
structure NtOk (F : Fh) (k cc : Nat) : Prop where
  asg : F.asg k = [false]
  run : ∀ (L m : Nat) (v : D) (ob : List Ob), sh L m v = true → L ≤ 100000 → F.run k [.va v] ob = if tabB v = true then .ok .non false [.va v] ob else .ex ⟨cc, []⟩ ob
structure NpOk (F : Fh) (k cc : Nat) : Prop where
  asg : F.asg k = [false, false]
  run : ∀ (n : Nat) (M : Nat → Nat → Int) (v : D) (ob : List Ob), plain v = true → F.run k [.va (matD n M), .va v] ob = if numB 0 ((n : Int) - 1) v = true then .ok .non false [.va (matD n M), .va v] ob else .ex ⟨cc, []⟩ ob
def plB (n : Nat) : D → Bool
  | .tup ds => decide (ds.length ≤ 8) && ds.all (numB 0 ((n : Int) - 1))
  | _ => false
structure NsOk (F : Fh) (k cc : Nat) : Prop where
  asg : F.asg k = [false, false]
  run : ∀ (n L m : Nat) (M : Nat → Nat → Int) (v : D) (ob : List Ob), sh L m v = true → L ≤ 1000 → F.run k [.va (matD n M), .va v] ob = if plB n v = true then .ok .non false [.va (matD n M), .va v] ob else .ex ⟨cc, []⟩ ob
theorem needtable_run (F : Fh) {k cc : Nat} (hk : GdOk F k) {L m : Nat} {v : D} (hv : sh L m v = true) (hL : L ≤ 100000) (ob : List Ob) : runF F (tt_need_table k cc) [.va v] ob = if tabB v = true then .ok .non false [.va v] ob else .ex ⟨cc, []⟩ ob := by
  have r := fun ob => hk.run L m v ob hv hL
  cases h : tabB v <;> rw [h] at r <;> simp [runF, tt_need_table, isSet, cal, calF, lend, hk.asg, r, back, outsF]
theorem needplace_run (F : Fh) {k cc : Nat} (hk : NuOk F k) (n : Nat) (M : Nat → Nat → Int) {v : D} (hv : plain v = true) (ob : List Ob) : runF F (tt_need_place k cc) [.va (matD n M), .va v] ob = if numB 0 ((n : Int) - 1) v = true then .ok .non false [.va (matD n M), .va v] ob else .ex ⟨cc, []⟩ ob := by
  have r := fun ob => hk.run v 0 ((n : Int) - 1) ob hv
  have lm := len_mat n M
  cases h : numB 0 ((n : Int) - 1) v <;> rw [h] at r <;> simp [runF, tt_need_place, isSet, drs, dr, lm, op2, opB, subD, cal, calF, lend, hk.asg, r, back, outsF]
def npC (k : Nat) : Ex := .comp (.call k (.cons (.nm 2) (.cons (.ct (.int 0)) (.cons (.bin .sub (.bi .len (.cons (.nm 0) .nil)) (.ct (.int 1))) .nil)))) (.one 2) (.seq (.nm 1)) .om [2]
theorem nps_eq (k gg cc : Nat) : tt_need_places k gg cc = ⟨2, 3, [false, false],
  (.cons (.ifs (.bor (.bnot (.isi .tuple (.nm 1))) (.cmp .gt (.bi .len (.cons (.nm 1) .nil)) (.gl gg 8))) (.cons (.rai cc) .nil) .nil)
  (.cons (.ifs (.bnot (.bi .all (.cons (npC k) .nil))) (.cons (.rai cc) .nil) .nil) .nil))⟩ := rfl
@[simp] theorem opd_npC (k : Nat) (r : R (D × Ms)) (s : Ms) : opd (npC k) r s = r.bnd fun p => .ok (.dd p.1, p.2) := rfl
theorem npC_run (F : Fh) {k : Nat} (hk : NuOk F k) (n : Nat) (M : Nat → Nat → Int) {L m : Nat} {ds : List D} (hl : ds.length ≤ 1000) (hd : ∀ d ∈ ds, sh L m d = true) (ob : List Ob) : evE F (npC k) ⟨[.va (matD n M), .va (.tup ds), .un], ob⟩ = .ok (.lst (ds.map fun d => .bl (numB 0 ((n : Int) - 1) d)), ⟨[.va (matD n M), .va (.tup ds), .un], ob⟩) := by
  have hm : (ds.filterMap fun d => some (D.bl (numB 0 ((n : Int) - 1) d))) = ds.map fun d => .bl (numB 0 ((n : Int) - 1) d) := by simp
  have lm := len_mat n M
  rw [← hm]
  refine ev_comp1 (by simp [rdN, seqD]) (by simp) (by simp [ownOk]) (by rw [hm, List.length_map]; exact szl _ (by omega)) fun d hd' => ?_
  have r := fun ob => hk.run d 0 ((n : Int) - 1) ob (plain_of_sh (hd d hd'))
  simp [condR, isSet, drs, dr, lm, op2, opB, subD, cal, calF, lend, hk.asg, r, back]
theorem needplaces_run (F : Fh) {k gg cc : Nat} (hk : NuOk F k) (n : Nat) (M : Nat → Nat → Int) {L m : Nat} {v : D} (hv : sh L m v = true) (hL : L ≤ 1000) (ob : List Ob) : runF F (tt_need_places k gg cc) [.va (matD n M), .va v] ob = if plB n v = true then .ok .non false [.va (matD n M), .va v] ob else .ex ⟨cc, []⟩ ob := by
  rw [nps_eq]
  cases m with
  | zero => simp [sh] at hv
  | succ m =>
    cases v <;> first | (simp [sh] at hv; done) | skip
    case tup ds =>
      simp only [sh, Bool.and_eq_true, decide_eq_true_eq, List.all_eq_true] at hv
      have e := npC_run F hk n M (by omega) hv.2 ob
      by_cases h8 : ds.length ≤ 8
      · have h8' : ¬ (8 : Int) < ds.length := by omega
        have hb : (ds.map (numB 0 ((n : Int) - 1))).all id = ds.all (numB 0 ((n : Int) - 1)) := by rw [List.all_map]; rfl
        cases hall : ds.all (numB 0 ((n : Int) - 1)) <;> rw [hall] at hb <;>
          simp [runF, isSet, drs, dr, op1, op2, isiD, opF, opC, cmpD, h8', e, bools_map, hb, outsF, plB, h8, hall]
      · have h8' : (8 : Int) < ds.length := by omega
        simp [runF, isSet, drs, dr, op1, op2, isiD, opF, opC, cmpD, h8', outsF, plB, h8]
    all_goals simp [runF, isSet, dr, op1, isiD, plB]
/-! ### turned -/
structure GoodM (n : Nat) (M : Nat → Nat → Int) : Prop where
  n1 : 1 ≤ n
  n4 : n ≤ 4
  anti : Anti M
  bnd : Bnd 9 M
theorem GoodM.p {n : Nat} {M : Nat → Nat → Int} (h : GoodM n M) : BndP 4 M := fun i j => by
  have := h.bnd i j
  show (M i j).natAbs ≤ 16
  omega
theorem GoodM.tab {n : Nat} {M : Nat → Nat → Int} (h : GoodM n M) : tabB (matD n M) = true := tabB_mat h.n1 h.n4 h.anti h.bnd
theorem GoodM.sh {n : Nat} {M : Nat → Nat → Int} (h : GoodM n M) : sh 4 3 (matD n M) = true := matD_sh h.n4
theorem num_place {n p : Nat} (h : p < n) : numB 0 ((n : Int) - 1) (.int (p : Int)) = true := by
  simp only [numB, Bool.and_eq_true, decide_eq_true_eq]
  omega
theorem turnedP_run (F : Fh) {kt kp ku ct cp : Nat} (ht : NtOk F kt ct) (hp : NpOk F kp cp) (hu : TuOk F ku) {n p : Nat} {M : Nat → Nat → Int} (g : GoodM n M) (h : p < n) (ob : List Ob) : runF F (t_turned kt kp ku) [.va (matD n M), .va (.int p)] ob = .ok (matD n (turnM M p)) false [.va (matD n M), .va (.int p)] ob := by
  have r1 := fun ob => ht.run 4 3 (matD n M) ob g.sh (by decide)
  have r2 := fun ob => hp.run n M (.int p) ob rfl
  have r3 := fun ob => hu.run n 4 p M ob g.p (by decide) (by have := g.n4; omega) h
  simp only [g.tab, if_true] at r1
  simp only [num_place h, if_true] at r2
  simp [runF, t_turned, isSet, cal, calF, lend, ht.asg, hp.asg, hu.asg, r1, r2, r3, back, outsF]
theorem turnedP_place (F : Fh) {kt kp ku ct cp : Nat} (ht : NtOk F kt ct) (hp : NpOk F kp cp) {n : Nat} {M : Nat → Nat → Int} (g : GoodM n M) {v : D} (hv : plain v = true) (hb : numB 0 ((n : Int) - 1) v = false) (ob : List Ob) : runF F (t_turned kt kp ku) [.va (matD n M), .va v] ob = .ex ⟨cp, []⟩ ob := by
  have r1 := fun ob => ht.run 4 3 (matD n M) ob g.sh (by decide)
  have r2 := fun ob => hp.run n M v ob hv
  simp only [g.tab, if_true] at r1
  rw [hb] at r2
  simp only [Bool.false_eq_true, if_false] at r2
  simp [runF, t_turned, isSet, cal, calF, lend, ht.asg, hp.asg, r1, r2, back, outsF]
theorem turnedP_table (F : Fh) {kt kp ku ct : Nat} (ht : NtOk F kt ct) {L m : Nat} {T v : D} (hT : sh L m T = true) (hL : L ≤ 100000) (hb : tabB T = false) (ob : List Ob) : runF F (t_turned kt kp ku) [.va T, .va v] ob = .ex ⟨ct, []⟩ ob := by
  have r1 := fun ob => ht.run L m T ob hT hL
  rw [hb] at r1
  simp only [Bool.false_eq_true, if_false] at r1
  simp [runF, t_turned, isSet, cal, calF, lend, ht.asg, r1, back, outsF]
/-! ### rows of turns -/
def natsD (ps : List Nat) : List D := ps.map fun p : Nat => D.int (p : Int)
theorem natsD_len (ps : List Nat) : (natsD ps).length = ps.length := by simp [natsD]
def turns (M : Nat → Nat → Int) (ps : List Nat) : Nat → Nat → Int := ps.foldl turnM M
theorem turns_cons (M : Nat → Nat → Int) (p : Nat) (ps : List Nat) : turns M (p :: ps) = turns (turnM M p) ps := rfl
theorem turns_snoc (M : Nat → Nat → Int) (p : Nat) (ps : List Nat) : turns M (ps ++ [p]) = turnM (turns M ps) p := by simp [turns]
theorem turns_anti {M : Nat → Nat → Int} (h : Anti M) : ∀ ps : List Nat, Anti (turns M ps)
  | [] => h
  | p :: ps => by rw [turns_cons]; exact turns_anti (h.turn p) ps
  termination_by ps => ps.length
/-- the bound behind so many turns -/
def tk : Nat → Nat → Nat
  | 0, k => k
  | m + 1, k => tk m (2 * k + 1)
theorem turns_bnd : ∀ (ps : List Nat) {M : Nat → Nat → Int} {k : Nat}, BndP k M → BndP (tk ps.length k) (turns M ps)
  | [], _, _, h => h
  | p :: ps, M, k, h => by
    rw [turns_cons, List.length_cons, tk]
    exact turns_bnd ps (h.turn p)
theorem tk_ge : ∀ (m k : Nat), k ≤ tk m k
  | 0, k => Nat.le_refl _
  | m + 1, k => by
    have := tk_ge m (2 * k + 1)
    unfold tk
    omega
/-- a loop of turns upon a name -/
theorem turns_loop (F : Fh) {ku : Nat} (hu : TuOk F ku) {n : Nat} (hn : n ≤ 10000) {B : Sms} {tg : Tg} (st : D → Sl → Ms) (hB : ∀ (M : Nat → Nat → Int) (b p : Nat) (a : Sl), BndP b M → b ≤ 100000 → p < n → ∃ a', forF F tg B (.int p) (st (matD n M) a) = .nx (st (matD n (turnM M p)) a')) :
    ∀ (ps : List Nat) (M : Nat → Nat → Int) (b : Nat) (a : Sl), BndP b M → tk ps.length b ≤ 100000 → (∀ p ∈ ps, p < n) → ∃ a', forL (forF F tg B) (natsD ps) (st (matD n M) a) = .nx (st (matD n (turns M ps)) a')
  | [], M, b, a, _, _, _ => ⟨a, rfl⟩
  | p :: ps, M, b, a, h, hb, hp => by
    have hb0 : b ≤ 100000 := Nat.le_trans (tk_ge _ _) hb
    obtain ⟨a1, e1⟩ := hB M b p a h hb0 (hp p (by simp))
    obtain ⟨a2, e2⟩ := turns_loop F hu hn st hB ps (turnM M p) (2 * b + 1) a1 (h.turn p) hb (fun q hq => hp q (by simp [hq]))
    refine ⟨a2, ?_⟩
    show forL (forF F tg B) (.int p :: natsD ps) _ = _
    unfold forL
    rw [e1, turns_cons]
    exact e2
theorem nats_ok {n : Nat} {ps : List Nat} (hl : ps.length ≤ 8) (hp : ∀ p ∈ ps, p < n) : plB n (.tup (natsD ps)) = true := by
  simp only [plB, Bool.and_eq_true, decide_eq_true_eq, List.all_eq_true]
  refine ⟨by rw [natsD_len]; exact hl, fun d hd => ?_⟩
  unfold natsD at hd
  obtain ⟨p, h, rfl⟩ := List.mem_map.mp hd
  exact num_place (hp p h)
theorem nats_sh {ps : List Nat} {L : Nat} (hl : ps.length ≤ L) : sh L 2 (.tup (natsD ps)) = true := by
  simp only [sh, Bool.and_eq_true, decide_eq_true_eq, List.all_eq_true]
  refine ⟨by rw [natsD_len]; exact hl, fun d hd => ?_⟩
  unfold natsD at hd
  obtain ⟨p, h, rfl⟩ := List.mem_map.mp hd
  rfl
theorem tk8 {k m : Nat} (hk : k ≤ 4) (hm : m ≤ 8) : tk m k ≤ 100000 := by
  have mono : ∀ (m k k' : Nat), k ≤ k' → tk m k ≤ tk m k' := by
    intro m
    induction m with
    | zero => intro k k' h; exact h
    | succ m ih => intro k k' h; exact ih _ _ (by omega)
  refine Nat.le_trans (mono m k 4 hk) ?_
  have : m = 0 ∨ m = 1 ∨ m = 2 ∨ m = 3 ∨ m = 4 ∨ m = 5 ∨ m = 6 ∨ m = 7 ∨ m = 8 := by omega
  rcases this with rfl | rfl | rfl | rfl | rfl | rfl | rfl | rfl | rfl <;> decide
theorem turnedby_run (F : Fh) {kt ks ku ct cs : Nat} (ht : NtOk F kt ct) (hs : NsOk F ks cs) (hu : TuOk F ku) {n : Nat} {M : Nat → Nat → Int} (g : GoodM n M) {ps : List Nat} (hl : ps.length ≤ 8) (hp : ∀ p ∈ ps, p < n) (ob : List Ob) :
    runF F (t_turned_by kt ks ku) [.va (matD n M), .va (.tup (natsD ps))] ob = .ok (matD n (turns M ps)) false [.un, .va (.tup (natsD ps))] ob := by
  have r1 := fun ob => ht.run 4 3 (matD n M) ob g.sh (by decide)
  have r2 := fun ob => hs.run n 8 2 M (.tup (natsD ps)) ob (nats_sh hl) (by decide)
  simp only [g.tab, if_true] at r1
  simp only [nats_ok hl hp, if_true] at r2
  obtain ⟨a, e⟩ := turns_loop F hu (n := n) (by have := g.n4; omega) (tg := .one 2) (B := (.cons (.asg (.nm 0 false) (.call ku (.cons (.nm 0) (.cons (.nm 2) .nil)))) .nil)) (fun T a => ⟨[.va T, .va (.tup (natsD ps)), a], ob⟩) (fun M b p a hM hb h => ⟨.va (.int p), by
    have r3 := fun ob => hu.run n b p M ob hM hb (by have := g.n4; omega) h
    unfold forF
    simp [bindT, isSet, cal, calF, lend, hu.asg, r3, back]⟩) ps M 4 .un g.p (tk8 (by decide) hl) hp
  simp [runF, t_turned_by, isSet, cal, calF, lend, ht.asg, hs.asg, r1, r2, back, rdN, seqD, e, outsF]
theorem turnedby_places (F : Fh) {kt ks ku ct cs : Nat} (ht : NtOk F kt ct) (hs : NsOk F ks cs) {n : Nat} {M : Nat → Nat → Int} (g : GoodM n M) {L m : Nat} {v : D} (hv : sh L m v = true) (hL : L ≤ 1000) (hb : plB n v = false) (ob : List Ob) :
    runF F (t_turned_by kt ks ku) [.va (matD n M), .va v] ob = .ex ⟨cs, []⟩ ob := by
  have r1 := fun ob => ht.run 4 3 (matD n M) ob g.sh (by decide)
  have r2 := fun ob => hs.run n L m M v ob hv hL
  simp only [g.tab, if_true] at r1
  rw [hb] at r2
  simp only [Bool.false_eq_true, if_false] at r2
  simp [runF, t_turned_by, isSet, cal, calF, lend, ht.asg, hs.asg, r1, r2, back, outsF]
structure PlOk (F : Fh) (k : Nat) : Prop where
  asg : F.asg k = [false, false, false]
  run : ∀ (x : Src) (n most : Nat) (ob : List Ob), 0 < n → n < 1000000 → most < 1000 → ∃ ps y, ps.length ≤ most ∧ (∀ p ∈ ps, p < n) ∧ F.run k [x.sl, .va (.int n), .va (.int most)] ob = .ok (.tup (natsD ps)) false [Src.sl y, .va (.int n), .va (.int most)] ob
theorem places_run (F : Fh) {kd : Nat} (hd : DrawOk F kd) (x : Src) {n most : Nat} (h0 : 0 < n) (h1 : n < 1000000) (hm : most < 1000) (ob : List Ob) : ∃ ps y, ps.length ≤ most ∧ (∀ p ∈ ps, p < n) ∧ runF F (t_law_places kd) [x.sl, .va (.int n), .va (.int most)] ob = .ok (.tup (natsD ps)) false [Src.sl y, .va (.int n), .va (.int most)] ob := by
  obtain ⟨r, y0, r0, r1, e0⟩ := draw_cal hd (s := ⟨[x.sl, .va (.int n), .va (.int most), .un, .un], ob⟩) (i := 0) (x := x) (m := most + 1) rfl (by omega) (by omega)
  obtain ⟨q, rfl⟩ : ∃ q : Nat, r = q := ⟨r.toNat, by omega⟩
  simp only [putMk, List.set_cons_zero] at e0
  obtain ⟨ys, y, e, l, ps, g1, g2⟩ := ev_compS (F := F) (s := ⟨[y0.sl, .va (.int n), .va (.int most), .va (.int q), .un], ob⟩) (x := .call kd (.cons (.nm 0) (.cons (.nm 1) .nil))) (it := .rng1 (.nm 3)) (i := 4) (ds := rngD 0 (q : Int)) (st := fun (y : Src) u => ⟨[Src.sl y, .va (.int n), .va (.int most), .va (.int q), u], ob⟩) (a0 := y0) (u0 := .un)
    (fun m ds _ => ∃ ps : List Nat, ds = natsD ps ∧ ∀ p ∈ ps, p < n) (ev_rngN1 rfl (by omega) (by omega)) (fun _ _ _ => rfl) rfl rfl (by rw [rngD_len]; exact szl _ (by omega)) ⟨[], rfl, by simp⟩ fun m d acc y hd' ⟨ps, h1', h2⟩ => by
      obtain ⟨v, y2, v0, v1, e1⟩ := draw_calN hd (s := ⟨[y.sl, .va (.int n), .va (.int most), .va (.int q), .va d], ob⟩) (i := 0) (j := 1) (x := y) (m := n) rfl rfl (by omega) (by omega)
      obtain ⟨p, rfl⟩ : ∃ p : Nat, v = p := ⟨v.toNat, by omega⟩
      refine ⟨.int p, y2, .va d, ?_, ps ++ [p], ?_, ?_⟩
      · simp only [putMk, List.set_cons_zero, Src.sl] at e1 ⊢
        simp [isSet, e1]
      · rw [h1']; simp [natsD]
      · intro z hz
        rcases List.mem_append.mp hz with w | w
        · exact h2 z w
        · simp at w; omega
  subst g1
  refine ⟨ps, y, ?_, g2, ?_⟩
  · rw [natsD_len, rngD_len] at l
    omega
  · have a0 : evS F (.asg (.nm 3 false) (.call kd (.cons (.nm 0) (.cons (.bin .add (.nm 2) (.ct (.int 1))) .nil)))) ⟨[x.sl, .va (.int n), .va (.int most), .un, .un], ob⟩ = .nx ⟨[y0.sl, .va (.int n), .va (.int most), .va (.int q), .un], ob⟩ := by
      simp only [Src.sl] at e0 ⊢
      simp [isSet, op2, dr, opB, addD, e0]
    unfold t_law_places
    refine (runF_rt (s := ⟨[x.sl, .va (.int n), .va (.int most), .un, .un], ob⟩) (s' := ⟨[Src.sl y, .va (.int n), .va (.int most), .va (.int q), .un], ob⟩) (d := .tup (natsD ps)) (o := false) rfl rfl ((ss_nx a0).trans (ss_rt (ret_rt ?_)))).trans ?_
    · rw [e_bi, eo_cons, opd_comp, e]
      simp [drs, opF]
    · simp [outsF]
end Mi
namespace K02
open PySem Mi
def w0 : Wdf := ⟨[(0, .isa "table"), (1, .isa "place"), (2, .isa "places"), (3, .isa "unlike")], none, some "none"⟩
def n0 : List Str := ["value", "least", "most"]
def f0 : FnI := t_is_number
def n1 : List Str := ["value", "size", "least", "most", "one"]
def f1 : FnI := t_is_row_of 0
def n2 : List Str := ["value", "size", "one", "other", "row"]
def f2 : FnI := t_is_good_table 1
/-- need_table: value -/
def t_need_table (k_is_good_table : Nat) : FnI := ⟨1, 1, [false],
  (.cons (.ifs (.bnot (.call k_is_good_table (.cons (.nm 0) .nil))) (.cons (.rai 0)
    .nil) .nil)
  .nil)⟩
def n3 : List Str := ["value"]
def f3 : FnI := t_need_table 2
/-- need_place: table value -/
def t_need_place (k_is_number : Nat) : FnI := ⟨2, 2, [false, false],
  (.cons (.ifs (.bnot (.call k_is_number (.cons (.nm 1) (.cons (.ct (.int 0)) (.cons (.bin .sub (.bi .len (.cons (.nm 0) .nil)) (.ct (.int 1))) .nil))))) (.cons (.rai 1)
    .nil) .nil)
  .nil)⟩
def n4 : List Str := ["table", "value"]
def f4 : FnI := t_need_place 0
/-- need_places: table value place -/
def t_need_places (k_is_number : Nat) : FnI := ⟨2, 3, [false, false],
  (.cons (.ifs (.bor (.bnot (.isi .tuple (.nm 1))) (.cmp .gt (.bi .len (.cons (.nm 1) .nil)) (.gl 0 8))) (.cons (.rai 2)
    .nil) .nil)
  (.cons (.ifs (.bnot (.bi .all (.cons (.comp (.call k_is_number (.cons (.nm 2) (.cons (.ct (.int 0)) (.cons (.bin .sub (.bi .len (.cons (.nm 0) .nil)) (.ct (.int 1))) .nil)))) (.one 2) (.seq (.nm 1)) .om [2]) .nil))) (.cons (.rai 2)
    .nil) .nil)
  .nil))⟩
def n5 : List Str := ["table", "value", "place"]
def f5 : FnI := t_need_places 0
def n6 : List Str := ["table", "place", "rows", "one", "row", "entries", "other", "entry"]
def f6 : FnI := t_turned_at
/-- row_to: one other turn line known later places table place there -/
def t_row_to (k_turned_at : Nat) : FnI := ⟨2, 10, [false, false],
  (.cons (.asg2 (.nm 3 false) (.nm 4 true) (.lst (.cons (.tup (.cons (.tup .nil) (.cons (.nm 0) .nil))) .nil)) (.lst (.cons (.nm 0) .nil)))
  (.cons (.fors (.one 2) (.rng1 (.bin .add (.gl 1 6) (.ct (.int 1)))) (.cons (.asg (.nm 5 true) (.lst .nil))
    (.cons (.fors (.many [6, 7]) (.seq (.nm 3)) (.cons (.ifs (.cmp .eq (.nm 7) (.nm 1)) (.cons (.ret false (.nm 6))
        .nil) .nil)
      (.cons (.fors (.one 8) (.rng1 (.bi .len (.cons (.nm 7) .nil))) (.cons (.asg (.nm 9 false) (.call k_turned_at (.cons (.nm 7) (.cons (.nm 8) .nil))))
        (.cons (.ifs (.cmp .nin (.nm 9) (.nm 4)) (.cons (.app 4 (.nm 9))
          (.cons (.app 5 (.tup (.cons (.bin .add (.nm 6) (.tup (.cons (.nm 8) .nil))) (.cons (.nm 9) .nil))))
          .nil)) .nil)
        .nil)))
      .nil)))
    (.cons (.asg (.nm 3 false) (.nm 5))
    .nil))))
  (.cons (.ret false (.ct .non))
  .nil)))⟩
def n7 : List Str := ["one", "other", "turn", "line", "known", "later", "places", "table", "place", "there"]
def f7 : FnI := t_row_to 6
def n8 : List Str := ["table", "place"]
def f8 : FnI := t_turned 3 4 6
def n9 : List Str := ["table", "places", "place"]
def f9 : FnI := t_turned_by 3 5 6
/-- led: one other -/
def t_led (k_need_table : Nat) (k_row_to : Nat) : FnI := ⟨2, 2, [false, false],
  (.cons (.exp (.call k_need_table (.cons (.nm 0) .nil)))
  (.cons (.exp (.call k_need_table (.cons (.nm 1) .nil)))
  (.cons (.ifs (.cmp .ne (.bi .len (.cons (.nm 0) .nil)) (.bi .len (.cons (.nm 1) .nil))) (.cons (.rai 3)
    .nil) .nil)
  (.cons (.ret false (.call k_row_to (.cons (.nm 0) (.cons (.nm 1) .nil))))
  .nil))))⟩
def n10 : List Str := ["one", "other"]
def f10 : FnI := t_led 3 7
def n11 : List Str := ["script", "k", "cell"]
def f11 : FnI := t_law_source
def n12 : List Str := ["source", "many", "found"]
def f12 : FnI := t_law_draw
def n13 : List Str := ["ring", "one", "two"]
def f13 : FnI := t_law_known
def n14 : List Str := ["size", "entries", "rows", "spots", "one", "spot", "entry", "place", "row", "other"]
def f14 : FnI := t_law_table_by
def n15 : List Str := ["source", "most", "high", "size", "entries", "turn", "entry"]
def f15 : FnI := t_law_table 12 14
def n16 : List Str := ["source", "size", "most", "many", "turn"]
def f16 : FnI := t_law_places 12
def n17 : List Str := ["table", "place", "one", "size", "rows", "row", "other", "more", "entry", "here", "there"]
def f17 : FnI := t_law_turned
/-- _law_led: one other turn line known later places table place there -/
def t_law_led (k_law_turned : Nat) : FnI := ⟨2, 10, [false, false],
  (.cons (.asg2 (.nm 3 false) (.nm 4 true) (.lst (.cons (.tup (.cons (.tup .nil) (.cons (.nm 0) .nil))) .nil)) (.dct1 (.nm 0) (.ct (.bl true))))
  (.cons (.fors (.one 2) (.rng1 (.ct (.int 7))) (.cons (.asg (.nm 5 true) (.lst .nil))
    (.cons (.fors (.many [6, 7]) (.seq (.nm 3)) (.cons (.ifs (.cmp .eq (.nm 7) (.nm 1)) (.cons (.ret false (.nm 6))
        .nil) .nil)
      (.cons (.fors (.one 8) (.rng1 (.bi .len (.cons (.nm 7) .nil))) (.cons (.asg (.nm 9 false) (.call k_law_turned (.cons (.nm 7) (.cons (.nm 8) .nil))))
        (.cons (.ifs (.cmp .nin (.nm 9) (.nm 4)) (.cons (.asg (.kx 4 9) (.ct (.bl true)))
          (.cons (.app 5 (.tup (.cons (.bin .add (.nm 6) (.tup (.cons (.nm 8) .nil))) (.cons (.nm 9) .nil))))
          .nil)) .nil)
        .nil)))
      .nil)))
    (.cons (.asg (.nm 3 false) (.nm 5))
    .nil))))
  (.cons (.ret false (.ct .non))
  .nil)))⟩
def n18 : List Str := ["one", "other", "turn", "line", "known", "later", "places", "table", "place", "there"]
def f18 : FnI := t_law_led 17
/-- _law_great: table row -/
def t_law_great : FnI := ⟨1, 2, [false],
  (.cons (.ret false (.bi .max1 (.cons (.comp (.bi .max1 (.cons (.nm 1) .nil)) (.one 1) (.seq (.nm 0)) .om [1]) .nil)))
  .nil)⟩
def n19 : List Str := ["table", "row"]
def f19 : FnI := t_law_great
/-- _law_right: source table size place there places due -/
def t_law_right (k_turned : Nat) (k_law_turned : Nat) (k_law_places : Nat) (k_turned_by : Nat) : FnI := ⟨2, 7, [false, false],
  (.cons (.asg (.nm 2 false) (.bi .len (.cons (.nm 1) .nil)))
  (.cons (.fors (.one 3) (.rng1 (.nm 2)) (.cons (.asg (.nm 4 false) (.call k_turned (.cons (.nm 1) (.cons (.nm 3) .nil))))
    (.cons (.ifs (.bor (.cmp .ne (.nm 4) (.call k_law_turned (.cons (.nm 1) (.cons (.nm 3) .nil)))) (.cmp .ne (.call k_law_turned (.cons (.nm 4) (.cons (.nm 3) .nil))) (.nm 1))) (.cons (.ret false (.ct (.bl false)))
      .nil) .nil)
    .nil)))
  (.cons (.asg2 (.nm 5 false) (.nm 6 false) (.call k_law_places (.cons (.nm 0) (.cons (.nm 2) (.cons (.ct (.int 8)) .nil)))) (.nm 1))
  (.cons (.fors (.one 3) (.seq (.nm 5)) (.cons (.asg (.nm 6 false) (.call k_law_turned (.cons (.nm 6) (.cons (.nm 3) .nil))))
    .nil))
  (.cons (.ret false (.cmp .eq (.call k_turned_by (.cons (.nm 1) (.cons (.nm 5) .nil))) (.nm 6)))
  .nil)))))⟩
def n20 : List Str := ["source", "table", "size", "place", "there", "places", "due"]
def f20 : FnI := t_law_right 8 17 16 9
/-- _law_refused: table odd words -/
def t_law_refused (k_turned : Nat) (k_turned_by : Nat) (k_led : Nat) : FnI := ⟨1, 3, [false],
  (.cons (.fors (.one 1) (.seq (.lst (.cons (.ct .non) (.cons (.neg (.ct (.int 1))) (.cons (.bi .len (.cons (.nm 0) .nil)) (.cons (.ct (.bl true)) (.cons (.ct (.str "0")) .nil))))))) (.cons (.asg (.nm 2 true) (.lst (.cons (.word 0 w0 (.call k_turned (.cons (.nm 0) (.cons (.nm 1) .nil)))) .nil)))
    (.cons (.app 2 (.word 0 w0 (.call k_turned_by (.cons (.nm 0) (.cons (.tup (.cons (.ct (.int 0)) (.cons (.nm 1) .nil))) .nil)))))
    (.cons (.ifs (.cmp .ne (.nm 2) (.lst (.cons (.ct (.str "place")) (.cons (.ct (.str "places")) .nil)))) (.cons (.ret false (.ct (.bl false)))
      .nil) .nil)
    .nil))))
  (.cons (.fors (.one 1) (.seq (.lst (.cons (.ct .non) (.cons (.lst (.cons (.ct (.int 0)) .nil)) (.cons (.bin .mul (.tup (.cons (.ct (.int 0)) .nil)) (.ct (.int 9))) (.cons (.ct (.int 0)) .nil)))))) (.cons (.ifs (.cmp .ne (.word 0 w0 (.call k_turned_by (.cons (.nm 0) (.cons (.nm 1) .nil)))) (.ct (.str "places"))) (.cons (.ret false (.ct (.bl false)))
      .nil) .nil)
    .nil))
  (.cons (.asg (.nm 2 true) (.comp (.word 0 w0 (.call k_led (.cons (.nm 0) (.cons (.nm 1) .nil)))) (.one 1) (.seq (.tup (.cons (.ct .non) (.cons (.tup .nil) (.cons (.tup (.cons (.tup (.cons (.ct (.int 0)) (.cons (.ct (.int 1)) .nil))) (.cons (.tup (.cons (.ct (.int 1)) (.cons (.ct (.int 0)) .nil))) .nil))) .nil))))) .om [1]))
  (.cons (.app 2 (.word 0 w0 (.call k_led (.cons (.ct .non) (.cons (.ct .non) .nil)))))
  (.cons (.app 2 (.word 0 w0 (.call k_turned (.cons (.tup .nil) (.cons (.ct .non) .nil)))))
  (.cons (.ret false (.cmp .eq (.nm 2) (.bin .mul (.lst (.cons (.ct (.str "table")) .nil)) (.ct (.int 5)))))
  .nil))))))⟩
def n21 : List Str := ["table", "odd", "words"]
def f21 : FnI := t_law_refused 8 9 10
/-- law: script k source turn far place p q u t one other -/
def t_law (k_law_source : Nat) (k_law_right : Nat) (k_law_table : Nat) (k_law_places : Nat) (k_law_turned : Nat) (k_law_great : Nat) (k_led : Nat) (k_law_led : Nat) (k_law_refused : Nat) (k_law_known : Nat) (k_turned : Nat) (k_turned_by : Nat) : FnI := ⟨1, 12, [false],
  (.cons (.fors (.one 1) (.rng1 (.bin .add (.ct (.int 1)) (.bi .min2 (.cons (.bi .len (.cons (.nm 0) .nil)) (.cons (.ct (.int 8)) .nil))))) (.cons (.asg (.nm 2 true) (.call k_law_source (.cons (.nm 0) (.cons (.nm 1) .nil))))
    (.cons (.fors (.one 3) (.rng1 (.ct (.int 3))) (.cons (.ifs (.bnot (.call k_law_right (.cons (.nm 2) (.cons (.call k_law_table (.cons (.nm 2) (.cons (.ct (.int 4)) (.cons (.ct (.int 9)) .nil)))) .nil)))) (.cons (.ret false (.ct (.bl false)))
        .nil) .nil)
      .nil))
    (.cons (.asg2 (.nm 10 false) (.nm 11 false) (.call k_law_table (.cons (.nm 2) (.cons (.ct (.int 3)) (.cons (.ct (.int 2)) .nil)))) (.call k_law_table (.cons (.nm 2) (.cons (.ct (.int 3)) (.cons (.ct (.int 2)) .nil)))))
    (.cons (.asg (.nm 4 false) (.nm 10))
    (.cons (.fors (.one 5) (.seq (.call k_law_places (.cons (.nm 2) (.cons (.bi .len (.cons (.nm 10) .nil)) (.cons (.ct (.int 5)) .nil))))) (.cons (.asg (.nm 4 false) (.call k_law_turned (.cons (.nm 4) (.cons (.nm 5) .nil))))
      .nil))
    (.cons (.ifs (.band (.cmp .le (.call k_law_great (.cons (.nm 4) .nil)) (.ct (.int 9))) (.cmp .ne (.call k_led (.cons (.nm 10) (.cons (.nm 4) .nil))) (.call k_law_led (.cons (.nm 10) (.cons (.nm 4) .nil))))) (.cons (.ret false (.ct (.bl false)))
      .nil) .nil)
    (.cons (.ifs (.cmp .ne (.bi .len (.cons (.nm 10) .nil)) (.bi .len (.cons (.nm 11) .nil))) (.cons (.ifs (.cmp .ne (.word 0 w0 (.call k_led (.cons (.nm 10) (.cons (.nm 11) .nil)))) (.ct (.str "unlike"))) (.cons (.ret false (.ct (.bl false)))
        .nil) .nil)
      .nil) (.cons (.ifs (.cmp .ne (.call k_led (.cons (.nm 10) (.cons (.nm 11) .nil))) (.call k_law_led (.cons (.nm 10) (.cons (.nm 11) .nil)))) (.cons (.ret false (.ct (.bl false)))
        .nil) .nil)
      .nil))
    (.cons (.ifs (.bnot (.call k_law_refused (.cons (.nm 10) .nil))) (.cons (.ret false (.ct (.bl false)))
      .nil) .nil)
    .nil)))))))))
  (.cons (.unp [6, 7, 8, 9] (.call k_law_known .nil))
  (.cons (.ifs (.bor (.cmp .ne (.call k_turned (.cons (.nm 6) (.cons (.ct (.int 0)) .nil))) (.tup (.cons (.tup (.cons (.ct (.int 0)) (.cons (.neg (.ct (.int 1))) .nil))) (.cons (.tup (.cons (.ct (.int 1)) (.cons (.ct (.int 0)) .nil))) .nil)))) (.cmp .ne (.call k_turned (.cons (.nm 8) (.cons (.ct (.int 0)) .nil))) (.tup (.cons (.tup (.cons (.ct (.int 0)) (.cons (.neg (.ct (.int 2))) (.cons (.ct (.int 2)) .nil)))) (.cons (.tup (.cons (.ct (.int 2)) (.cons (.ct (.int 0)) (.cons (.neg (.ct (.int 2))) .nil)))) (.cons (.tup (.cons (.neg (.ct (.int 2))) (.cons (.ct (.int 2)) (.cons (.ct (.int 0)) .nil)))) .nil)))))) (.cons (.ret false (.ct (.bl false)))
    .nil) .nil)
  (.cons (.ifs (.cmp .ne (.call k_turned (.cons (.tup (.cons (.tup (.cons (.ct (.int 0)) (.cons (.ct (.int 1)) (.cons (.ct (.int 0)) .nil)))) (.cons (.tup (.cons (.neg (.ct (.int 1))) (.cons (.ct (.int 0)) (.cons (.ct (.int 1)) .nil)))) (.cons (.tup (.cons (.ct (.int 0)) (.cons (.neg (.ct (.int 1))) (.cons (.ct (.int 0)) .nil)))) .nil)))) (.cons (.ct (.int 1)) .nil))) (.tup (.cons (.tup (.cons (.ct (.int 0)) (.cons (.neg (.ct (.int 1))) (.cons (.ct (.int 1)) .nil)))) (.cons (.tup (.cons (.ct (.int 1)) (.cons (.ct (.int 0)) (.cons (.neg (.ct (.int 1))) .nil)))) (.cons (.tup (.cons (.neg (.ct (.int 1))) (.cons (.ct (.int 1)) (.cons (.ct (.int 0)) .nil)))) .nil))))) (.cons (.ret false (.ct (.bl false)))
    .nil) .nil)
  (.cons (.ifs (.bor (.cmp .ne (.call k_turned_by (.cons (.nm 6) (.cons (.tup (.cons (.ct (.int 0)) (.cons (.ct (.int 1)) .nil))) .nil))) (.nm 6)) (.bor (.cmp .ne (.call k_turned_by (.cons (.nm 8) (.cons (.tup .nil) .nil))) (.nm 8)) (.cmp .ne (.call k_led (.cons (.nm 6) (.cons (.nm 6) .nil))) (.tup .nil)))) (.cons (.ret false (.ct (.bl false)))
    .nil) .nil)
  (.cons (.ifs (.bor (.cmp .ne (.call k_led (.cons (.nm 6) (.cons (.call k_turned (.cons (.nm 6) (.cons (.ct (.int 1)) .nil))) .nil))) (.tup (.cons (.ct (.int 0)) .nil))) (.cmp .ne (.call k_led (.cons (.nm 8) (.cons (.call k_turned (.cons (.nm 8) (.cons (.ct (.int 2)) .nil))) .nil))) (.tup (.cons (.ct (.int 0)) .nil)))) (.cons (.ret false (.ct (.bl false)))
    .nil) .nil)
  (.cons (.ret false (.band (.cmp .is (.call k_led (.cons (.nm 6) (.cons (.nm 7) .nil))) (.ct .non)) (.cmp .eq (.call k_led (.cons (.nm 9) (.cons (.call k_turned_by (.cons (.nm 9) (.cons (.tup (.cons (.ct (.int 1)) (.cons (.ct (.int 2)) (.cons (.ct (.int 3)) .nil)))) .nil))) .nil))) (.tup (.cons (.ct (.int 0)) .nil)))))
  .nil)))))))⟩
def n22 : List Str := ["script", "k", "source", "turn", "far", "place", "p", "q", "u", "t", "one", "other"]
def f22 : FnI := t_law 11 20 15 16 17 19 10 18 21 13 8 9
def S : Tx := ⟨["is_number", "is_row_of", "is_good_table", "need_table", "need_place", "need_places", "turned_at", "row_to", "turned", "turned_by", "led", "_law_source", "_law_draw", "_law_known", "_law_table_by", "_law_table", "_law_places", "_law_turned", "_law_led", "_law_great", "_law_right", "_law_refused", "law"], [("ROW", 8), ("FAR", 6)], ["InvalidTable", "InvalidPlace", "InvalidPlaces", "Unlike"], [("_law_word", w0)], [], ["_law_refused", "law"]⟩
def Ns : List (List Str) := [n0, n1, n2, n3, n4, n5, n6, n7, n8, n9, n10, n11, n12, n13, n14, n15, n16, n17, n18, n19, n20, n21, n22]
def Γ : List FnI := [f0, f1, f2, f3, f4, f5, f6, f7, f8, f9, f10, f11, f12, f13, f14, f15, f16, f17, f18, f19, f20, f21, f22]
def loose : List Str := ["WholeError", "InvalidTable", "InvalidPlace", "InvalidPlaces", "Unlike", "ROW", "FAR", "is_number", "is_row_of", "is_good_table", "need_table", "need_place", "need_places", "turned_at", "row_to", "turned", "turned_by", "led", "_law_source", "_law_draw", "_law_known", "_law_table_by", "_law_table", "_law_places", "_law_turned", "_law_led", "_law_great", "_law_right", "_law_word", "_law_refused"]
def lawTop : Nat := 33
def kLaw : Nat := 22
/-! ### the text -/
def top (i : Nat) : Stmt := PySem.Challenge.pw_staywhole_k02_whole_tables_turned.main.body.getD i (.Pass ⟨0, 0, 0, 0⟩)
def d0 : He.DefD := dOf "is_number" (top 9)
def d1 : He.DefD := dOf "is_row_of" (top 10)
def d2 : He.DefD := dOf "is_good_table" (top 11)
def d3 : He.DefD := dOf "need_table" (top 12)
def d4 : He.DefD := dOf "need_place" (top 13)
def d5 : He.DefD := dOf "need_places" (top 14)
def d6 : He.DefD := dOf "turned_at" (top 15)
def d7 : He.DefD := dOf "row_to" (top 16)
def d8 : He.DefD := dOf "turned" (top 17)
def d9 : He.DefD := dOf "turned_by" (top 18)
def d10 : He.DefD := dOf "led" (top 19)
def d11 : He.DefD := dOf "_law_source" (top 21)
def d12 : He.DefD := dOf "_law_draw" (top 22)
def d13 : He.DefD := dOf "_law_known" (top 23)
def d14 : He.DefD := dOf "_law_table_by" (top 24)
def d15 : He.DefD := dOf "_law_table" (top 25)
def d16 : He.DefD := dOf "_law_places" (top 26)
def d17 : He.DefD := dOf "_law_turned" (top 27)
def d18 : He.DefD := dOf "_law_led" (top 28)
def d19 : He.DefD := dOf "_law_great" (top 29)
def d20 : He.DefD := dOf "_law_right" (top 30)
def d21 : He.DefD := dOf "_law_refused" (top 32)
def d22 : He.DefD := dOf "law" (top 33)
def v0 : He.DefD := dOf "_law_word" (top 31)
def ds : List He.DefD := [d0, d1, d2, d3, d4, d5, d6, d7, d8, d9, d10, d11, d12, d13, d14, d15, d16, d17, d18, d19, d20, d21, d22]
def wds : List He.DefD := [v0]
theorem c0 : chkOne S "is_number" d0 n0 f0 = true := by decide +kernel
theorem c1 : chkOne S "is_row_of" d1 n1 f1 = true := by decide +kernel
theorem c2 : chkOne S "is_good_table" d2 n2 f2 = true := by decide +kernel
theorem c3 : chkOne S "need_table" d3 n3 f3 = true := by decide +kernel
theorem c4 : chkOne S "need_place" d4 n4 f4 = true := by decide +kernel
theorem c5 : chkOne S "need_places" d5 n5 f5 = true := by decide +kernel
theorem c6 : chkOne S "turned_at" d6 n6 f6 = true := by decide +kernel
theorem c7 : chkOne S "row_to" d7 n7 f7 = true := by decide +kernel
theorem c8 : chkOne S "turned" d8 n8 f8 = true := by decide +kernel
theorem c9 : chkOne S "turned_by" d9 n9 f9 = true := by decide +kernel
theorem c10 : chkOne S "led" d10 n10 f10 = true := by decide +kernel
theorem c11 : chkOne S "_law_source" d11 n11 f11 = true := by decide +kernel
theorem c12 : chkOne S "_law_draw" d12 n12 f12 = true := by decide +kernel
theorem c13 : chkOne S "_law_known" d13 n13 f13 = true := by decide +kernel
theorem c14 : chkOne S "_law_table_by" d14 n14 f14 = true := by decide +kernel
theorem c15 : chkOne S "_law_table" d15 n15 f15 = true := by decide +kernel
theorem c16 : chkOne S "_law_places" d16 n16 f16 = true := by decide +kernel
theorem c17 : chkOne S "_law_turned" d17 n17 f17 = true := by decide +kernel
theorem c18 : chkOne S "_law_led" d18 n18 f18 = true := by decide +kernel
theorem c19 : chkOne S "_law_great" d19 n19 f19 = true := by decide +kernel
theorem c20 : chkOne S "_law_right" d20 n20 f20 = true := by decide +kernel
theorem c21 : chkOne S "_law_refused" d21 n21 f21 = true := by decide +kernel
theorem c22 : chkOne S "law" d22 n22 f22 = true := by decide +kernel
theorem fits : Fits S S.f ds Ns Γ := .cons c0 <| .cons c1 <| .cons c2 <| .cons c3 <| .cons c4 <| .cons c5 <| .cons c6 <| .cons c7 <| .cons c8 <| .cons c9 <| .cons c10 <| .cons c11 <| .cons c12 <| .cons c13 <| .cons c14 <| .cons c15 <| .cons c16 <| .cons c17 <| .cons c18 <| .cons c19 <| .cons c20 <| .cons c21 <| .cons c22 <| .nil
theorem cw0 : chkOneW S "WholeError" ("_law_word", w0) v0 ("call", "e") = true := by decide +kernel
theorem fitsw : FitsW S "WholeError" S.w wds := .cons ("call", "e") cw0 <| .nil
end K02
namespace K02
open PySem Mi
/-! ### tables looked for among others -/
def intT : Nat → D → Bool
  | 0, _ => false
  | _ + 1, .int _ => true
  | n + 1, .tup ds => ds.all (intT n)
  | _, _ => false
mutual
theorem eqv_keq : ∀ {n m : Nat} {a b : D} {x y : PyData}, intT n a = true → intT m b = true → a.py = some x → b.py = some y → PyData.eqv x y = keq a b
  | 0, _, _, _, _, _, h, _, _, _ => by simp [intT] at h
  | _ + 1, 0, _, _, _, _, _, h, _, _ => by simp [intT] at h
  | n + 1, m + 1, .int i, .int j, x, y, _, _, e1, e2 => by cases e1; cases e2; simp [PyData.eqv, keq]
  | n + 1, m + 1, .int i, .tup ds, x, y, _, _, e1, e2 => by
    cases e1
    simp only [D.py, Option.map_eq_some_iff] at e2
    obtain ⟨ys, _, rfl⟩ := e2
    simp [PyData.eqv, keq]
  | n + 1, m + 1, .tup ds, .int i, x, y, _, _, e1, e2 => by
    cases e2
    simp only [D.py, Option.map_eq_some_iff] at e1
    obtain ⟨ys, _, rfl⟩ := e1
    simp [PyData.eqv, keq]
  | n + 1, m + 1, .tup as, .tup bs, x, y, h1, h2, e1, e2 => by
    simp only [D.py, Option.map_eq_some_iff] at e1 e2
    obtain ⟨xs, e1, rfl⟩ := e1
    obtain ⟨ys, e2, rfl⟩ := e2
    simp only [intT] at h1 h2
    simp only [PyData.eqv, keq]
    exact eqvs_keqs h1 h2 e1 e2
  | n + 1, _, .non, _, _, _, h, _, _, _ => by simp [intT] at h
  | n + 1, _, .bl _, _, _, _, h, _, _, _ => by simp [intT] at h
  | n + 1, _, .str _, _, _, _, h, _, _, _ => by simp [intT] at h
  | n + 1, _, .lst _, _, _, _, h, _, _, _ => by simp [intT] at h
  | n + 1, _, .scr _, _, _, _, h, _, _, _ => by simp [intT] at h
  | n + 1, _, .fn _, _, _, _, h, _, _, _ => by simp [intT] at h
  | n + 1, _, .obj _, _, _, _, h, _, _, _ => by simp [intT] at h
  | n + 1, _, .dic _ _, _, _, _, h, _, _, _ => by simp [intT] at h
  | n + 1, m + 1, .int _, .non, _, _, _, h, _, _ => by simp [intT] at h
  | n + 1, m + 1, .int _, .bl _, _, _, _, h, _, _ => by simp [intT] at h
  | n + 1, m + 1, .int _, .str _, _, _, _, h, _, _ => by simp [intT] at h
  | n + 1, m + 1, .int _, .lst _, _, _, _, h, _, _ => by simp [intT] at h
  | n + 1, m + 1, .int _, .scr _, _, _, _, h, _, _ => by simp [intT] at h
  | n + 1, m + 1, .int _, .fn _, _, _, _, h, _, _ => by simp [intT] at h
  | n + 1, m + 1, .int _, .obj _, _, _, _, h, _, _ => by simp [intT] at h
  | n + 1, m + 1, .int _, .dic _ _, _, _, _, h, _, _ => by simp [intT] at h
  | n + 1, m + 1, .tup _, .non, _, _, _, h, _, _ => by simp [intT] at h
  | n + 1, m + 1, .tup _, .bl _, _, _, _, h, _, _ => by simp [intT] at h
  | n + 1, m + 1, .tup _, .str _, _, _, _, h, _, _ => by simp [intT] at h
  | n + 1, m + 1, .tup _, .lst _, _, _, _, h, _, _ => by simp [intT] at h
  | n + 1, m + 1, .tup _, .scr _, _, _, _, h, _, _ => by simp [intT] at h
  | n + 1, m + 1, .tup _, .fn _, _, _, _, h, _, _ => by simp [intT] at h
  | n + 1, m + 1, .tup _, .obj _, _, _, _, h, _, _ => by simp [intT] at h
  | n + 1, m + 1, .tup _, .dic _ _, _, _, _, h, _, _ => by simp [intT] at h
theorem eqvs_keqs : ∀ {n m : Nat} {as bs : List D} {xs ys : List PyData}, as.all (intT n) = true → bs.all (intT m) = true → D.pys as = some xs → D.pys bs = some ys → PyData.eqvAll xs ys = keqs as bs
  | n, m, [], [], _, _, _, _, e1, e2 => by cases e1; cases e2; simp [PyData.eqvAll, keqs]
  | n, m, [], b :: bs, _, _, _, _, e1, e2 => by
    cases e1
    simp only [D.pys] at e2
    split at e2 <;> cases e2
    simp [PyData.eqvAll, keqs]
  | n, m, a :: as, [], _, _, _, _, e1, e2 => by
    cases e2
    simp only [D.pys] at e1
    split at e1 <;> cases e1
    simp [PyData.eqvAll, keqs]
  | n, m, a :: as, b :: bs, xs, ys, h1, h2, e1, e2 => by
    simp only [List.all_cons, Bool.and_eq_true] at h1 h2
    simp only [D.pys] at e1 e2
    cases p1 : a.py with
    | none => rw [p1] at e1; cases e1
    | some x =>
    cases p2 : D.pys as with
    | none => rw [p1, p2] at e1; cases e1
    | some xs' =>
    cases q1 : b.py with
    | none => rw [q1] at e2; cases e2
    | some y =>
    cases q2 : D.pys bs with
    | none => rw [q1, q2] at e2; cases e2
    | some ys' =>
    rw [p1, p2] at e1
    rw [q1, q2] at e2
    cases e1
    cases e2
    simp only [PyData.eqvAll, keqs]
    rw [eqv_keq h1.1 h2.1 p1 q1, eqvs_keqs h1.2 h2.2 p2 q2]
end
theorem intT_mat (n : Nat) (M : Nat → Nat → Int) : intT 3 (matD n M) = true := by
  rw [matD_eq]
  simp only [intT, List.all_eq_true]
  intro d hd
  obtain ⟨i, _, rfl⟩ := List.mem_map.mp hd
  simp only [intT, List.all_eq_true]
  intro d hd
  unfold rowL at hd
  obtain ⟨j, _, rfl⟩ := List.mem_map.mp hd
  rfl
theorem key_mat (n : Nat) (M : Nat → Nat → Int) : keyD (matD n M) = true := by
  rw [matD_eq]
  show isKey 8 _ = true
  simp only [isKey, List.all_eq_true]
  intro d hd
  obtain ⟨i, _, rfl⟩ := List.mem_map.mp hd
  simp only [isKey, List.all_eq_true]
  intro d hd
  unfold rowL at hd
  obtain ⟨j, _, rfl⟩ := List.mem_map.mp hd
  rfl
theorem eqD_mat {n m : Nat} (hn : n ≤ 1000) (hm : m ≤ 1000) (M M' : Nat → Nat → Int) : eqD (matD n M) (matD m M') = some (keq (matD n M) (matD m M')) := by
  obtain ⟨x, h1, h2, h3⟩ := py_of_sh (matD_sh (M := M) hn)
  obtain ⟨y, k1, k2, k3⟩ := py_of_sh (matD_sh (M := M') hm)
  rw [eqD_of h1 k1 (shaped_of h2 (by omega)) (shaped_of k2 (by omega)), eqv_keq (intT_mat n M) (intT_mat m M') h1 k1]
/-- tables of a size -/
def KsOk (n : Nat) (K : List D) : Prop := ∀ d ∈ K, ∃ M, d = matD n M
theorem any_keq {n : Nat} {x : D} {px : PyData} {m : Nat} (hx : intT m x = true) (ex : x.py = some px) : ∀ {K : List D} {ps : List PyData}, KsOk n K → D.pys K = some ps → (ps.any fun z => PyData.eqv z px) = dHas K x
  | [], _, _, h => by cases h; rfl
  | d :: K, ps, hk, h => by
    simp only [D.pys] at h
    cases p1 : d.py with
    | none => rw [p1] at h; cases h
    | some y =>
    cases p2 : D.pys K with
    | none => rw [p1, p2] at h; cases h
    | some ys =>
    rw [p1, p2] at h
    cases h
    obtain ⟨M, rfl⟩ := hk d (by simp)
    rw [List.any_cons, eqv_keq (intT_mat n M) hx p1 ex, any_keq hx ex (fun d hd => hk d (by simp [hd])) p2]
    rfl
theorem in_list {n : Nat} (hn : n ≤ 1000) (M : Nat → Nat → Int) {K : List D} (hk : KsOk n K) (hl : K.length ≤ 100000) : inD (matD n M) (.lst K) = some (dHas K (matD n M)) := by
  obtain ⟨x, h1, h2, h3⟩ := py_of_sh (matD_sh (M := M) hn)
  have hs : sh 100000 4 (.lst K) = true := by
    simp only [sh, Bool.and_eq_true, decide_eq_true_eq, List.all_eq_true]
    refine ⟨hl, fun d hd => ?_⟩
    obtain ⟨M', rfl⟩ := hk d hd
    exact matD_sh (by omega)
  obtain ⟨y, k1, k2, k3⟩ := py_of_sh hs
  simp only [D.py, Option.map_eq_some_iff] at k1
  obtain ⟨ps, k1, rfl⟩ := k1
  unfold inD
  simp only [h1, k1, shaped_of h2 (by omega), shaped_of k2 (by omega), Bool.and_self, if_true]
  rw [any_keq (intT_mat n M) h1 hk k1]
theorem in_dict (n : Nat) (M : Nat → Nat → Int) (K V : List D) : inD (matD n M) (.dic K V) = some (dHas K (matD n M)) := by
  have h : inD (matD n M) (.dic K V) = if keyD (matD n M) = true then some (dHas K (matD n M)) else none := rfl
  rw [h, key_mat, if_pos rfl]
/-! ### the shortest rows, plain -/
structure It where
  ps : List Nat
  M : Nat → Nat → Int
def itD (n : Nat) (it : It) : D := .tup [.tup (natsD it.ps), matD n it.M]
abbrev Acc := List It × List D
def push1 (n : Nat) (it : It) (acc : Acc) (p : Nat) : Acc := if dHas acc.2 (matD n (turnM it.M p)) then acc else (acc.1 ++ [⟨it.ps ++ [p], turnM it.M p⟩], acc.2 ++ [matD n (turnM it.M p)])
def expand (n : Nat) (it : It) (acc : Acc) (m : Nat) : Acc := (List.range m).foldl (push1 n it) acc
theorem expand_succ (n : Nat) (it : It) (acc : Acc) (m : Nat) : expand n it acc (m + 1) = push1 n it (expand n it acc m) m := by
  unfold expand
  rw [List.range_succ, List.foldl_append]
  rfl
def level (n : Nat) (o : D) : List It → Acc → List Nat ⊕ Acc
  | [], acc => .inr acc
  | it :: r, acc => if keq (matD n it.M) o then .inl it.ps else level n o r (expand n it acc n)
def bfs (n : Nat) (o : D) : Nat → List It → List D → Option (List Nat)
  | 0, _, _ => none
  | t + 1, line, K => match level n o line ([], K) with
    | .inl ps => some ps
    | .inr acc => bfs n o t acc.1 acc.2
def resD : Option (List Nat) → D
  | some ps => .tup (natsD ps)
  | none => .non
/-! what stands along the way -/
structure ItOk (b : Nat) (it : It) : Prop where
  b : BndP b it.M
  l : it.ps.length ≤ 100
structure AccOk (n b c d : Nat) (acc : Acc) : Prop where
  it : ∀ x ∈ acc.1, ItOk b x
  ks : KsOk n acc.2
  l1 : acc.1.length ≤ c
  l2 : acc.2.length ≤ d
theorem AccOk.push {n b b' c d p : Nat} {it : It} {acc : Acc} (h : AccOk n b' c d acc) (hi : BndP b it.M) (hb : 2 * b + 1 = b') (hl : it.ps.length < 100) : AccOk n b' (c + 1) (d + 1) (push1 n it acc p) := by
  unfold push1
  split
  · exact ⟨h.it, h.ks, by have := h.l1; omega, by have := h.l2; omega⟩
  · refine ⟨fun x hx => ?_, fun x hx => ?_, by simp; exact h.l1, by simp; exact h.l2⟩
    · rcases List.mem_append.mp hx with z | z
      · exact h.it x z
      · simp at z; subst z
        exact ⟨hb ▸ hi.turn p, by simp; omega⟩
    · rcases List.mem_append.mp hx with z | z
      · exact h.ks x z
      · simp at z; exact ⟨_, z⟩
theorem AccOk.expand {n b b' c d : Nat} {it : It} {acc : Acc} (h : AccOk n b' c d acc) (hi : BndP b it.M) (hb : 2 * b + 1 = b') (hl : it.ps.length < 100) : ∀ m : Nat, AccOk n b' (c + m) (d + m) (expand n it acc m)
  | 0 => by simpa [K02.expand] using h
  | m + 1 => by
    rw [expand_succ]
    exact (AccOk.expand h hi hb hl m).push hi hb hl
end K02
namespace K02
open PySem Mi
/-! ### both walks at once: known tables in a list, or in a dict -/
def seen (dct : Bool) (K : List D) : Sl := if dct then .ow (.dic K (List.replicate K.length (.bl true))) else .ow (.lst K)
def mark (dct : Bool) : Sm := if dct then .asg (.kx 4 9) (.ct (.bl true)) else .app 4 (.nm 9)
def b1 : Sm := (.app 5 (.tup (.cons (.bin .add (.nm 6) (.tup (.cons (.nm 8) .nil))) (.cons (.nm 9) .nil))))
def b2 (dct : Bool) : Sm := (.ifs (.cmp .nin (.nm 9) (.nm 4)) (.cons (mark dct) (.cons b1 .nil)) .nil)
def biB (ku : Nat) (dct : Bool) : Sms := (.cons (.asg (.nm 9 false) (.call ku (.cons (.nm 7) (.cons (.nm 8) .nil)))) (.cons (b2 dct) .nil))
def bS (O T : D) (dct : Bool) (t line : Sl) (acc : Acc) (n : Nat) (pl tb p th : Sl) (ob : List Ob) : Ms := ⟨[.va O, .va T, t, line, seen dct acc.2, .ow (.lst (acc.1.map (itD n))), pl, tb, p, th], ob⟩
theorem nin_run (F : Fh) (O T : D) (dct : Bool) (t line : Sl) (acc : Acc) {n : Nat} (hn : n ≤ 1000) (pl tb p : Sl) (M : Nat → Nat → Int) (hk : KsOk n acc.2) (hl : acc.2.length ≤ 100000) (ob : List Ob) :
    evE F (.cmp .nin (.nm 9) (.nm 4)) (bS O T dct t line acc n pl tb p (.va (matD n M)) ob) = .ok (.bl (!dHas acc.2 (matD n M)), bS O T dct t line acc n pl tb p (.va (matD n M)) ob) := by
  have h1 := in_list hn M hk hl
  have h2 := in_dict n M acc.2 (List.replicate acc.2.length (.bl true))
  cases dct
  · simp [bS, seen, isSet, op2, dr, opC, h1]
  · simp [bS, seen, isSet, op2, dr, opC, h2]
theorem s_asgk {F : Fh} {s : Ms} (i j : Nat) (e : Ex) : evS F (.asg (.kx i j) e) s = (evE F e s).out fun p => ofO (stL (.kx i j) p.1 p.2) := by simp only [evS] <;> rfl
theorem mark_run (F : Fh) (O T : D) (dct : Bool) (t line : Sl) (L : List It) (K : List D) {n : Nat} (pl tb p : Sl) (M : Nat → Nat → Int) (hh : dHas K (matD n M) = false) (hl : K.length < 100000) (ob : List Ob) :
    evS F (mark dct) (bS O T dct t line (L, K) n pl tb p (.va (matD n M)) ob) = .nx (bS O T dct t line (L, K ++ [matD n M]) n pl tb p (.va (matD n M)) ob) := by
  have zl : K.length < sizeLine := Nat.lt_of_lt_of_le hl (by decide)
  cases dct
  · simp [mark, bS, seen, hasS, rdN, zl]
  · have hk := key_mat n M
    simp only [mark, if_true]
    rw [s_asgk]
    simp [bS, seen, stL, hk, zl, dPut, hh, ofO, List.replicate_succ']
theorem b1_run (F : Fh) (O T : D) (dct : Bool) (t line : Sl) (L : List It) (K : List D) {n : Nat} (ps : List Nat) (tb : Sl) (p : Nat) (M : Nat → Nat → Int) (hps : ps.length ≤ 1000) (hl : L.length < 100000) (ob : List Ob) :
    evS F b1 (bS O T dct t line (L, K) n (.va (.tup (natsD ps))) tb (.va (.int p)) (.va (matD n M)) ob) = .nx (bS O T dct t line (L ++ [⟨ps ++ [p], M⟩], K) n (.va (.tup (natsD ps))) tb (.va (.int p)) (.va (matD n M)) ob) := by
  have zl : (L.map (itD n)).length < sizeLine := by rw [List.length_map]; exact Nat.lt_of_lt_of_le hl (by decide)
  rw [List.length_map] at zl
  have z1 : 1 ≤ sizeLine := by decide
  have z2 : 2 ≤ sizeLine := by decide
  have zp : (natsD ps).length + 1 ≤ sizeLine := szl _ (by rw [natsD_len]; omega)
  have e : natsD ps ++ [.int (p : Int)] = natsD (ps ++ [p]) := by simp [natsD]
  simp [b1, bS, hasS, isSet, op2, dr, opB, addD, rdN, z1, z2, zp, zl, itD, e]
theorem biB_run (F : Fh) {ku : Nat} (hu : TuOk F ku) (O T : D) (dct : Bool) (t line : Sl) {acc : Acc} {n b c d p : Nat} {it : It} (hn : n ≤ 1000) (hp : p < n) (hi : ItOk b it) (hb : b ≤ 100000) (ha : AccOk n (2 * b + 1) c d acc) (hc : c < 100000) (hd : d < 100000) (th : Sl) (ob : List Ob) :
    ∃ th', evSs F (biB ku dct) (bS O T dct t line acc n (.va (.tup (natsD it.ps))) (.va (matD n it.M)) (.va (.int p)) th ob) = .nx (bS O T dct t line (push1 n it acc p) n (.va (.tup (natsD it.ps))) (.va (matD n it.M)) (.va (.int p)) th' ob) := by
  have r := fun ob => hu.run n b p it.M ob hi.b hb (by omega) hp
  have e1 : evS F (.asg (.nm 9 false) (.call ku (.cons (.nm 7) (.cons (.nm 8) .nil)))) (bS O T dct t line acc n (.va (.tup (natsD it.ps))) (.va (matD n it.M)) (.va (.int p)) th ob) = .nx (bS O T dct t line acc n (.va (.tup (natsD it.ps))) (.va (matD n it.M)) (.va (.int p)) (.va (matD n (turnM it.M p))) ob) := by
    simp [bS, isSet, cal, calF, lend, hu.asg, r, back]
  obtain ⟨L, K⟩ := acc
  have e2 := nin_run F O T dct t line (L, K) hn (.va (.tup (natsD it.ps))) (.va (matD n it.M)) (.va (.int p)) (turnM it.M p) ha.ks (by have := ha.l2; omega) ob
  refine ⟨.va (matD n (turnM it.M p)), (ss_nx e1).trans ?_⟩
  unfold push1
  cases hh : dHas K (matD n (turnM it.M p))
  · rw [hh] at e2
    have e3 := mark_run F O T dct t line L K (.va (.tup (natsD it.ps))) (.va (matD n it.M)) (.va (.int p)) (turnM it.M p) hh (by have h := ha.l2; simp only at h; omega) ob
    have e4 := b1_run (n := n) F O T dct t line L (K ++ [matD n (turnM it.M p)]) it.ps (.va (matD n it.M)) p (turnM it.M p) (by have := hi.l; omega) (by have h := ha.l1; simp only at h; omega) ob
    have e5 : evS F (b2 dct) (bS O T dct t line (L, K) n (.va (.tup (natsD it.ps))) (.va (matD n it.M)) (.va (.int p)) (.va (matD n (turnM it.M p))) ob) = .nx (bS O T dct t line (L ++ [⟨it.ps ++ [p], turnM it.M p⟩], K ++ [matD n (turnM it.M p)]) n (.va (.tup (natsD it.ps))) (.va (matD n it.M)) (.va (.int p)) (.va (matD n (turnM it.M p))) ob) :=
      (ifs_t e2).trans ((ss_nx e3).trans ((ss_nx e4).trans ss_nil))
    rw [ss_nx e5]
    simp
  · rw [hh] at e2
    have e5 : evS F (b2 dct) (bS O T dct t line (L, K) n (.va (.tup (natsD it.ps))) (.va (matD n it.M)) (.va (.int p)) (.va (matD n (turnM it.M p))) ob) = .nx (bS O T dct t line (L, K) n (.va (.tup (natsD it.ps))) (.va (matD n it.M)) (.va (.int p)) (.va (matD n (turnM it.M p))) ob) :=
      (ifs_f e2).trans ss_nil
    rw [ss_nx e5]
    simp
/-! one item of the line -/
def bo1 : Sm := (.ifs (.cmp .eq (.nm 7) (.nm 1)) (.cons (.ret false (.nm 6)) .nil) .nil)
def bo2 (ku : Nat) (dct : Bool) : Sm := (.fors (.one 8) (.rng1 (.bi .len (.cons (.nm 7) .nil))) (biB ku dct))
def boB (ku : Nat) (dct : Bool) : Sms := (.cons bo1 (.cons (bo2 ku dct) .nil))
theorem bo2_run (F : Fh) {ku : Nat} (hu : TuOk F ku) (O T : D) (dct : Bool) (t line : Sl) {acc : Acc} {n b c d : Nat} {it : It} (hn : n ≤ 1000) (hi : ItOk b it) (hil : it.ps.length < 100) (hb : b ≤ 100000) (ha : AccOk n (2 * b + 1) c d acc) (hc : c + n < 100000) (hd : d + n < 100000) (p th : Sl) (ob : List Ob) :
    ∃ p' th', evS F (bo2 ku dct) (bS O T dct t line acc n (.va (.tup (natsD it.ps))) (.va (matD n it.M)) p th ob) = .nx (bS O T dct t line (expand n it acc n) n (.va (.tup (natsD it.ps))) (.va (matD n it.M)) p' th' ob) := by
  have lm := len_mat n it.M
  have e0 : evE F (.bi .len (.cons (.nm 7) .nil)) (bS O T dct t line acc n (.va (.tup (natsD it.ps))) (.va (matD n it.M)) p th ob) = .ok (.int n, bS O T dct t line acc n (.va (.tup (natsD it.ps))) (.va (matD n it.M)) p th ob) := by
    simp [bS, isSet, drs, dr, lm]
  have e1 := ev_rng1s (F := F) e0 (by omega) (by omega)
  obtain ⟨s', f1, h1⟩ := forL_inv (f := forF F (.one 8) (biB ku dct)) (fun i s => i ≤ n → ∃ p th, s = bS O T dct t line (expand n it acc i) n (.va (.tup (natsD it.ps))) (.va (matD n it.M)) p th ob) (ds := rngD 0 (n : Int)) (s := bS O T dct t line acc n (.va (.tup (natsD it.ps))) (.va (matD n it.M)) p th ob) 0 (fun _ => ⟨p, th, rfl⟩) fun i x s hd' hs => by
    rw [rng0] at hd'
    obtain ⟨hj, hx⟩ := List.getElem?_eq_some_iff.mp hd'
    have hj : i < n := by simpa using hj
    have hx : x = .int (i : Int) := by rw [← hx]; simp
    subst hx
    obtain ⟨p, th, hs⟩ := hs (by omega)
    subst hs
    rw [Nat.zero_add]
    have ha' := ha.expand hi.b rfl hil i
    obtain ⟨th', q⟩ := biB_run F hu O T dct t line hn hj hi hb ha' (by omega) (by omega) th ob
    refine ⟨_, .inl q, fun _ => ⟨.va (.int i), th', ?_⟩⟩
    rw [expand_succ]
  have hl : 0 + (rngD 0 (n : Int)).length = n := by rw [rngD_len]; omega
  rw [hl] at h1
  obtain ⟨p', th', h1⟩ := h1 (Nat.le_refl n)
  subst h1
  exact ⟨p', th', fors_nx e1 f1⟩
theorem bo1_run (F : Fh) (O : D) (dct : Bool) (t line : Sl) {acc : Acc} {n : Nat} {it : It} (hn : n ≤ 1000) (M2 : Nat → Nat → Int) (p th : Sl) (ob : List Ob) :
    evS F bo1 (bS O (matD n M2) dct t line acc n (.va (.tup (natsD it.ps))) (.va (matD n it.M)) p th ob) = if keq (matD n it.M) (matD n M2) = true then .rt (.tup (natsD it.ps)) false (bS O (matD n M2) dct t line acc n (.va (.tup (natsD it.ps))) (.va (matD n it.M)) p th ob) else .nx (bS O (matD n M2) dct t line acc n (.va (.tup (natsD it.ps))) (.va (matD n it.M)) p th ob) := by
  have e := eqD_mat hn hn it.M M2
  cases h : keq (matD n it.M) (matD n M2) <;> rw [h] at e <;> simp [bo1, bS, isSet, op2, dr, opC, e, rdN]
/-! the line -/
theorem line_run (F : Fh) {ku : Nat} (hu : TuOk F ku) (O : D) (dct : Bool) (t line : Sl) {n b : Nat} (hn : n ≤ 1000) (hb : b ≤ 100000) (M2 : Nat → Nat → Int) (ob : List Ob) :
    ∀ (its : List It) (acc : Acc) (c d : Nat) (pl tb p th : Sl), (∀ x ∈ its, ItOk b x ∧ x.ps.length < 100) → AccOk n (2 * b + 1) c d acc → c + n * its.length < 100000 → d + n * its.length < 100000 →
    match level n (matD n M2) its acc with
    | .inl ps => ∃ s', forL (forF F (.many [6, 7]) (boB ku dct)) (its.map (itD n)) (bS O (matD n M2) dct t line acc n pl tb p th ob) = .rt (.tup (natsD ps)) false s' ∧ s'.sl.take 2 = [.va O, .va (matD n M2)] ∧ s'.ob = ob
    | .inr acc' => (∃ pl' tb' p' th', forL (forF F (.many [6, 7]) (boB ku dct)) (its.map (itD n)) (bS O (matD n M2) dct t line acc n pl tb p th ob) = .nx (bS O (matD n M2) dct t line acc' n pl' tb' p' th' ob)) ∧ AccOk n (2 * b + 1) (c + n * its.length) (d + n * its.length) acc'
  | [], acc, c, d, pl, tb, p, th, _, ha, _, _ => ⟨⟨pl, tb, p, th, rfl⟩, by simpa using ha⟩
  | it :: its, acc, c, d, pl, tb, p, th, hi, ha, hc, hd => by
    obtain ⟨h1, h2⟩ := hi it (by simp)
    rw [List.length_cons, Nat.mul_succ] at hc hd
    have eb : forF F (.many [6, 7]) (boB ku dct) (itD n it) (bS O (matD n M2) dct t line acc n pl tb p th ob) = evSs F (boB ku dct) (bS O (matD n M2) dct t line acc n (.va (.tup (natsD it.ps))) (.va (matD n it.M)) p th ob) := rfl
    have e1 := bo1_run F O dct t line (acc := acc) (it := it) hn M2 p th ob
    rw [level]
    by_cases h : keq (matD n it.M) (matD n M2) = true
    · rw [if_pos h] at e1
      rw [if_pos h]
      refine ⟨bS O (matD n M2) dct t line acc n (.va (.tup (natsD it.ps))) (.va (matD n it.M)) p th ob, ?_, rfl, rfl⟩
      rw [List.map_cons, forL, eb]
      unfold boB
      rw [ss_rt e1]
    · rw [if_neg h] at e1
      rw [if_neg h]
      obtain ⟨p', th', e2⟩ := bo2_run F hu O (matD n M2) dct t line hn h1 h2 hb ha (by omega) (by omega) p th ob
      have ha' := ha.expand h1.b rfl h2 n
      have e3 : evSs F (boB ku dct) (bS O (matD n M2) dct t line acc n (.va (.tup (natsD it.ps))) (.va (matD n it.M)) p th ob) = .nx (bS O (matD n M2) dct t line (expand n it acc n) n (.va (.tup (natsD it.ps))) (.va (matD n it.M)) p' th' ob) := by
        unfold boB
        rw [ss_nx e1, ss_nx e2, ss_nil]
      have ih := line_run F hu O dct t line hn hb M2 ob its (expand n it acc n) (c + n) (d + n) (.va (.tup (natsD it.ps))) (.va (matD n it.M)) p' th' (fun x hx => hi x (by simp [hx])) ha' (by omega) (by omega)
      have hf : forL (forF F (.many [6, 7]) (boB ku dct)) ((it :: its).map (itD n)) (bS O (matD n M2) dct t line acc n pl tb p th ob) = forL (forF F (.many [6, 7]) (boB ku dct)) (its.map (itD n)) (bS O (matD n M2) dct t line (expand n it acc n) n (.va (.tup (natsD it.ps))) (.va (matD n it.M)) p' th' ob) := by
        rw [List.map_cons, forL, eb, e3]
      rw [hf]
      rw [List.length_cons, Nat.mul_succ]
      have e5 : c + n + n * its.length = c + (n * its.length + n) := by omega
      have e6 : d + n + n * its.length = d + (n * its.length + n) := by omega
      rw [e5, e6] at ih
      exact ih
end K02
namespace K02
open PySem Mi
/-! ### level upon level -/
theorem push_len {n a p : Nat} {it : It} {acc : Acc} (hi : it.ps.length ≤ a) (h : ∀ x ∈ acc.1, x.ps.length ≤ a + 1) : ∀ x ∈ (push1 n it acc p).1, x.ps.length ≤ a + 1 := by
  unfold push1
  split
  · exact h
  · intro x hx
    rcases List.mem_append.mp hx with z | z
    · exact h x z
    · simp at z; subst z; simp; exact hi
theorem expand_len {n a : Nat} {it : It} {acc : Acc} (hi : it.ps.length ≤ a) (h : ∀ x ∈ acc.1, x.ps.length ≤ a + 1) : ∀ m : Nat, ∀ x ∈ (expand n it acc m).1, x.ps.length ≤ a + 1
  | 0 => by simpa [K02.expand] using h
  | m + 1 => by rw [expand_succ]; exact push_len hi (expand_len hi h m)
theorem level_len {n a : Nat} {o : D} : ∀ {its : List It} {acc acc' : Acc}, (∀ x ∈ its, x.ps.length ≤ a) → (∀ x ∈ acc.1, x.ps.length ≤ a + 1) → level n o its acc = .inr acc' → ∀ x ∈ acc'.1, x.ps.length ≤ a + 1
  | [], acc, acc', _, h, e => by cases e; exact h
  | it :: its, acc, acc', hi, h, e => by
    rw [level] at e
    split at e
    · cases e
    · exact level_len (fun x hx => hi x (by simp [hx])) (expand_len (hi it (by simp)) h n) e
def cS (O T : D) (dct : Bool) (t : Sl) (its : List It) (K : List D) (n : Nat) (la pl tb p th : Sl) (ob : List Ob) : Ms := ⟨[.va O, .va T, t, .va (.lst (its.map (itD n))), seen dct K, la, pl, tb, p, th], ob⟩
def btF (ku : Nat) (dct : Bool) : Sm := .fors (.many [6, 7]) (.seq (.nm 3)) (boB ku dct)
def btB (ku : Nat) (dct : Bool) : Sms := .cons (.asg (.nm 5 true) (.lst .nil)) (.cons (btF ku dct) (.cons (.asg (.nm 3 false) (.nm 5)) .nil))
theorem bt1_run (F : Fh) (O T : D) (dct : Bool) (t : Sl) (its : List It) (K : List D) (n : Nat) (la pl tb p th : Sl) (ob : List Ob) :
    evS F (.asg (.nm 5 true) (.lst .nil)) (cS O T dct t its K n la pl tb p th ob) = .nx (bS O T dct t (.va (.lst (its.map (itD n)))) ([], K) n pl tb p th ob) := by
  have z0 : 0 ≤ sizeLine := by decide
  simp [cS, bS, ownS, isSet, evR, isFr, z0]
theorem bt3_run (F : Fh) (O T : D) (dct : Bool) (t line : Sl) (acc : Acc) (n : Nat) (pl tb p th : Sl) (ob : List Ob) :
    ∃ la, evS F (.asg (.nm 3 false) (.nm 5)) (bS O T dct t line acc n pl tb p th ob) = .nx (cS O T dct t acc.1 acc.2 n la pl tb p th ob) := by
  have h : evE F (.nm 5) (bS O T dct t line acc n pl tb p th ob) = .ok (.lst (acc.1.map (itD n)), ⟨[.va O, .va T, t, line, seen dct acc.2, .va (.lst (acc.1.map (itD n))), pl, tb, p, th], ob⟩) := by
    simp [bS, rdN, isSet]
  exact ⟨_, asg_nx h⟩
theorem btB_run (F : Fh) {ku : Nat} (hu : TuOk F ku) (O : D) (dct : Bool) (t : Sl) {n b a : Nat} (hn : n ≤ 1000) (hb : b ≤ 100000) (M2 : Nat → Nat → Int) (its : List It) (K : List D) (ha : a < 100) (hi : ∀ x ∈ its, BndP b x.M ∧ x.ps.length ≤ a) (hk : KsOk n K) (h1 : n * its.length < 100000) (h2 : K.length + n * its.length < 100000) (la pl tb p th : Sl) (ob : List Ob) :
    match level n (matD n M2) its ([], K) with
    | .inl ps => ∃ s', evSs F (btB ku dct) (cS O (matD n M2) dct t its K n la pl tb p th ob) = .rt (.tup (natsD ps)) false s' ∧ s'.sl.take 2 = [.va O, .va (matD n M2)] ∧ s'.ob = ob
    | .inr acc' => (∃ la' pl' tb' p' th', evSs F (btB ku dct) (cS O (matD n M2) dct t its K n la pl tb p th ob) = .nx (cS O (matD n M2) dct t acc'.1 acc'.2 n la' pl' tb' p' th' ob)) ∧ (∀ x ∈ acc'.1, BndP (2 * b + 1) x.M ∧ x.ps.length ≤ a + 1) ∧ KsOk n acc'.2 ∧ acc'.1.length ≤ n * its.length ∧ acc'.2.length ≤ K.length + n * its.length := by
  have e1 := bt1_run F O (matD n M2) dct t its K n la pl tb p th ob
  have e2 : evI F (.seq (.nm 3)) (bS O (matD n M2) dct t (.va (.lst (its.map (itD n)))) ([], K) n pl tb p th ob) = .ok (its.map (itD n), bS O (matD n M2) dct t (.va (.lst (its.map (itD n)))) ([], K) n pl tb p th ob) := by
    simp [bS, rdN, seqD]
  have q := line_run F hu O dct t (.va (.lst (its.map (itD n)))) hn hb M2 ob its ([], K) 0 K.length pl tb p th (fun x hx => ⟨⟨(hi x hx).1, by have := (hi x hx).2; omega⟩, by have := (hi x hx).2; omega⟩) ⟨by simp, hk, by simp, by simp⟩ (by omega) h2
  have ql := fun acc' => level_len (n := n) (a := a) (o := matD n M2) (its := its) (acc := ([], K)) (acc' := acc') (fun x hx => (hi x hx).2) (by simp)
  revert q ql
  cases level n (matD n M2) its ([], K) with
  | inl ps =>
    rintro ⟨s', q1, q2, q3⟩ _
    refine ⟨s', ?_, q2, q3⟩
    unfold btB
    rw [ss_nx e1]
    exact ss_rt (fors_nx e2 q1)
  | inr acc' =>
    rintro ⟨⟨pl', tb', p', th', q1⟩, q2⟩ ql
    obtain ⟨la', e3⟩ := bt3_run F O (matD n M2) dct t (.va (.lst (its.map (itD n)))) acc' n pl' tb' p' th' ob
    refine ⟨⟨la', pl', tb', p', th', ?_⟩, fun x hx => ⟨(q2.it x hx).b, ql _ rfl x hx⟩, q2.ks, by have := q2.l1; omega, q2.l2⟩
    unfold btB
    rw [ss_nx e1]
    have e4 : evS F (btF ku dct) (bS O (matD n M2) dct t (.va (.lst (its.map (itD n)))) ([], K) n pl tb p th ob) = _ := fors_nx e2 q1
    rw [ss_nx e4, ss_nx e3, ss_nil]
/-! all turns -/
theorem pow_step {a : Nat} : 3 ^ (a + 1) = 3 * 3 ^ a := by rw [Nat.pow_succ, Nat.mul_comm]
theorem pow_le9 {a : Nat} (h : a ≤ 8) : 3 ^ a ≤ 6561 := by
  have : (3 : Nat) ^ a ≤ 3 ^ 8 := Nat.pow_le_pow_right (by decide) h
  simpa using this
theorem turn_run (F : Fh) {ku : Nat} (hu : TuOk F ku) (O : D) (dct : Bool) {n : Nat} (hn : n ≤ 3) (M2 : Nat → Nat → Int) (ob : List Ob) :
    ∀ (ds : List D) (a b : Nat) (its : List It) (K : List D) (t la pl tb p th : Sl), a + ds.length ≤ 7 → tk ds.length b ≤ 100000 → (∀ x ∈ its, BndP b x.M ∧ x.ps.length ≤ a) → KsOk n K → its.length ≤ 3 ^ a → K.length ≤ 2 * 3 ^ a →
    match bfs n (matD n M2) ds.length its K with
    | some ps => ∃ s', forL (forF F (.one 2) (btB ku dct)) ds (cS O (matD n M2) dct t its K n la pl tb p th ob) = .rt (.tup (natsD ps)) false s' ∧ s'.sl.take 2 = [.va O, .va (matD n M2)] ∧ s'.ob = ob
    | none => ∃ s', forL (forF F (.one 2) (btB ku dct)) ds (cS O (matD n M2) dct t its K n la pl tb p th ob) = .nx s' ∧ s'.sl.take 2 = [.va O, .va (matD n M2)] ∧ s'.ob = ob
  | [], a, b, its, K, t, la, pl, tb, p, th, _, _, _, _, _, _ => ⟨_, rfl, rfl, rfl⟩
  | d :: ds, a, b, its, K, t, la, pl, tb, p, th, ha, hb, hi, hk, hl, hkl => by
    rw [List.length_cons] at ha hb
    rw [tk] at hb
    have hb' := tk_ge ds.length (2 * b + 1)
    have hp := pow_le9 (a := a) (by omega)
    have hm : n * its.length ≤ 3 * 3 ^ a := Nat.mul_le_mul hn hl
    have q := btB_run F hu O dct (.va d) (n := n) (by omega) (b := b) (by omega) M2 its K (a := a) (by omega) hi hk (by omega) (by omega) la pl tb p th ob
    have ef : forF F (.one 2) (btB ku dct) d (cS O (matD n M2) dct t its K n la pl tb p th ob) = evSs F (btB ku dct) (cS O (matD n M2) dct (.va d) its K n la pl tb p th ob) := rfl
    rw [List.length_cons, bfs]
    revert q
    cases level n (matD n M2) its ([], K) with
    | inl ps =>
      rintro ⟨s', q1, q2, q3⟩
      refine ⟨s', ?_, q2, q3⟩
      rw [forL, ef, q1]
    | inr acc =>
      rintro ⟨⟨la', pl', tb', p', th', q1⟩, q2, q3, q4, q5⟩
      have ih := turn_run F hu O dct hn M2 ob ds (a + 1) (2 * b + 1) acc.1 acc.2 (.va d) la' pl' tb' p' th' (by omega) hb q2 q3 (by rw [pow_step]; omega) (by rw [pow_step]; omega)
      have eq : forL (forF F (.one 2) (btB ku dct)) (d :: ds) (cS O (matD n M2) dct t its K n la pl tb p th ob) = forL (forF F (.one 2) (btB ku dct)) ds (cS O (matD n M2) dct (.va d) acc.1 acc.2 n la' pl' tb' p' th' ob) := by
        rw [forL, ef, q1]
      rw [eq]
      exact ih
/-! ### both walks -/
def known0 (dct : Bool) : Ex := if dct then .dct1 (.nm 0) (.ct (.bl true)) else .lst (.cons (.nm 0) .nil)
def rg (dct : Bool) : Ex := if dct then .ct (.int 7) else .bin .add (.gl 1 6) (.ct (.int 1))
def r1 (dct : Bool) : Sm := .asg2 (.nm 3 false) (.nm 4 true) (.lst (.cons (.tup (.cons (.tup .nil) (.cons (.nm 0) .nil))) .nil)) (known0 dct)
def r2 (ku : Nat) (dct : Bool) : Sm := .fors (.one 2) (.rng1 (rg dct)) (btB ku dct)
def rB (ku : Nat) (dct : Bool) : Sms := .cons (r1 dct) (.cons (r2 ku dct) (.cons (.ret false (.ct .non)) .nil))
theorem row_eq (k : Nat) : t_row_to k = ⟨2, 10, [false, false], rB k false⟩ := rfl
theorem led_eq (k : Nat) : t_law_led k = ⟨2, 10, [false, false], rB k true⟩ := rfl
theorem ev_d1 {F : Fh} {s : Ms} (a b : Ex) : evE F (.dct1 a b) s = xDct1 (evE F a) (evE F b) s := by simp only [evE] <;> rfl
theorem r1_run (F : Fh) (dct : Bool) {n : Nat} (M M2 : Nat → Nat → Int) (ob : List Ob) :
    evS F (r1 dct) ⟨[.va (matD n M), .va (matD n M2), .un, .un, .un, .un, .un, .un, .un, .un], ob⟩ = .nx (cS (matD n M) (matD n M2) dct .un [⟨[], M⟩] [matD n M] n .un .un .un .un .un ob) := by
  have hk := key_mat n M
  have z1 : 1 ≤ sizeLine := by decide
  have z2 : 2 ≤ sizeLine := by decide
  cases dct
  · simp [r1, known0, cS, seen, isSet, ownS, itD, natsD, rdN, z1, z2, evR, isFr]
  · simp [r1, known0, cS, seen, isSet, ownS, itD, natsD, rdN, z1, z2, hk, ofO, evR, isFr, ev_d1, xDct1]
theorem rg_run (F : Fh) (dct : Bool) (s : Ms) : evE F (rg dct) s = .ok (.int 7, s) := by
  cases dct
  · simp [rg, op2, dr, opB, addD]
  · simp [rg]
theorem row_run (F : Fh) {ku : Nat} (hu : TuOk F ku) (dct : Bool) {n b : Nat} (hn : n ≤ 3) (M M2 : Nat → Nat → Int) (hM : BndP b M) (hb : b ≤ 500) (ob : List Ob) :
    runF F ⟨2, 10, [false, false], rB ku dct⟩ [.va (matD n M), .va (matD n M2)] ob = .ok (resD (bfs n (matD n M2) 7 [⟨[], M⟩] [matD n M])) false [.va (matD n M), .va (matD n M2)] ob := by
  have e1 := r1_run F dct (n := n) M M2 ob
  have e2 := ev_rng1s (F := F) (n := 7) (rg_run F dct (cS (matD n M) (matD n M2) dct .un [⟨[], M⟩] [matD n M] n .un .un .un .un .un ob)) (by decide) (by decide)
  have hl : (rngD 0 (7 : Int)).length = 7 := by rw [rngD_len]; rfl
  have q := turn_run F hu (matD n M) dct hn M2 ob (rngD 0 (7 : Int)) 0 b [⟨[], M⟩] [matD n M] .un .un .un .un .un .un (by rw [hl]; decide) (by rw [hl]; simp only [tk]; omega) (fun x hx => by simp at hx; subst hx; exact ⟨hM, by simp⟩) (fun d hd => by simp at hd; exact ⟨M, hd⟩) (by simp) (by simp)
  rw [hl] at q
  revert q
  cases bfs n (matD n M2) 7 [⟨[], M⟩] [matD n M] with
  | some ps =>
    rintro ⟨s', q1, q2, q3⟩
    have e3 : evSs F (rB ku dct) ⟨[.va (matD n M), .va (matD n M2), .un, .un, .un, .un, .un, .un, .un, .un], ob⟩ = .rt (.tup (natsD ps)) false s' :=
      (ss_nx e1).trans (ss_rt (fors_nx e2 q1))
    rw [runF_rt (f := ⟨2, 10, [false, false], rB ku dct⟩) (ps := [.va (matD n M), .va (matD n M2)]) (ob := ob) (s := ⟨[.va (matD n M), .va (matD n M2), .un, .un, .un, .un, .un, .un, .un, .un], ob⟩) rfl rfl e3]
    show Rc.ok _ _ (outsF [false, false] (s'.sl.take 2)) s'.ob = _
    rw [q2, q3]
    rfl
  | none =>
    rintro ⟨s', q1, q2, q3⟩
    have e4 : evS F (.ret false (.ct .non)) s' = .rt .non false s' := by simp
    have e3 : evSs F (rB ku dct) ⟨[.va (matD n M), .va (matD n M2), .un, .un, .un, .un, .un, .un, .un, .un], ob⟩ = .rt .non false s' :=
      (ss_nx e1).trans ((ss_nx (fors_nx e2 q1)).trans (ss_rt e4))
    rw [runF_rt (f := ⟨2, 10, [false, false], rB ku dct⟩) (ps := [.va (matD n M), .va (matD n M2)]) (ob := ob) (s := ⟨[.va (matD n M), .va (matD n M2), .un, .un, .un, .un, .un, .un, .un, .un], ob⟩) rfl rfl e3]
    show Rc.ok _ _ (outsF [false, false] (s'.sl.take 2)) s'.ob = _
    rw [q2, q3]
    rfl
end K02
namespace K02
open PySem Mi
/-! ### what the calls give -/
structure RwOk (F : Fh) (k : Nat) : Prop where
  asg : F.asg k = [false, false]
  run : ∀ (n b : Nat) (M M2 : Nat → Nat → Int) (ob : List Ob), n ≤ 3 → BndP b M → b ≤ 500 → F.run k [.va (matD n M), .va (matD n M2)] ob = .ok (resD (bfs n (matD n M2) 7 [⟨[], M⟩] [matD n M])) false [.va (matD n M), .va (matD n M2)] ob
structure TpOk (F : Fh) (k : Nat) : Prop where
  asg : F.asg k = [false, false]
  run : ∀ (n p : Nat) (M : Nat → Nat → Int) (ob : List Ob), GoodM n M → p < n → F.run k [.va (matD n M), .va (.int p)] ob = .ok (matD n (turnM M p)) false [.va (matD n M), .va (.int p)] ob
  place : ∀ (n : Nat) (M : Nat → Nat → Int) (v : D) (ob : List Ob), GoodM n M → plain v = true → numB 0 ((n : Int) - 1) v = false → F.run k [.va (matD n M), .va v] ob = .ex ⟨1, []⟩ ob
  table : ∀ (L m : Nat) (T v : D) (ob : List Ob), sh L m T = true → L ≤ 100000 → tabB T = false → F.run k [.va T, .va v] ob = .ex ⟨0, []⟩ ob
structure TbOk (F : Fh) (k : Nat) : Prop where
  asg : F.asg k = [true, false]
  run : ∀ (n : Nat) (M : Nat → Nat → Int) (ps : List Nat) (ob : List Ob), GoodM n M → ps.length ≤ 8 → (∀ p ∈ ps, p < n) → F.run k [.va (matD n M), .va (.tup (natsD ps))] ob = .ok (matD n (turns M ps)) false [.un, .va (.tup (natsD ps))] ob
  places : ∀ (n L m : Nat) (M : Nat → Nat → Int) (v : D) (ob : List Ob), GoodM n M → sh L m v = true → L ≤ 1000 → plB n v = false → F.run k [.va (matD n M), .va v] ob = .ex ⟨2, []⟩ ob
structure LeOk (F : Fh) (k : Nat) : Prop where
  asg : F.asg k = [false, false]
  run : ∀ (n : Nat) (M M2 : Nat → Nat → Int) (ob : List Ob), n ≤ 3 → GoodM n M → GoodM n M2 → F.run k [.va (matD n M), .va (matD n M2)] ob = .ok (resD (bfs n (matD n M2) 7 [⟨[], M⟩] [matD n M])) false [.va (matD n M), .va (matD n M2)] ob
  unlike : ∀ (n m : Nat) (M M2 : Nat → Nat → Int) (ob : List Ob), n ≠ m → GoodM n M → GoodM m M2 → F.run k [.va (matD n M), .va (matD m M2)] ob = .ex ⟨3, []⟩ ob
  table1 : ∀ (L m : Nat) (T v : D) (ob : List Ob), sh L m T = true → L ≤ 100000 → tabB T = false → F.run k [.va T, .va v] ob = .ex ⟨0, []⟩ ob
  table2 : ∀ (n L m : Nat) (M : Nat → Nat → Int) (T : D) (ob : List Ob), GoodM n M → sh L m T = true → L ≤ 100000 → tabB T = false → F.run k [.va (matD n M), .va T] ob = .ex ⟨0, []⟩ ob
theorem led_run (F : Fh) {kt kr : Nat} (ht : NtOk F kt 0) (hr : RwOk F kr) {n : Nat} {M M2 : Nat → Nat → Int} (hn : n ≤ 3) (g : GoodM n M) (g2 : GoodM n M2) (ob : List Ob) : runF F (t_led kt kr) [.va (matD n M), .va (matD n M2)] ob = .ok (resD (bfs n (matD n M2) 7 [⟨[], M⟩] [matD n M])) false [.va (matD n M), .va (matD n M2)] ob := by
  have r1 := fun ob => ht.run 4 3 (matD n M) ob g.sh (by decide)
  have r2 := fun ob => ht.run 4 3 (matD n M2) ob g2.sh (by decide)
  simp only [g.tab, g2.tab, if_true] at r1 r2
  have r3 := fun ob => hr.run n 4 M M2 ob hn g.p (by decide)
  have l1 := len_mat n M
  have l2 := len_mat n M2
  simp [runF, t_led, isSet, cal, calF, lend, ht.asg, hr.asg, r1, r2, r3, back, drs, dr, l1, l2, op2, opC, outsF]
theorem led_unlike (F : Fh) {kt kr : Nat} (ht : NtOk F kt 0) {n m : Nat} {M M2 : Nat → Nat → Int} (hn : n ≠ m) (g : GoodM n M) (g2 : GoodM m M2) (ob : List Ob) : runF F (t_led kt kr) [.va (matD n M), .va (matD m M2)] ob = .ex ⟨3, []⟩ ob := by
  have r1 := fun ob => ht.run 4 3 (matD n M) ob g.sh (by decide)
  have r2 := fun ob => ht.run 4 3 (matD m M2) ob g2.sh (by decide)
  simp only [g.tab, g2.tab, if_true] at r1 r2
  have l1 := len_mat n M
  have l2 := len_mat m M2
  have h0 : ((n : Int) == (m : Int)) = false := by rw [beq_eq_false_iff_ne]; omega
  simp [runF, t_led, isSet, cal, calF, lend, ht.asg, r1, r2, back, drs, dr, l1, l2, op2, opC, h0]
theorem led_table1 (F : Fh) {kt kr : Nat} (ht : NtOk F kt 0) {L m : Nat} {T v : D} (hT : sh L m T = true) (hL : L ≤ 100000) (hb : tabB T = false) (ob : List Ob) : runF F (t_led kt kr) [.va T, .va v] ob = .ex ⟨0, []⟩ ob := by
  have r1 := fun ob => ht.run L m T ob hT hL
  rw [hb] at r1
  simp only [Bool.false_eq_true, if_false] at r1
  simp [runF, t_led, isSet, cal, calF, lend, ht.asg, r1]
theorem led_table2 (F : Fh) {kt kr : Nat} (ht : NtOk F kt 0) {n L m : Nat} {M : Nat → Nat → Int} {T : D} (g : GoodM n M) (hT : sh L m T = true) (hL : L ≤ 100000) (hb : tabB T = false) (ob : List Ob) : runF F (t_led kt kr) [.va (matD n M), .va T] ob = .ex ⟨0, []⟩ ob := by
  have r1 := fun ob => ht.run 4 3 (matD n M) ob g.sh (by decide)
  have r2 := fun ob => ht.run L m T ob hT hL
  simp only [g.tab, if_true] at r1
  rw [hb] at r2
  simp only [Bool.false_eq_true, if_false] at r2
  simp [runF, t_led, isSet, cal, calF, lend, ht.asg, r1, r2, back]
/-! ### the greatest entry -/
theorem best_ge : ∀ (ns : List Int) (a : Int), a ≤ ns.foldl max a ∧ ∀ x ∈ ns, x ≤ ns.foldl max a
  | [], a => ⟨Int.le_refl a, by simp⟩
  | x :: ns, a => by
    obtain ⟨h1, h2⟩ := best_ge ns (max a x)
    refine ⟨by simp only [List.foldl_cons]; omega, fun y hy => ?_⟩
    simp only [List.foldl_cons]
    rcases List.mem_cons.mp hy with rfl | h
    · omega
    · exact h2 y h
theorem ints_map {α : Type} (f : α → Int) : ∀ l : List α, intsD (l.map fun a => D.int (f a)) = some (l.map f)
  | [] => rfl
  | a :: l => by simp only [List.map_cons, intsD, ints_map f l, Option.map_some]
theorem max_of {n : Nat} (h : 1 ≤ n) (f : Nat → Int) : ∃ g, (∀ j, j < n → f j ≤ g) ∧ ∀ w : List D, w = rowL n f → opF .max1 [.tup w] = some (.int g) ∧ opF .max1 [.lst w] = some (.int g) := by
  obtain ⟨m, rfl⟩ : ∃ m, n = m + 1 := ⟨n - 1, by omega⟩
  have e : (List.range (m + 1)).map f = f 0 :: (List.range m).map fun j => f (j + 1) := by
    rw [List.range_succ_eq_map, List.map_cons, List.map_map]
    rfl
  have hb := best_ge ((List.range m).map fun j => f (j + 1)) (f 0)
  refine ⟨((List.range m).map fun j => f (j + 1)).foldl max (f 0), fun j hj => ?_, fun w hw => ?_⟩
  · cases j with
    | zero => exact hb.1
    | succ j => exact hb.2 _ (List.mem_map.mpr ⟨j, List.mem_range.mpr (by omega), rfl⟩)
  · subst hw
    have : intsD (rowL (m + 1) f) = some (f 0 :: (List.range m).map fun j => f (j + 1)) := by
      unfold rowL
      rw [ints_map, e]
    simp only [opF, this, Option.bind_some, bestI, and_self]
def gC : Ex := .comp (.bi .max1 (.cons (.nm 1) .nil)) (.one 1) (.seq (.nm 0)) .om [1]
theorem great_eq : t_law_great = ⟨1, 2, [false], .cons (.ret false (.bi .max1 (.cons gC .nil))) .nil⟩ := rfl
@[simp] theorem opd_gC (r : R (D × Ms)) (s : Ms) : opd gC r s = r.bnd fun p => .ok (.dd p.1, p.2) := rfl
theorem great_run (F : Fh) {n : Nat} (h1 : 1 ≤ n) (hn : n ≤ 1000) (M : Nat → Nat → Int) : ∃ g, (∀ i j, i < n → j < n → M i j ≤ g) ∧ ∀ ob, runF F t_law_great [.va (matD n M)] ob = .ok (.int g) false [.va (matD n M)] ob := by
  have q := fun i => max_of h1 (M i)
  obtain ⟨g, hg⟩ := Classical.axiomOfChoice q
  obtain ⟨G, a, b⟩ := max_of h1 g
  refine ⟨G, fun i j hi hj => Int.le_trans ((hg i).1 j hj) (a i hi), fun ob => ?_⟩
  have hm : ((List.range n).map fun i => D.tup (rowL n (M i))).filterMap (fun d => opF .max1 [d]) = rowL n g := by
    unfold rowL
    rw [List.filterMap_map]
    have : ((fun d => opF Bi.max1 [d]) ∘ fun i => D.tup (List.map (fun j => D.int (M i j)) (List.range n))) = fun i => some (D.int (g i)) := by
      funext i
      exact ((hg i).2 _ rfl).1
    rw [this]
    simp
  have e : evE F gC ⟨[.va (matD n M), .un], ob⟩ = .ok (.lst (rowL n g), ⟨[.va (matD n M), .un], ob⟩) := by
    rw [← hm, matD_eq]
    refine ev_comp1 (by simp [rdN, seqD]) (by simp) (by simp [ownOk]) (by rw [hm, rowL_len]; exact szl _ (by omega)) fun d hd => ?_
    obtain ⟨i, _, rfl⟩ := List.mem_map.mp hd
    have := ((hg i).2 _ rfl).1
    simp [condR, isSet, drs, dr, this]
  have := (b _ rfl).2
  rw [great_eq]
  simp [runF, e, drs, this, outsF]
end K02
namespace K02
open PySem Mi
/-! ### turned and turned_by, right -/
theorem eqM {n : Nat} (hn : n ≤ 4) (M : Nat → Nat → Int) : eqD (matD n M) (matD n M) = some true := eqD_self (L := 4) (n := 3) (matD_sh hn) (by decide)
def ri1 (kt : Nat) : Sm := (.asg (.nm 4 false) (.call kt (.cons (.nm 1) (.cons (.nm 3) .nil))))
def ri2 (kl : Nat) : Sm := (.ifs (.bor (.cmp .ne (.nm 4) (.call kl (.cons (.nm 1) (.cons (.nm 3) .nil)))) (.cmp .ne (.call kl (.cons (.nm 4) (.cons (.nm 3) .nil))) (.nm 1))) (.cons (.ret false (.ct (.bl false)))
      .nil) .nil)
def riB (kt kl : Nat) : Sms := (.cons (ri1 kt) (.cons (ri2 kl) .nil))
def rj (kl : Nat) : Sms := (.cons (.asg (.nm 6 false) (.call kl (.cons (.nm 6) (.cons (.nm 3) .nil)))) .nil)
def rq1 : Sm := (.asg (.nm 2 false) (.bi .len (.cons (.nm 1) .nil)))
def rq2 (kt kl : Nat) : Sm := (.fors (.one 3) (.rng1 (.nm 2)) (riB kt kl))
def rq3 (kp : Nat) : Sm := (.asg2 (.nm 5 false) (.nm 6 false) (.call kp (.cons (.nm 0) (.cons (.nm 2) (.cons (.ct (.int 8)) .nil)))) (.nm 1))
def rq4 (kl : Nat) : Sm := (.fors (.one 3) (.seq (.nm 5)) (rj kl))
def rq5 (kb : Nat) : Sm := (.ret false (.cmp .eq (.call kb (.cons (.nm 1) (.cons (.nm 5) .nil))) (.nm 6)))
def rqB (kt kl kp kb : Nat) : Sms := (.cons rq1 (.cons (rq2 kt kl) (.cons (rq3 kp) (.cons (rq4 kl) (.cons (rq5 kb) .nil)))))
theorem right_eq (kt kl kp kb : Nat) : t_law_right kt kl kp kb = ⟨2, 7, [false, false], rqB kt kl kp kb⟩ := rfl
def rS (x : Src) (T : D) (n : Nat) (p th ps due : Sl) (ob : List Ob) : Ms := ⟨[x.sl, .va T, .va (.int n), p, th, ps, due], ob⟩
theorem riB_run (F : Fh) {kt kl : Nat} (ht : TpOk F kt) (hl : TuOk F kl) (x : Src) {n p : Nat} {M : Nat → Nat → Int} (g : GoodM n M) (hp : p < n) (th ps due : Sl) (ob : List Ob) :
    ∃ th', evSs F (riB kt kl) (rS x (matD n M) n (.va (.int p)) th ps due ob) = .nx (rS x (matD n M) n (.va (.int p)) th' ps due ob) := by
  have n4 := g.n4
  have r1 := fun ob => ht.run n p M ob g hp
  have r2 := fun ob => hl.run n 4 p M ob g.p (by decide) (by omega) hp
  have r3 := fun ob => hl.run n (2 * 4 + 1) p (turnM M p) ob (g.p.turn p) (by decide) (by omega) hp
  rw [turn_twice g.anti] at r3
  have q1 := eqM n4 (turnM M p)
  have q2 := eqM n4 M
  have e1 : evS F (ri1 kt) (rS x (matD n M) n (.va (.int p)) th ps due ob) = .nx (rS x (matD n M) n (.va (.int p)) (.va (matD n (turnM M p))) ps due ob) := by
    simp [ri1, rS, isSet, cal, calF, lend, ht.asg, r1, back]
  have e2 : evS F (ri2 kl) (rS x (matD n M) n (.va (.int p)) (.va (matD n (turnM M p))) ps due ob) = .nx (rS x (matD n M) n (.va (.int p)) (.va (matD n (turnM M p))) ps due ob) := by
    simp [ri2, rS, isSet, cal, calF, lend, hl.asg, r2, r3, back, op2, dr, opC, q1, q2]
  exact ⟨_, (ss_nx e1).trans ((ss_nx e2).trans ss_nil)⟩
theorem right_run (F : Fh) {kt kl kp kb : Nat} (ht : TpOk F kt) (hl : TuOk F kl) (hp : PlOk F kp) (hb : TbOk F kb) (x : Src) {n : Nat} {M : Nat → Nat → Int} (g : GoodM n M) (ob : List Ob) :
    ∃ y, runF F (t_law_right kt kl kp kb) [x.sl, .va (matD n M)] ob = .ok (.bl true) false [Src.sl y, .va (matD n M)] ob := by
  have n4 := g.n4
  have n1 := g.n1
  have lm := len_mat n M
  have e1 : evS F rq1 ⟨[x.sl, .va (matD n M), .un, .un, .un, .un, .un], ob⟩ = .nx (rS x (matD n M) n .un .un .un .un ob) := by
    simp [rq1, rS, isSet, drs, dr, lm]
  have i2 : evI F (.rng1 (.nm 2)) (rS x (matD n M) n .un .un .un .un ob) = .ok (rngD 0 (n : Int), rS x (matD n M) n .un .un .un .un ob) := ev_rngN1 rfl (by omega) (by omega)
  obtain ⟨s2, f2, p2, th2, h2⟩ := forL_inv (f := forF F (.one 3) (riB kt kl)) (fun i s => ∃ p th, s = rS x (matD n M) n p th .un .un ob) (ds := rngD 0 (n : Int)) (s := rS x (matD n M) n .un .un .un .un ob) 0 ⟨_, _, rfl⟩ fun i d s hd ⟨p, th, hs⟩ => by
    subst hs
    obtain ⟨j, hj, rfl⟩ := mem_rng (List.mem_of_getElem? hd)
    obtain ⟨th', e⟩ := riB_run F ht hl x g (p := j) (by omega) th .un .un ob
    exact ⟨_, .inl e, .va (.int j), th', rfl⟩
  subst h2
  have e2 : evS F (rq2 kt kl) (rS x (matD n M) n .un .un .un .un ob) = .nx (rS x (matD n M) n p2 th2 .un .un ob) := fors_nx i2 f2
  obtain ⟨ps, y, pl, pb, e⟩ := hp.run x n 8 ob (by omega) (by omega) (by decide)
  have e : F.run kp [.ow (.lst [.int x.a, .int x.b]), .va (.int n), .va (.int 8)] ob = .ok (.tup (natsD ps)) false [.ow (.lst [.int y.a, .int y.b]), .va (.int n), .va (.int 8)] ob := e
  have e3 : evS F (rq3 kp) (rS x (matD n M) n p2 th2 .un .un ob) = .nx (rS y (matD n M) n p2 th2 (.va (.tup (natsD ps))) (.va (matD n M)) ob) := by
    simp [rq3, rS, Src.sl, isSet, cal, calF, lend, hp.asg, e, back, rdN]
  have i4 : evI F (.seq (.nm 5)) (rS y (matD n M) n p2 th2 (.va (.tup (natsD ps))) (.va (matD n M)) ob) = .ok (natsD ps, rS y (matD n M) n p2 th2 (.va (.tup (natsD ps))) (.va (matD n M)) ob) := by
    simp [rS, rdN, seqD]
  obtain ⟨a, f4⟩ := turns_loop F hl (n := n) (by omega) (tg := .one 3) (B := rj kl) (fun T a => rS y (matD n M) n a th2 (.va (.tup (natsD ps))) (.va T) ob) (fun M' b p a hM hb' hp' => ⟨.va (.int p), by
    have r3 := fun ob => hl.run n b p M' ob hM hb' (by omega) hp'
    unfold forF
    simp [rj, rS, bindT, isSet, cal, calF, lend, hl.asg, r3, back]⟩) ps M 4 p2 g.p (tk8 (by decide) pl) pb
  have e4 : evS F (rq4 kl) (rS y (matD n M) n p2 th2 (.va (.tup (natsD ps))) (.va (matD n M)) ob) = .nx (rS y (matD n M) n a th2 (.va (.tup (natsD ps))) (.va (matD n (turns M ps))) ob) := fors_nx i4 f4
  have r5 := fun ob => hb.run n M ps ob g pl pb
  have q5 := eqM n4 (turns M ps)
  have e5 : evS F (rq5 kb) (rS y (matD n M) n a th2 (.va (.tup (natsD ps))) (.va (matD n (turns M ps))) ob) = .rt (.bl true) false (rS y (matD n M) n a th2 (.va (.tup (natsD ps))) (.va (matD n (turns M ps))) ob) := by
    simp [rq5, rS, isSet, cal, calF, lend, hb.asg, r5, back, op2, dr, opC, q5]
  refine ⟨y, ?_⟩
  rw [right_eq]
  refine (runF_rt (f := ⟨2, 7, [false, false], rqB kt kl kp kb⟩) (ps := [x.sl, .va (matD n M)]) (ob := ob) (s := ⟨[x.sl, .va (matD n M), .un, .un, .un, .un, .un], ob⟩) rfl rfl ((ss_nx e1).trans ((ss_nx e2).trans ((ss_nx e3).trans ((ss_nx e4).trans (ss_rt e5)))))).trans ?_
  simp [rS, outsF]
/-! ### what is refused -/
def ra1 (kt : Nat) : Sm := (.asg (.nm 2 true) (.lst (.cons (.word 0 w0 (.call kt (.cons (.nm 0) (.cons (.nm 1) .nil)))) .nil)))
def ra2 (kb : Nat) : Sm := (.app 2 (.word 0 w0 (.call kb (.cons (.nm 0) (.cons (.tup (.cons (.ct (.int 0)) (.cons (.nm 1) .nil))) .nil)))))
def ra3 : Sm := (.ifs (.cmp .ne (.nm 2) (.lst (.cons (.ct (.str "place")) (.cons (.ct (.str "places")) .nil)))) (.cons (.ret false (.ct (.bl false)))
      .nil) .nil)
def raB (kt kb : Nat) : Sms := .cons (ra1 kt) (.cons (ra2 kb) (.cons ra3 .nil))
def rbB (kb : Nat) : Sms := (.cons (.ifs (.cmp .ne (.word 0 w0 (.call kb (.cons (.nm 0) (.cons (.nm 1) .nil)))) (.ct (.str "places"))) (.cons (.ret false (.ct (.bl false)))
      .nil) .nil) .nil)
end K02
namespace K02
open PySem Mi
theorem e_word {F : Fh} {s : Ms} (k : Nat) (wd : Wdf) (e : Ex) : evE F (.word k wd e) s = if F.deep then wordR wd (evE F.low e s) else .no := by simp only [evE] <;> rfl
theorem w_place (s : Ms) : wordR w0 (.ex ⟨1, []⟩ s) = .ok (.str "place", s) := rfl
theorem w_places (s : Ms) : wordR w0 (.ex ⟨2, []⟩ s) = .ok (.str "places", s) := rfl
theorem w_table (s : Ms) : wordR w0 (.ex ⟨0, []⟩ s) = .ok (.str "table", s) := rfl
theorem w_unlike (s : Ms) : wordR w0 (.ex ⟨3, []⟩ s) = .ok (.str "unlike", s) := rfl
def raI : Mi.It := (.seq (.lst (.cons (.ct .non) (.cons (.neg (.ct (.int 1))) (.cons (.bi .len (.cons (.nm 0) .nil)) (.cons (.ct (.bl true)) (.cons (.ct (.str "0")) .nil)))))))
def rbI : Mi.It := (.seq (.lst (.cons (.ct .non) (.cons (.lst (.cons (.ct (.int 0)) .nil)) (.cons (.bin .mul (.tup (.cons (.ct (.int 0)) .nil)) (.ct (.int 9))) (.cons (.ct (.int 0)) .nil))))))
def rcC (ke : Nat) : Ex := (.comp (.word 0 w0 (.call ke (.cons (.nm 0) (.cons (.nm 1) .nil)))) (.one 1) (.seq (.tup (.cons (.ct .non) (.cons (.tup .nil) (.cons (.tup (.cons (.tup (.cons (.ct (.int 0)) (.cons (.ct (.int 1)) .nil))) (.cons (.tup (.cons (.ct (.int 1)) (.cons (.ct (.int 0)) .nil))) .nil))) .nil))))) .om [1])
def ra4 (ke : Nat) : Sm := (.asg (.nm 2 true) (rcC ke))
def ra5 (ke : Nat) : Sm := (.app 2 (.word 0 w0 (.call ke (.cons (.ct .non) (.cons (.ct .non) .nil)))))
def ra6 (kt : Nat) : Sm := (.app 2 (.word 0 w0 (.call kt (.cons (.tup .nil) (.cons (.ct .non) .nil)))))
def ra7 : Sm := (.ret false (.cmp .eq (.nm 2) (.bin .mul (.lst (.cons (.ct (.str "table")) .nil)) (.ct (.int 5)))))
def rfB (kt kb ke : Nat) : Sms := .cons (.fors (.one 1) raI (raB kt kb)) (.cons (.fors (.one 1) rbI (rbB kb)) (.cons (ra4 ke) (.cons (ra5 ke) (.cons (ra6 kt) (.cons ra7 .nil)))))
theorem refused_eq (kt kb ke : Nat) : t_law_refused kt kb ke = ⟨1, 3, [false], rfB kt kb ke⟩ := rfl
def fS (T : D) (a b : Sl) (ob : List Ob) : Ms := ⟨[.va T, a, b], ob⟩
structure Lw (F : Fh) (kt kb ke : Nat) : Prop where
  dp : F.deep = true
  ht : TpOk F.low kt
  hb : TbOk F.low kb
  he : LeOk F.low ke
theorem raB_run {F : Fh} {kt kb ke : Nat} (c : Lw F kt kb ke) {n : Nat} {M : Nat → Nat → Int} (g : GoodM n M) {v : D} (hv : sh 2 1 v = true) (hb : numB 0 ((n : Int) - 1) v = false) (b : Sl) (ob : List Ob) :
    ∃ b', evSs F (raB kt kb) (fS (matD n M) (.va v) b ob) = .nx (fS (matD n M) (.va v) b' ob) := by
  have r1 := fun ob => c.ht.place n M v ob g (plain_of_sh hv) hb
  have hs : sh 2 2 (.tup [.int 0, v]) = true := by
    simp only [sh, Bool.and_eq_true, decide_eq_true_eq, List.all_cons, List.all_nil, Bool.and_true]
    exact ⟨by simp, trivial, hv⟩
  have hq : plB n (.tup [.int 0, v]) = false := by simp [plB, hb]
  have r2 := fun ob => c.hb.places n 2 2 M (.tup [.int 0, v]) ob g hs (by decide) hq
  have a1 : F.low.asg kt = [false, false] := c.ht.asg
  have a2 : F.low.asg kb = [true, false] := c.hb.asg
  have z1 : 1 ≤ sizeLine := by decide
  have z2 : 2 ≤ sizeLine := by decide
  have z3 : 1 < sizeLine := by decide
  have w1 : evE F (.word 0 w0 (.call kt (.cons (.nm 0) (.cons (.nm 1) .nil)))) (fS (matD n M) (.va v) b ob) = .ok (.str "place", fS (matD n M) (.va v) b ob) := by
    rw [e_word, c.dp, if_pos rfl, ← w_place]
    congr 1
    simp [fS, isSet, cal, calF, lend, a1, r1]
  have e1 : evS F (ra1 kt) (fS (matD n M) (.va v) b ob) = .nx (fS (matD n M) (.va v) (.ow (.lst [.str "place"])) ob) := by
    have h : evE F (.lst (.cons (.word 0 w0 (.call kt (.cons (.nm 0) (.cons (.nm 1) .nil)))) .nil)) (fS (matD n M) (.va v) b ob) = .ok (.lst [.str "place"], fS (matD n M) (.va v) b ob) := by
      simp [w1, z1]
    exact (asg_fr (e := .lst (.cons (.word 0 w0 (.call kt (.cons (.nm 0) (.cons (.nm 1) .nil)))) .nil)) (i := 2) (d := .lst [.str "place"]) (s' := fS (matD n M) (.va v) b ob) ((show evR F true _ _ = _ from rfl).trans h)).trans rfl
  have w2 : ∀ b, evE F (.word 0 w0 (.call kb (.cons (.nm 0) (.cons (.tup (.cons (.ct (.int 0)) (.cons (.nm 1) .nil))) .nil)))) (fS (matD n M) (.va v) b ob) = .ok (.str "places", fS (matD n M) (.va v) b ob) := fun b => by
    rw [e_word, c.dp, if_pos rfl, ← w_places]
    congr 1
    simp [fS, isSet, cal, calF, lend, a2, r2, rdN, z2]
  have e2 : evS F (ra2 kb) (fS (matD n M) (.va v) (.ow (.lst [.str "place"])) ob) = .nx (fS (matD n M) (.va v) (.ow (.lst [.str "place", .str "places"])) ob) := by
    simp only [ra2, s_app]
    rw [w2]
    simp [fS, hasS, z3]
  have q : eqD (.lst [.str "place", .str "places"]) (.lst [.str "place", .str "places"]) = some true := by kernel_rfl
  have e3 : ∃ b', evS F ra3 (fS (matD n M) (.va v) (.ow (.lst [.str "place", .str "places"])) ob) = .nx (fS (matD n M) (.va v) b' ob) := by
    refine ⟨.ow (.lst [.str "place", .str "places"]), ?_⟩
    simp [ra3, fS, isSet, z2, op2, dr, opC, q]
  obtain ⟨b', e3⟩ := e3
  exact ⟨b', (ss_nx e1).trans ((ss_nx e2).trans ((ss_nx e3).trans ss_nil))⟩
theorem rbB_run {F : Fh} {kt kb ke : Nat} (c : Lw F kt kb ke) {n : Nat} {M : Nat → Nat → Int} (g : GoodM n M) {v : D} {m : Nat} (hv : sh 9 m v = true) (hq : plB n v = false) (b : Sl) (ob : List Ob) :
    evSs F (rbB kb) (fS (matD n M) (.va v) b ob) = .nx (fS (matD n M) (.va v) b ob) := by
  have r2 := fun ob => c.hb.places n 9 m M v ob g hv (by decide) hq
  have a2 : F.low.asg kb = [true, false] := c.hb.asg
  have w2 : evE F (.word 0 w0 (.call kb (.cons (.nm 0) (.cons (.nm 1) .nil)))) (fS (matD n M) (.va v) b ob) = .ok (.str "places", fS (matD n M) (.va v) b ob) := by
    rw [e_word, c.dp, if_pos rfl, ← w_places]
    congr 1
    simp [fS, isSet, cal, calF, lend, a2, r2]
  have q : eqD (.str "places") (.str "places") = some true := by kernel_rfl
  refine (ss_nx (s' := fS (matD n M) (.va v) b ob) ?_).trans ss_nil
  simp [w2, op2, dr, opC, q]
theorem mem5 {n : Nat} {P : D → Prop} (h1 : P .non) (h2 : P (.int (-1))) (h3 : P (.int n)) (h4 : P (.bl true)) (h5 : P (.str "0")) : ∀ d ∈ [D.non, .int (-1), .int n, .bl true, .str "0"], P d := by
  intro d hd
  simp only [List.mem_cons, List.not_mem_nil, or_false] at hd
  rcases hd with rfl | rfl | rfl | rfl | rfl <;> assumption
theorem refused_run {F : Fh} {kt kb ke : Nat} (c : Lw F kt kb ke) {n : Nat} {M : Nat → Nat → Int} (g : GoodM n M) (ob : List Ob) :
    runF F (t_law_refused kt kb ke) [.va (matD n M)] ob = .ok (.bl true) false [.va (matD n M)] ob := by
  have lm := len_mat n M
  have z5 : 5 ≤ sizeLine := by decide
  have z4 : 4 ≤ sizeLine := by decide
  have z1 : 1 ≤ sizeLine := by decide
  have z2 : 2 ≤ sizeLine := by decide
  have z0 : 0 ≤ sizeLine := by decide
  have i1 : evI F raI (fS (matD n M) .un .un ob) = .ok ([.non, .int (-1), .int n, .bl true, .str "0"], fS (matD n M) .un .un ob) := by
    simp [raI, fS, isSet, drs, dr, lm, z5, seqD]
  obtain ⟨s1, f1, a1, b1, h1⟩ := forL_inv (f := forF F (.one 1) (raB kt kb)) (fun i s => ∃ a b, s = fS (matD n M) a b ob) (ds := [.non, .int (-1), .int n, .bl true, .str "0"]) (s := fS (matD n M) .un .un ob) 0 ⟨_, _, rfl⟩ fun i d s hd ⟨a, b, hs⟩ => by
    subst hs
    have hm := List.mem_of_getElem? hd
    have hp : sh 2 1 d = true ∧ numB 0 ((n : Int) - 1) d = false := by
      refine mem5 (n := n) (P := fun d => sh 2 1 d = true ∧ numB 0 ((n : Int) - 1) d = false) ⟨rfl, rfl⟩ ⟨rfl, ?_⟩ ⟨rfl, ?_⟩ ⟨rfl, rfl⟩ ⟨by decide +kernel, rfl⟩ d hm
      · simp [numB]
      · simp [numB]
        omega
    obtain ⟨b', e⟩ := raB_run c g hp.1 hp.2 b ob
    exact ⟨_, .inl e, .va d, b', rfl⟩
  subst h1
  have e1 : evS F (.fors (.one 1) raI (raB kt kb)) (fS (matD n M) .un .un ob) = .nx (fS (matD n M) a1 b1 ob) := fors_nx i1 f1
  have i2 : evI F rbI (fS (matD n M) a1 b1 ob) = .ok ([.non, .lst [.int 0], .tup [.int 0, .int 0, .int 0, .int 0, .int 0, .int 0, .int 0, .int 0, .int 0], .int 0], fS (matD n M) a1 b1 ob) := by
    rfl
  have e2 : evS F (.fors (.one 1) rbI (rbB kb)) (fS (matD n M) a1 b1 ob) = .nx (fS (matD n M) (.va (.int 0)) b1 ob) := by
    refine fors_nx i2 ?_
    have k := fun (v : D) (m : Nat) (hv : sh 9 m v = true) (hq : plB n v = false) => rbB_run c g hv hq b1 ob
    have t : ∀ (a : Sl) (v : D) (r : List D), (∃ m, sh 9 m v = true) → plB n v = false → forL (forF F (.one 1) (rbB kb)) (v :: r) (fS (matD n M) a b1 ob) = forL (forF F (.one 1) (rbB kb)) r (fS (matD n M) (.va v) b1 ob) := fun a v r ⟨m, hv⟩ hq => by
      have : forF F (.one 1) (rbB kb) v (fS (matD n M) a b1 ob) = .nx (fS (matD n M) (.va v) b1 ob) := k v m hv hq
      rw [forL, this]
    rw [t _ _ _ ⟨1, rfl⟩ rfl, t _ _ _ ⟨2, rfl⟩ rfl, t _ _ _ ⟨2, rfl⟩ rfl, t _ _ _ ⟨1, rfl⟩ rfl]
    rfl
  have dp := c.dp
  have a3 : F.low.asg ke = [false, false] := c.he.asg
  have a4 : F.low.asg kt = [false, false] := c.ht.asg
  let odds : List D := [.non, .tup [], .tup [.tup [.int 0, .int 1], .tup [.int 1, .int 0]]]
  have hm : odds.filterMap (fun _ => some (D.str "table")) = [.str "table", .str "table", .str "table"] := rfl
  have e4c : evE F (rcC ke) (fS (matD n M) (.va (.int 0)) b1 ob) = .ok (.lst [.str "table", .str "table", .str "table"], fS (matD n M) (.va (.int 0)) b1 ob) := by
    rw [← hm]
    have i4 : evI F (.seq (.tup (.cons (.ct .non) (.cons (.tup .nil) (.cons (.tup (.cons (.tup (.cons (.ct (.int 0)) (.cons (.ct (.int 1)) .nil))) (.cons (.tup (.cons (.ct (.int 1)) (.cons (.ct (.int 0)) .nil))) .nil))) .nil))))) (fS (matD n M) (.va (.int 0)) b1 ob) = .ok (odds, fS (matD n M) (.va (.int 0)) b1 ob) := rfl
    refine ev_comp1 i4 (by simp [fS]) (by simp [ownOk, fS]) (by rw [hm]; decide) fun d hd => ?_
    have ho : sh 2 3 d = true ∧ tabB d = false := by
      simp only [odds, List.mem_cons, List.not_mem_nil, or_false] at hd
      rcases hd with rfl | rfl | rfl <;> exact ⟨rfl, rfl⟩
    have r := fun ob => c.he.table2 n 2 3 M d ob g ho.1 (by decide) ho.2
    have ww : evE F (.word 0 w0 (.call ke (.cons (.nm 0) (.cons (.nm 1) .nil)))) (fS (matD n M) (.va d) b1 ob) = .ok (.str "table", fS (matD n M) (.va d) b1 ob) := by
      rw [e_word, dp, if_pos rfl, ← w_table]
      congr 1
      simp [fS, isSet, cal, calF, lend, a3, r]
    have hp : (fS (matD n M) (.va (.int 0)) b1 ob).put 1 (.va d) = fS (matD n M) (.va d) b1 ob := rfl
    rw [hp]
    simp [condR, ww]
  have e4 : evS F (ra4 ke) (fS (matD n M) (.va (.int 0)) b1 ob) = .nx (fS (matD n M) (.va (.int 0)) (.ow (.lst [.str "table", .str "table", .str "table"])) ob) := by
    refine (asg_fr (d := .lst [.str "table", .str "table", .str "table"]) (s' := fS (matD n M) (.va (.int 0)) b1 ob) ?_).trans rfl
    have : evR F true (rcC ke) (fS (matD n M) (.va (.int 0)) b1 ob) = evE F (rcC ke) (fS (matD n M) (.va (.int 0)) b1 ob) := rfl
    rw [this, e4c]
  have wn : ∀ b, evE F (.word 0 w0 (.call ke (.cons (.ct .non) (.cons (.ct .non) .nil)))) (fS (matD n M) (.va (.int 0)) b ob) = .ok (.str "table", fS (matD n M) (.va (.int 0)) b ob) := fun b => by
    have r := fun ob => c.he.table1 1 1 .non .non ob rfl (by decide) rfl
    rw [e_word, dp, if_pos rfl, ← w_table]
    congr 1
    simp [fS, isSet, cal, calF, lend, a3, r]
  have wt : ∀ b, evE F (.word 0 w0 (.call kt (.cons (.tup .nil) (.cons (.ct .non) .nil)))) (fS (matD n M) (.va (.int 0)) b ob) = .ok (.str "table", fS (matD n M) (.va (.int 0)) b ob) := fun b => by
    have r := fun ob => c.ht.table 1 1 (.tup []) .non ob rfl (by decide) rfl
    rw [e_word, dp, if_pos rfl, ← w_table]
    congr 1
    simp [fS, isSet, cal, calF, lend, a4, r, z0]
  have zz3 : 3 < sizeLine := by decide
  have zz4 : 4 < sizeLine := by decide
  have e5 : evS F (ra5 ke) (fS (matD n M) (.va (.int 0)) (.ow (.lst [.str "table", .str "table", .str "table"])) ob) = .nx (fS (matD n M) (.va (.int 0)) (.ow (.lst [.str "table", .str "table", .str "table", .str "table"])) ob) := by
    simp only [ra5, s_app]
    rw [wn]
    simp [fS, hasS, zz3]
  have e6 : evS F (ra6 kt) (fS (matD n M) (.va (.int 0)) (.ow (.lst [.str "table", .str "table", .str "table", .str "table"])) ob) = .nx (fS (matD n M) (.va (.int 0)) (.ow (.lst [.str "table", .str "table", .str "table", .str "table", .str "table"])) ob) := by
    simp only [ra6, s_app]
    rw [wt]
    simp [fS, hasS, zz4]
  have e7 : ∃ s', evS F ra7 (fS (matD n M) (.va (.int 0)) (.ow (.lst [.str "table", .str "table", .str "table", .str "table", .str "table"])) ob) = .rt (.bl true) false s' ∧ s'.sl.take 1 = [.va (matD n M)] ∧ s'.ob = ob := by
    have q : eqD (.lst [.str "table", .str "table", .str "table", .str "table", .str "table"]) (.lst [.str "table", .str "table", .str "table", .str "table", .str "table"]) = some true := by kernel_rfl
    have mm : mulSeq [D.str "table"] 5 = [.str "table", .str "table", .str "table", .str "table", .str "table"] := rfl
    refine ⟨fS (matD n M) (.va (.int 0)) (.ow (.lst [.str "table", .str "table", .str "table", .str "table", .str "table"])) ob, ?_, rfl, rfl⟩
    simp [ra7, fS, isSet, op2, dr, opC, opB, mulD, q, z1, z5, mm]

  obtain ⟨s', e7, h7, h8⟩ := e7
  rw [refused_eq]
  refine (runF_rt (f := ⟨1, 3, [false], rfB kt kb ke⟩) (ps := [.va (matD n M)]) (ob := ob) (s := fS (matD n M) .un .un ob) rfl rfl ((ss_nx e1).trans ((ss_nx e2).trans ((ss_nx e4).trans ((ss_nx e5).trans ((ss_nx e6).trans (ss_rt e7))))))).trans ?_
  show Rc.ok _ _ (outsF [false] (s'.sl.take 1)) s'.ob = _
  rw [h7, h8]
  rfl
end K02
namespace K02
open PySem Mi
structure TaOk (F : Fh) (k : Nat) : Prop where
  asg : F.asg k = [false, false, false]
  run : ∀ (x : Src) (m h : Nat) (ob : List Ob), 0 < m → m ≤ 99 → h < 1000000 → ∃ n M y, 1 ≤ n ∧ n ≤ m ∧ Anti M ∧ Bnd h M ∧ F.run k [x.sl, .va (.int m), .va (.int h)] ob = .ok (matD n M) false [Src.sl y, .va (.int m), .va (.int h)] ob
structure Cs (F : Fh) : Prop where
  src : ∀ (ns : List Int) (k : Nat) (ob : List Ob), k < 4096 → ∃ y : Src, F.run 11 [.va (.scr ns), .va (.int k)] ob = .ok y.d true [.va (.scr ns), .va (.int k)] ob
  srA : F.asg 11 = [false, false]
  ta : TaOk F 15
  rigA : F.asg 20 = [false, false]
  rig : ∀ (x : Src) (n : Nat) (M : Nat → Nat → Int) (ob : List Ob), GoodM n M → ∃ y, F.run 20 [x.sl, .va (matD n M)] ob = .ok (.bl true) false [Src.sl y, .va (matD n M)] ob
  pl : PlOk F 16
  lt : TuOk F 17
  grA : F.asg 19 = [false]
  gr : ∀ (n : Nat) (M : Nat → Nat → Int), 1 ≤ n → n ≤ 1000 → ∃ g, (∀ i j, i < n → j < n → M i j ≤ g) ∧ ∀ ob, F.run 19 [.va (matD n M)] ob = .ok (.int g) false [.va (matD n M)] ob
  le : LeOk F 10
  ll : RwOk F 18
  rfA : F.asg 21 = [false]
  rf : ∀ (n : Nat) (M : Nat → Nat → Int) (ob : List Ob), GoodM n M → F.run 21 [.va (matD n M)] ob = .ok (.bl true) false [.va (matD n M)] ob
  dp : F.deep = true
  lo : LeOk F.low 10
def wS (ns : List Int) (k s t far pl one oth : Sl) : Ms := ⟨[.va (.scr ns), k, s, t, far, pl, .un, .un, .un, .un, one, oth], []⟩
def ka : Sm := (.asg (.nm 2 true) (.call 11 (.cons (.nm 0) (.cons (.nm 1) .nil))))
def kbB : Sms := (.cons (.ifs (.bnot (.call 20 (.cons (.nm 2) (.cons (.call 15 (.cons (.nm 2) (.cons (.ct (.int 4)) (.cons (.ct (.int 9)) .nil)))) .nil)))) (.cons (.ret false (.ct (.bl false)))
        .nil) .nil)
      .nil)
def kb : Sm := (.fors (.one 3) (.rng1 (.ct (.int 3))) kbB)
def kc : Sm := (.asg2 (.nm 10 false) (.nm 11 false) (.call 15 (.cons (.nm 2) (.cons (.ct (.int 3)) (.cons (.ct (.int 2)) .nil)))) (.call 15 (.cons (.nm 2) (.cons (.ct (.int 3)) (.cons (.ct (.int 2)) .nil)))))
def kd : Sm := (.asg (.nm 4 false) (.nm 10))
def keB : Sms := (.cons (.asg (.nm 4 false) (.call 17 (.cons (.nm 4) (.cons (.nm 5) .nil))))
      .nil)
def keI : Ex := (.call 16 (.cons (.nm 2) (.cons (.bi .len (.cons (.nm 10) .nil)) (.cons (.ct (.int 5)) .nil))))
def ke : Sm := (.fors (.one 5) (.seq keI) keB)
def kf : Sm := (.ifs (.band (.cmp .le (.call 19 (.cons (.nm 4) .nil)) (.ct (.int 9))) (.cmp .ne (.call 10 (.cons (.nm 10) (.cons (.nm 4) .nil))) (.call 18 (.cons (.nm 10) (.cons (.nm 4) .nil))))) (.cons (.ret false (.ct (.bl false)))
      .nil) .nil)
def kg1 : Sm := (.ifs (.cmp .ne (.word 0 w0 (.call 10 (.cons (.nm 10) (.cons (.nm 11) .nil)))) (.ct (.str "unlike"))) (.cons (.ret false (.ct (.bl false)))
        .nil) .nil)
def kg2 : Sm := (.ifs (.cmp .ne (.call 10 (.cons (.nm 10) (.cons (.nm 11) .nil))) (.call 18 (.cons (.nm 10) (.cons (.nm 11) .nil)))) (.cons (.ret false (.ct (.bl false)))
        .nil) .nil)
def kg : Sm := (.ifs (.cmp .ne (.bi .len (.cons (.nm 10) .nil)) (.bi .len (.cons (.nm 11) .nil))) (.cons kg1
      .nil) (.cons kg2
      .nil))
def kh : Sm := (.ifs (.bnot (.call 21 (.cons (.nm 10) .nil))) (.cons (.ret false (.ct (.bl false)))
      .nil) .nil)
def wK : Sms := .cons ka (.cons kb (.cons kc (.cons kd (.cons ke (.cons kf (.cons kg (.cons kh .nil)))))))
def wL : Sm := .fors (.one 1) (.rng1 (.bin .add (.ct (.int 1)) (.bi .min2 (.cons (.bi .len (.cons (.nm 0) .nil)) (.cons (.ct (.int 8)) .nil))))) wK
theorem Bnd.le {a b : Int} {M : Nat → Nat → Int} (h : Bnd a M) (hab : a ≤ b) : Bnd b M := fun i j => by have := h i j; omega
theorem eqR (o : Option (List Nat)) : eqD (resD o) (resD o) = some true := by
  cases o with
  | none => rfl
  | some ps => exact eqD_self (nats_sh (Nat.le_refl ps.length)) (by decide)
def clip (n : Nat) (M : Nat → Nat → Int) : Nat → Nat → Int := fun i j => if i < n ∧ j < n then M i j else 0
theorem mat_clip (n : Nat) (M : Nat → Nat → Int) : matD n (clip n M) = matD n M := by
  rw [matD_eq, matD_eq]
  congr 1
  apply List.map_congr_left
  intro i hi
  have hi := List.mem_range.mp hi
  congr 1
  unfold rowL
  apply List.map_congr_left
  intro j hj
  have hj := List.mem_range.mp hj
  simp [clip, hi, hj]
theorem good_clip {n : Nat} {M : Nat → Nat → Int} (h1 : 1 ≤ n) (h4 : n ≤ 4) (hA : Anti M) (hB : ∀ i j, i < n → j < n → M i j ≤ 9) : GoodM n (clip n M) := ⟨h1, h4, fun i j => by
  unfold clip
  by_cases h : i < n ∧ j < n
  · rw [if_pos h, if_pos ⟨h.2, h.1⟩]; exact hA i j
  · rw [if_neg h, if_neg (fun z => h ⟨z.2, z.1⟩)]; rfl, fun i j => by
  unfold clip
  by_cases h : i < n ∧ j < n
  · rw [if_pos h]
    have a := hB i j h.1 h.2
    have b := hB j i h.2 h.1
    have := hA i j
    omega
  · rw [if_neg h]; omega⟩
/-! the steps -/
theorem kbB_run {F : Fh} (c : Cs F) (ns : List Int) (k t far pl one oth : Sl) (x : Src) : ∃ y, evSs F kbB (wS ns k x.sl t far pl one oth) = .nx (wS ns k (Src.sl y) t far pl one oth) := by
  obtain ⟨n, M, y1, n1, n2, hA, hB, e1⟩ := c.ta.run x 4 9 [] (by decide) (by decide) (by decide)
  obtain ⟨y2, e2⟩ := c.rig y1 n M [] ⟨n1, n2, hA, hB⟩
  have e1 : F.run 15 [.ow (.lst [.int x.a, .int x.b]), .va (.int 4), .va (.int 9)] [] = .ok (matD n M) false [.ow (.lst [.int y1.a, .int y1.b]), .va (.int 4), .va (.int 9)] [] := e1
  have e2 : F.run 20 [.ow (.lst [.int y1.a, .int y1.b]), .va (matD n M)] [] = .ok (.bl true) false [.ow (.lst [.int y2.a, .int y2.b]), .va (matD n M)] [] := e2
  refine ⟨y2, ?_⟩
  simp [kbB, wS, Src.sl, isSet, cal, calF, lend, c.ta.asg, c.rigA, e1, e2, back]
theorem ka_run {F : Fh} (c : Cs F) (ns : List Int) {k : Nat} (hk : k < 4096) (s t far pl one oth : Sl) : ∃ x : Src, evS F ka (wS ns (.va (.int k)) s t far pl one oth) = .nx (wS ns (.va (.int k)) x.sl t far pl one oth) := by
  obtain ⟨x, e0⟩ := c.src ns k [] hk
  unfold Src.d at e0
  refine ⟨x, ?_⟩
  simp [ka, wS, evR, isFr, isSet, calF, lend, c.srA, e0, back, Src.sl]
theorem kb_run {F : Fh} (c : Cs F) (ns : List Int) (k t far pl one oth : Sl) (x : Src) : ∃ y t', evS F kb (wS ns k x.sl t far pl one oth) = .nx (wS ns k (Src.sl y) t' far pl one oth) := by
  obtain ⟨s', h1, y, t', hs⟩ := forL_inv (f := forF F (.one 3) kbB) (fun i s => ∃ y t, s = wS ns k (Src.sl y) t far pl one oth) (ds := rngD 0 (3 : Nat)) (s := wS ns k x.sl t far pl one oth) 0 ⟨x, t, rfl⟩ fun i d' s hd' ⟨y, t, hs⟩ => by
    subst hs
    obtain ⟨y2, e⟩ := kbB_run c ns k (.va d') far pl one oth y
    exact ⟨_, .inl e, y2, .va d', rfl⟩
  subst hs
  have hr3 : evI F (.rng1 (.ct (.int 3))) (wS ns k x.sl t far pl one oth) = .ok (rngD 0 (3 : Nat), wS ns k x.sl t far pl one oth) := ev_rng1s (by simp) (by decide) (by decide)
  exact ⟨y, t', fors_nx hr3 h1⟩
theorem kc_run {F : Fh} (c : Cs F) (ns : List Int) (k t far pl one oth : Sl) (x : Src) : ∃ n M n2 M2 y, (1 ≤ n ∧ n ≤ 3 ∧ Anti M ∧ Bnd 2 M) ∧ (1 ≤ n2 ∧ n2 ≤ 3 ∧ Anti M2 ∧ Bnd 2 M2) ∧ evS F kc (wS ns k x.sl t far pl one oth) = .nx (wS ns k (Src.sl y) t far pl (.va (matD n M)) (.va (matD n2 M2))) := by
  obtain ⟨n, M, y1, n1, n2, hA, hB, e1⟩ := c.ta.run x 3 2 [] (by decide) (by decide) (by decide)
  obtain ⟨m, M2, y2, m1, m2, hA2, hB2, e2⟩ := c.ta.run y1 3 2 [] (by decide) (by decide) (by decide)
  have e1 : F.run 15 [.ow (.lst [.int x.a, .int x.b]), .va (.int 3), .va (.int 2)] [] = .ok (matD n M) false [.ow (.lst [.int y1.a, .int y1.b]), .va (.int 3), .va (.int 2)] [] := e1
  have e2 : F.run 15 [.ow (.lst [.int y1.a, .int y1.b]), .va (.int 3), .va (.int 2)] [] = .ok (matD m M2) false [.ow (.lst [.int y2.a, .int y2.b]), .va (.int 3), .va (.int 2)] [] := e2
  refine ⟨n, M, m, M2, y2, ⟨n1, n2, hA, hB⟩, ⟨m1, m2, hA2, hB2⟩, ?_⟩
  simp [kc, wS, Src.sl, isSet, cal, calF, lend, c.ta.asg, e1, e2, back]
theorem kd_run (F : Fh) (ns : List Int) (k s t far pl oth : Sl) (T : D) : evS F kd (wS ns k s t far pl (.va T) oth) = .nx (wS ns k s t (.va T) pl (.va T) oth) := by
  simp [kd, wS, rdN]
theorem ke_run {F : Fh} (c : Cs F) (ns : List Int) (k t pl oth : Sl) (x : Src) {n : Nat} {M : Nat → Nat → Int} (h1 : 1 ≤ n) (h3 : n ≤ 3) (hM : BndP 1 M) : ∃ ps y pl', evS F ke (wS ns k x.sl t (.va (matD n M)) pl (.va (matD n M)) oth) = .nx (wS ns k (Src.sl y) t (.va (matD n (turns M ps))) pl' (.va (matD n M)) oth) := by
  have lm := len_mat n M
  obtain ⟨ps, y, l, pb, e⟩ := c.pl.run x n 5 [] (by omega) (by omega) (by decide)
  have e : F.run 16 [.ow (.lst [.int x.a, .int x.b]), .va (.int n), .va (.int 5)] [] = .ok (.tup (natsD ps)) false [.ow (.lst [.int y.a, .int y.b]), .va (.int n), .va (.int 5)] [] := e
  have i4 : evI F (.seq keI) (wS ns k x.sl t (.va (matD n M)) pl (.va (matD n M)) oth) = .ok (natsD ps, wS ns k y.sl t (.va (matD n M)) pl (.va (matD n M)) oth) := by
    simp [keI, wS, Src.sl, isSet, drs, dr, lm, cal, calF, lend, c.pl.asg, e, back, seqD]
  obtain ⟨a, f4⟩ := turns_loop F c.lt (n := n) (by omega) (tg := .one 5) (B := keB) (fun T a => wS ns k y.sl t (.va T) a (.va (matD n M)) oth) (fun M' b p a hM hb' hp' => ⟨.va (.int p), by
    have r3 := fun ob => c.lt.run n b p M' ob hM hb' (by omega) hp'
    unfold forF
    simp [keB, wS, bindT, isSet, cal, calF, lend, c.lt.asg, r3, back]⟩) ps M 1 pl hM (tk8 (by decide) (by omega)) pb
  exact ⟨ps, y, a, fors_nx i4 f4⟩
theorem kf_run {F : Fh} (c : Cs F) (ns : List Int) (k s t pl oth : Sl) {n : Nat} {M M2 : Nat → Nat → Int} (g : GoodM n M) (h3 : n ≤ 3) (hA : Anti M2) : evS F kf (wS ns k s t (.va (matD n M2)) pl (.va (matD n M)) oth) = .nx (wS ns k s t (.va (matD n M2)) pl (.va (matD n M)) oth) := by
  have n1 := g.n1
  obtain ⟨G, hG, e1⟩ := c.gr n M2 g.n1 (by omega)
  by_cases h : G ≤ 9
  · have g2 : GoodM n (clip n M2) := good_clip g.n1 g.n4 hA fun i j hi hj => Int.le_trans (hG i j hi hj) h
    have r1 := fun ob => c.le.run n M (clip n M2) ob h3 g g2
    have r2 := fun ob => c.ll.run n 4 M (clip n M2) ob h3 g.p (by decide)
    rw [mat_clip] at r1 r2
    have q := eqR (bfs n (matD n M2) 7 [⟨[], M⟩] [matD n M])
    simp [kf, wS, isSet, cal, calF, lend, c.grA, c.le.asg, c.ll.asg, e1, r1, r2, back, op2, dr, opC, cmpD, h, q]
  · simp [kf, wS, isSet, cal, calF, lend, c.grA, e1, back, op2, dr, opC, cmpD, h]
theorem kg_run {F : Fh} (c : Cs F) (ns : List Int) (k s t far pl : Sl) {n m : Nat} {M M2 : Nat → Nat → Int} (g : GoodM n M) (g2 : GoodM m M2) (h3 : n ≤ 3) : evS F kg (wS ns k s t far pl (.va (matD n M)) (.va (matD m M2))) = .nx (wS ns k s t far pl (.va (matD n M)) (.va (matD m M2))) := by
  have l1 := len_mat n M
  have l2 := len_mat m M2
  have e0 : evE F (.cmp .ne (.bi .len (.cons (.nm 10) .nil)) (.bi .len (.cons (.nm 11) .nil))) (wS ns k s t far pl (.va (matD n M)) (.va (matD m M2))) = .ok (.bl (!((n : Int) == (m : Int))), wS ns k s t far pl (.va (matD n M)) (.va (matD m M2))) := by
    simp [wS, isSet, drs, dr, l1, l2, op2, opC]
  by_cases h : n = m
  · subst h
    have hh : ((n : Int) == (n : Int)) = true := by simp
    rw [hh] at e0
    have r1 := fun ob => c.le.run n M M2 ob h3 g g2
    have r2 := fun ob => c.ll.run n 4 M M2 ob h3 g.p (by decide)
    have q := eqR (bfs n (matD n M2) 7 [⟨[], M⟩] [matD n M])
    have e1 : evS F kg2 (wS ns k s t far pl (.va (matD n M)) (.va (matD n M2))) = .nx (wS ns k s t far pl (.va (matD n M)) (.va (matD n M2))) := by
      simp [kg2, wS, isSet, cal, calF, lend, c.le.asg, c.ll.asg, r1, r2, back, op2, dr, opC, q]
    exact (ifs_f e0).trans ((ss_nx e1).trans ss_nil)
  · have hh : ((n : Int) == (m : Int)) = false := by rw [beq_eq_false_iff_ne]; omega
    rw [hh] at e0
    have r := fun ob => c.lo.unlike n m M M2 ob h g g2
    have a3 : F.low.asg 10 = [false, false] := c.lo.asg
    have w2 : evE F (.word 0 w0 (.call 10 (.cons (.nm 10) (.cons (.nm 11) .nil)))) (wS ns k s t far pl (.va (matD n M)) (.va (matD m M2))) = .ok (.str "unlike", wS ns k s t far pl (.va (matD n M)) (.va (matD m M2))) := by
      rw [e_word, c.dp, if_pos rfl, ← w_unlike]
      congr 1
      simp [wS, isSet, cal, calF, lend, a3, r]
    have q : eqD (.str "unlike") (.str "unlike") = some true := by kernel_rfl
    have e1 : evS F kg1 (wS ns k s t far pl (.va (matD n M)) (.va (matD m M2))) = .nx (wS ns k s t far pl (.va (matD n M)) (.va (matD m M2))) := by
      simp [kg1, w2, op2, dr, opC, q]
    exact (ifs_t e0).trans ((ss_nx e1).trans ss_nil)
theorem kh_run {F : Fh} (c : Cs F) (ns : List Int) (k s t far pl oth : Sl) {n : Nat} {M : Nat → Nat → Int} (g : GoodM n M) : evS F kh (wS ns k s t far pl (.va (matD n M)) oth) = .nx (wS ns k s t far pl (.va (matD n M)) oth) := by
  have r := fun ob => c.rf n M ob g
  simp [kh, wS, isSet, cal, calF, lend, c.rfA, r, back]
theorem bndp2 {M : Nat → Nat → Int} (h : Bnd 2 M) : BndP 1 M := fun i j => by
  have := h i j
  show (M i j).natAbs ≤ 2
  omega
theorem wK_run {F : Fh} (c : Cs F) (ns : List Int) {k : Nat} (hk : k < 4096) (s t far pl one oth : Sl) : ∃ s' t' far' pl' one' oth', evSs F wK (wS ns (.va (.int k)) s t far pl one oth) = .nx (wS ns (.va (.int k)) s' t' far' pl' one' oth') := by
  obtain ⟨x, e1⟩ := ka_run c ns hk s t far pl one oth
  obtain ⟨y, t2, e2⟩ := kb_run c ns (.va (.int k)) t far pl one oth x
  obtain ⟨n, M, m, M2, y3, hn, hm, e3⟩ := kc_run c ns (.va (.int k)) t2 far pl one oth y
  have g : GoodM n M := ⟨hn.1, by omega, hn.2.2.1, Bnd.le hn.2.2.2 (by decide)⟩
  have g2 : GoodM m M2 := ⟨hm.1, by omega, hm.2.2.1, Bnd.le hm.2.2.2 (by decide)⟩
  have e4 := kd_run F ns (.va (.int k)) (Src.sl y3) t2 far pl (.va (matD m M2)) (matD n M)
  obtain ⟨ps, y5, pl5, e5⟩ := ke_run c ns (.va (.int k)) t2 pl (.va (matD m M2)) y3 hn.1 hn.2.1 (bndp2 hn.2.2.2)
  have e6 := kf_run c ns (.va (.int k)) (Src.sl y5) t2 pl5 (.va (matD m M2)) g hn.2.1 (turns_anti g.anti ps)
  have e7 := kg_run c ns (.va (.int k)) (Src.sl y5) t2 (.va (matD n (turns M ps))) pl5 g g2 hn.2.1
  have e8 := kh_run c ns (.va (.int k)) (Src.sl y5) t2 (.va (matD n (turns M ps))) pl5 (.va (matD m M2)) g
  exact ⟨_, _, _, _, _, _, (ss_nx e1).trans ((ss_nx e2).trans ((ss_nx e3).trans ((ss_nx e4).trans ((ss_nx e5).trans ((ss_nx e6).trans ((ss_nx e7).trans ((ss_nx e8).trans ss_nil)))))))⟩
theorem wL_run {F : Fh} (c : Cs F) (ns : List Int) : ∃ k s t far pl one oth, evS F wL (wS ns .un .un .un .un .un .un .un) = .nx (wS ns k s t far pl one oth) := by
  obtain ⟨n, hn1, hn, hn2⟩ : ∃ n : Nat, 1 ≤ n ∧ n ≤ 9 ∧ evI F (.rng1 (.bin .add (.ct (.int 1)) (.bi .min2 (.cons (.bi .len (.cons (.nm 0) .nil)) (.cons (.ct (.int 8)) .nil))))) (wS ns .un .un .un .un .un .un .un) = .ok (rngD 0 (n : Int), wS ns .un .un .un .un .un .un .un) := by
    refine ⟨1 + min ns.length 8, by omega, by omega, ev_rng1s ?_ (by omega) (by omega)⟩
    have : (if (8 : Int) < ns.length then 8 else (ns.length : Int)) = ((min ns.length 8 : Nat) : Int) := by
      split <;> omega
    simp [wS, isSet, drs, dr, opF, op2, opB, addD]
    exact this
  obtain ⟨s', h1, k, s, t, far, pl, one, oth, h2⟩ := forL_inv (f := forF F (.one 1) wK) (fun i st => ∃ k s t far pl one oth, st = wS ns k s t far pl one oth) (ds := rngD 0 (n : Int)) (s := wS ns .un .un .un .un .un .un .un) 0 ⟨.un, .un, .un, .un, .un, .un, .un, rfl⟩ fun i d' st hd ⟨k, s, t, far, pl, one, oth, e⟩ => by
    subst e
    obtain ⟨j, hj, rfl⟩ := mem_rng (List.mem_of_getElem? hd)
    obtain ⟨s2, t2, far2, pl2, one2, oth2, e⟩ := wK_run c ns (k := j) (by omega) s t far pl one oth
    exact ⟨_, .inl e, .va (.int j), s2, t2, far2, pl2, one2, oth2, rfl⟩
  subst h2
  exact ⟨k, s, t, far, pl, one, oth, fors_nx hn2 h1⟩
end K02
namespace K02
open PySem Mi
abbrev WF : Nat := 1000
theorem at_ {n k : Nat} {f : FnI} {ps : List Sl} {ob : List Ob} {r : Rc} (h : Γ[k]? = some f) (e : runF (fhOf Γ WF n) f ps ob = r) : (fhOf Γ WF (n + 1)).run k ps ob = r := (callM_at h).trans e
theorem num_ok (n : Nat) : NumOk (fhOf Γ WF (n + 1)) 0 := fun v a b ob hv => at_ (k := 0) (f := t_is_number) rfl (number_run (fhOf Γ WF n) hv a b ob)
theorem nu_ok (n : Nat) : NuOk (fhOf Γ WF (n + 1)) 0 := ⟨rfl, num_ok n⟩
theorem ro_ok (n : Nat) : RowOk (fhOf Γ WF (n + 2)) 1 := fun L m v z a b ob hv hL => at_ (k := 1) (f := t_is_row_of 0) rfl (Mi.row_run (fhOf Γ WF (n + 1)) (num_ok n) hv hL z a b ob)
theorem gd_ok (n : Nat) : GdOk (fhOf Γ WF (n + 3)) 2 := ⟨rfl, fun L m v ob hv hL => at_ (k := 2) (f := t_is_good_table 1) rfl (good_run (fhOf Γ WF (n + 2)) (ro_ok n) hv hL ob)⟩
theorem nt_ok (n : Nat) : NtOk (fhOf Γ WF (n + 4)) 3 0 := ⟨rfl, fun L m v ob hv hL => at_ (k := 3) (f := tt_need_table 2 0) rfl (needtable_run (fhOf Γ WF (n + 3)) (gd_ok n) hv hL ob)⟩
theorem np_ok (n : Nat) : NpOk (fhOf Γ WF (n + 2)) 4 1 := ⟨rfl, fun m M v ob hv => at_ (k := 4) (f := tt_need_place 0 1) rfl (needplace_run (fhOf Γ WF (n + 1)) (nu_ok n) m M hv ob)⟩
theorem ns_ok (n : Nat) : NsOk (fhOf Γ WF (n + 2)) 5 2 := ⟨rfl, fun m L d M v ob hv hL => at_ (k := 5) (f := tt_need_places 0 0 2) rfl (needplaces_run (fhOf Γ WF (n + 1)) (nu_ok n) m M hv hL ob)⟩
theorem tu_ok (n : Nat) : TuOk (fhOf Γ WF (n + 1)) 6 := ⟨rfl, fun m b p M ob hM hb hm hp => at_ (k := 6) (f := t_turned_at) rfl (turned_run (fhOf Γ WF n) hM hb hm hp ob)⟩
theorem lt_ok (n : Nat) : TuOk (fhOf Γ WF (n + 1)) 17 := ⟨rfl, fun m b p M ob hM hb hm hp => at_ (k := 17) (f := t_law_turned) rfl (lawturned_run (fhOf Γ WF n) hM hb hm hp ob)⟩
theorem rw_ok (n : Nat) : RwOk (fhOf Γ WF (n + 2)) 7 := ⟨rfl, fun m b M M2 ob hm hM hb => at_ (k := 7) (f := t_row_to 6) rfl (by rw [row_eq]; exact K02.row_run (fhOf Γ WF (n + 1)) (tu_ok n) false hm M M2 hM hb ob)⟩
theorem ll_ok (n : Nat) : RwOk (fhOf Γ WF (n + 2)) 18 := ⟨rfl, fun m b M M2 ob hm hM hb => at_ (k := 18) (f := t_law_led 17) rfl (by rw [led_eq]; exact K02.row_run (fhOf Γ WF (n + 1)) (lt_ok n) true hm M M2 hM hb ob)⟩
theorem tp_ok (n : Nat) : TpOk (fhOf Γ WF (n + 5)) 8 := ⟨rfl, fun m p M ob g hp => at_ (k := 8) (f := t_turned 3 4 6) rfl (turnedP_run (fhOf Γ WF (n + 4)) (nt_ok n) (np_ok (n + 2)) (tu_ok (n + 3)) g hp ob), fun m M v ob g hv hb => at_ (k := 8) (f := t_turned 3 4 6) rfl (turnedP_place (fhOf Γ WF (n + 4)) (nt_ok n) (np_ok (n + 2)) g hv hb ob), fun L m T v ob hT hL hb => at_ (k := 8) (f := t_turned 3 4 6) rfl (turnedP_table (fhOf Γ WF (n + 4)) (nt_ok n) hT hL hb ob)⟩
theorem tb_ok (n : Nat) : TbOk (fhOf Γ WF (n + 5)) 9 := ⟨rfl, fun m M ps ob g hl hp => at_ (k := 9) (f := t_turned_by 3 5 6) rfl (turnedby_run (fhOf Γ WF (n + 4)) (nt_ok n) (ns_ok (n + 2)) (tu_ok (n + 3)) g hl hp ob), fun m L d M v ob g hv hL hb => at_ (k := 9) (f := t_turned_by 3 5 6) rfl (turnedby_places (fhOf Γ WF (n + 4)) (nt_ok n) (ns_ok (n + 2)) g hv hL hb ob)⟩
theorem le_ok (n : Nat) : LeOk (fhOf Γ WF (n + 5)) 10 := ⟨rfl, fun m M M2 ob hm g g2 => at_ (k := 10) (f := t_led 3 7) rfl (led_run (fhOf Γ WF (n + 4)) (nt_ok n) (rw_ok (n + 2)) hm g g2 ob), fun m m2 M M2 ob hm g g2 => at_ (k := 10) (f := t_led 3 7) rfl (led_unlike (fhOf Γ WF (n + 4)) (nt_ok n) hm g g2 ob), fun L m T v ob hT hL hb => at_ (k := 10) (f := t_led 3 7) rfl (led_table1 (fhOf Γ WF (n + 4)) (nt_ok n) hT hL hb ob), fun m L d M T ob g hT hL hb => at_ (k := 10) (f := t_led 3 7) rfl (led_table2 (fhOf Γ WF (n + 4)) (nt_ok n) g hT hL hb ob)⟩
theorem draw_ok (n : Nat) : DrawOk (fhOf Γ WF (n + 1)) 12 := ⟨rfl, fun x m ob h0 h1 => by
  obtain ⟨r, y, a, b, e⟩ := draw_run (fhOf Γ WF n) x h0 h1 ob
  exact ⟨r, y, a, b, at_ (k := 12) (f := t_law_draw) rfl e⟩⟩
theorem by_ok (n : Nat) : ByOk (fhOf Γ WF (n + 1)) 14 := ⟨rfl, fun m h es ob hm hh hes => by
  obtain ⟨M, a, b, e⟩ := tableby_run (fhOf Γ WF n) hm hh hes (.ow (.lst es)) (.inr rfl) ob
  exact ⟨M, a, b, at_ (k := 14) (f := t_law_table_by) rfl e⟩⟩
theorem ta_ok (n : Nat) : TaOk (fhOf Γ WF (n + 2)) 15 := ⟨rfl, fun x m h ob h0 h1 h2 => by
  obtain ⟨k, M, y, a, b, c, d, e⟩ := table_run (draw_ok n) (by_ok n) x h0 h1 h2 ob
  exact ⟨k, M, y, a, b, c, d, at_ (k := 15) (f := t_law_table 12 14) rfl e⟩⟩
theorem pl_ok (n : Nat) : PlOk (fhOf Γ WF (n + 2)) 16 := ⟨rfl, fun x m most ob h0 h1 h2 => by
  obtain ⟨ps, y, a, b, e⟩ := places_run (fhOf Γ WF (n + 1)) (draw_ok n) x h0 h1 h2 ob
  exact ⟨ps, y, a, b, at_ (k := 16) (f := t_law_places 12) rfl e⟩⟩
abbrev F39 : Fh := fhOf Γ WF 39
theorem low_eq (n : Nat) : (fhOf Γ WF (n + 2)).low = ⟨(fhOf Γ WF n).asg, (fhOf Γ WF n).run, noRun, false, WF⟩ := rfl
theorem low_tp (n : Nat) : TpOk (fhOf Γ WF (n + 7)).low 8 := ⟨rfl, (tp_ok n).run, (tp_ok n).place, (tp_ok n).table⟩
theorem low_tb (n : Nat) : TbOk (fhOf Γ WF (n + 7)).low 9 := ⟨rfl, (tb_ok n).run, (tb_ok n).places⟩
theorem low_le (n : Nat) : LeOk (fhOf Γ WF (n + 7)).low 10 := ⟨rfl, (le_ok n).run, (le_ok n).unlike, (le_ok n).table1, (le_ok n).table2⟩
theorem lw_ok (n : Nat) : Lw (fhOf Γ WF (n + 7)) 8 9 10 := ⟨by simp [fhOf], low_tp n, low_tb n, low_le n⟩
theorem cs39 : Cs F39 where
  src := fun ns k ob hk => by
    obtain ⟨y, e⟩ := source_run (fhOf Γ WF 38) ns hk ob
    exact ⟨y, at_ (k := 11) (f := t_law_source) rfl e⟩
  srA := rfl
  ta := ta_ok 37
  rigA := rfl
  rig := fun x n M ob g => by
    obtain ⟨y, e⟩ := K02.right_run (fhOf Γ WF 38) (kt := 8) (kl := 17) (kp := 16) (kb := 9) (tp_ok 33) (lt_ok 37) (pl_ok 36) (tb_ok 33) x g ob
    exact ⟨y, at_ (k := 20) (f := t_law_right 8 17 16 9) rfl e⟩
  pl := pl_ok 37
  lt := lt_ok 38
  grA := rfl
  gr := fun n M h1 hn => by
    obtain ⟨g, a, e⟩ := K02.great_run (fhOf Γ WF 38) h1 hn M
    exact ⟨g, a, fun ob => at_ (k := 19) (f := t_law_great) rfl (e ob)⟩
  le := le_ok 34
  ll := ll_ok 37
  rfA := rfl
  rf := fun n M ob g => at_ (k := 21) (f := t_law_refused 8 9 10) rfl (refused_run (lw_ok 31) g ob)
  dp := rfl
  lo := low_le 32
end K02
namespace K02
open PySem Mi
def wE : Sms := (.cons (.unp [6, 7, 8, 9] (.call 13 .nil))
  (.cons (.ifs (.bor (.cmp .ne (.call 8 (.cons (.nm 6) (.cons (.ct (.int 0)) .nil))) (.tup (.cons (.tup (.cons (.ct (.int 0)) (.cons (.neg (.ct (.int 1))) .nil))) (.cons (.tup (.cons (.ct (.int 1)) (.cons (.ct (.int 0)) .nil))) .nil)))) (.cmp .ne (.call 8 (.cons (.nm 8) (.cons (.ct (.int 0)) .nil))) (.tup (.cons (.tup (.cons (.ct (.int 0)) (.cons (.neg (.ct (.int 2))) (.cons (.ct (.int 2)) .nil)))) (.cons (.tup (.cons (.ct (.int 2)) (.cons (.ct (.int 0)) (.cons (.neg (.ct (.int 2))) .nil)))) (.cons (.tup (.cons (.neg (.ct (.int 2))) (.cons (.ct (.int 2)) (.cons (.ct (.int 0)) .nil)))) .nil)))))) (.cons (.ret false (.ct (.bl false)))
    .nil) .nil)
  (.cons (.ifs (.cmp .ne (.call 8 (.cons (.tup (.cons (.tup (.cons (.ct (.int 0)) (.cons (.ct (.int 1)) (.cons (.ct (.int 0)) .nil)))) (.cons (.tup (.cons (.neg (.ct (.int 1))) (.cons (.ct (.int 0)) (.cons (.ct (.int 1)) .nil)))) (.cons (.tup (.cons (.ct (.int 0)) (.cons (.neg (.ct (.int 1))) (.cons (.ct (.int 0)) .nil)))) .nil)))) (.cons (.ct (.int 1)) .nil))) (.tup (.cons (.tup (.cons (.ct (.int 0)) (.cons (.neg (.ct (.int 1))) (.cons (.ct (.int 1)) .nil)))) (.cons (.tup (.cons (.ct (.int 1)) (.cons (.ct (.int 0)) (.cons (.neg (.ct (.int 1))) .nil)))) (.cons (.tup (.cons (.neg (.ct (.int 1))) (.cons (.ct (.int 1)) (.cons (.ct (.int 0)) .nil)))) .nil))))) (.cons (.ret false (.ct (.bl false)))
    .nil) .nil)
  (.cons (.ifs (.bor (.cmp .ne (.call 9 (.cons (.nm 6) (.cons (.tup (.cons (.ct (.int 0)) (.cons (.ct (.int 1)) .nil))) .nil))) (.nm 6)) (.bor (.cmp .ne (.call 9 (.cons (.nm 8) (.cons (.tup .nil) .nil))) (.nm 8)) (.cmp .ne (.call 10 (.cons (.nm 6) (.cons (.nm 6) .nil))) (.tup .nil)))) (.cons (.ret false (.ct (.bl false)))
    .nil) .nil)
  (.cons (.ifs (.bor (.cmp .ne (.call 10 (.cons (.nm 6) (.cons (.call 8 (.cons (.nm 6) (.cons (.ct (.int 1)) .nil))) .nil))) (.tup (.cons (.ct (.int 0)) .nil))) (.cmp .ne (.call 10 (.cons (.nm 8) (.cons (.call 8 (.cons (.nm 8) (.cons (.ct (.int 2)) .nil))) .nil))) (.tup (.cons (.ct (.int 0)) .nil)))) (.cons (.ret false (.ct (.bl false)))
    .nil) .nil)
  (.cons (.ret false (.band (.cmp .is (.call 10 (.cons (.nm 6) (.cons (.nm 7) .nil))) (.ct .non)) (.cmp .eq (.call 10 (.cons (.nm 9) (.cons (.call 9 (.cons (.nm 9) (.cons (.tup (.cons (.ct (.int 1)) (.cons (.ct (.int 2)) (.cons (.ct (.int 3)) .nil)))) .nil))) .nil))) (.tup (.cons (.ct (.int 0)) .nil)))))
  .nil))))))
theorem law_eq : f22 = ⟨1, 12, [false], .cons wL wE⟩ := rfl
def isT : Out → Bool
  | .rt (.bl true) _ _ => true
  | _ => false
theorem wE_run (ns : List Int) (k s t far pl one oth : Sl) : isT (evSs F39 wE (wS ns k s t far pl one oth)) = true := by
  kernel_rfl
theorem run (ns : List Int) : ∃ own outs obs, callM Γ 1000 40 kLaw [.va (.scr ns)] [] = .ok (.bl true) own outs obs := by
  obtain ⟨k, s, t, far, pl, one, oth, e1⟩ := wL_run cs39 ns
  have e2 := wE_run ns k s t far pl one oth
  unfold isT at e2
  split at e2
  · rename_i o s' e3
    have e3 : evSs F39 wE (wS ns k s t far pl one oth) = .rt (.bl true) o s' := e3
    refine ⟨o, outsF [false] (s'.sl.take 1), s'.ob, (callM_at (Γ := Γ) (wf := 1000) (n := 39) (k := 22) (f := f22) rfl).trans ?_⟩
    have e4 := runF_rt (F := F39) (f := f22) (ps := [.va (.scr ns)]) (ob := []) (s := wS ns .un .un .un .un .un .un .un) (s' := s') (d := .bl true) (o := o) rfl rfl ((ss_nx e1).trans e3)
    exact e4
  · cases e2
end K02
namespace K02
open PySem Mi PySem.W PySem.Calls PyProof.Rows
abbrev R : OpenRow := OpenLaw.row PySem.Challenge.rw_staywhole_k02_whole_tables_turned
def fa : List He.Fa := faS S "WholeError"
def tfl : List He.Defn := S.l.map fun x => (x, none)
abbrev hk : Hook := He.hookX 5 fa (ds ++ wds) [] tfl (exB S "WholeError")
def ob (s : SharedT) : He.AlX := He.obsX 5 fa (ds ++ wds) [] tfl (exB S "WholeError") (HandSHeadRun.getT s)
theorem ob_eq (s : SharedT) : ob s = hk.obs s.abs := He.obsX_eq (HandSHeadRun.getT_eq s)
theorem run_top (w : World) : HandSHeadRun.RunEq R (view R.prog [lawTop]) hk ob 2000 loose w := by
  intro os
  kernel_rfl
end K02
open PySem PySem.W PySem.Calls PyProof.Rows
theorem K02.holds (run : ∀ ns : List Int, ns.length ≤ 63 → (∀ z ∈ ns, Builtin.Int.intBits z ≤ 1048576) → ∃ own outs obs, Mi.callM K02.Γ 1000 40 K02.kLaw [.va (.scr ns)] [] = .ok (.bl true) own outs obs) : PySem.Challenge.rw_staywhole_k02_whole_tables_turned.Holds := by
  w_on; o_law
  refine HandSHeadRun.head_any (r := OpenLaw.row PySem.Challenge.rw_staywhole_k02_whole_tables_turned) (q := view (OpenLaw.row PySem.Challenge.rw_staywhole_k02_whole_tables_turned).prog [K02.lawTop]) (H := K02.hk) (ob := K02.ob) (M := 2000) (loose := K02.loose) (d := HandSHeadRun.topDef (OpenLaw.row PySem.Challenge.rw_staywhole_k02_whole_tables_turned).prog K02.lawTop) (kwd := []) K02.ob_eq
    (by kernel_rfl) (fun s => by kernel_rfl) K02.run_top (by kernel_rfl) (by kernel_rfl) (by kernel_rfl) (by rfl) (by first | assumption | decide +kernel) (by decide +kernel) ⟨rfl, rfl, rfl, rfl, rfl, by decide +kernel⟩ ?hw ?hc
  case hw => w_witness2
  case hc =>
    refine Mi.walk_mi (n := 63) (kL := K02.kLaw) (lv := 40) (wf := 1000) (fa := K02.fa) (fun w h Y => Y) rfl (by decide) (by kernel_rfl) (by kernel_rfl) ⟨rfl, by decide, by decide⟩ K02.fits K02.fitsw
      (by decide +kernel) (Mi.faS_asks _ _) rfl rfl rfl rfl run
theorem PySem.Challenge.cw_staywhole_k02_whole_tables_turned_holds : PySem.Challenge.rw_staywhole_k02_whole_tables_turned.Holds :=
  K02.holds fun ns _ _ => K02.run ns
