import PyProof.Rows.All
import Wide.All
import OpenK.AllK
import Wide.FinOn
import HandS.ForMost
import PyProof.ReprBulk
import HandS.Evl
import HandS.TupAny
import HandS.TupMul
import HandS.Exc
import HandS.IsInst
import HandS.SortRule
import HandS.SortInts
import HandS.TupSets
import HandS.Zip
import KE.KTupSum
import HandS.Style
import HandS.Conv
import HandS.WordsExc
import HandS.Defaults
import HandS.Words
import HandS.HeadHook2
import HandS.Ends
import HandS.EndBits
import HandS.Head0
import HandS.Head1
import HandS.Head2
import KE.KStateDown
import PySem.Challenge.RW_throwshelves_k15_whole_free_and_full_str
set_option Elab.async false
set_option linter.all false
set_option maxRecDepth 100000
/-! T5: a small core language over plain data, and its evaluator. -/
namespace T5
open PySem

/-- data: lists within (lst) never change; what may change lies in the store (loc) -/
inductive D where
  | non
  | bl (b : Bool)
  | int (i : Int)
  | str (x : Str)
  | rep (d : D)
  | tup (ds : List D)
  | lst (ds : List D)
  | scr (ds : List D)
  | kt (ds : List D)
  | loc (n : Nat)
  | fn (i : Nat)
  | ty (n : String)

/-- the store's objects -/
inductive SO where
  | lst (ds : List D)
  | dic (kvs : List (L2.Key × D))
abbrev Sto := List SO
abbrev Env := List (Option D)

/-- what an evaluation comes to -/
inductive R (α : Type) where
  | ok (a : α) (s : Sto)
  | err (c : Nat) (ds : List D) (s : Sto)
  | bad
def R.bind {α β : Type} (r : R α) (f : α → Sto → R β) : R β :=
  match r with
  | .ok a s => f a s
  | .err c ds s => .err c ds s
  | .bad => .bad
/-- a plain result, or none -/
def lift {α : Type} (o : Option α) (s : Sto) : R α :=
  match o with
  | some a => .ok a s
  | none => .bad

/-! ### equality of data, kinds of data -/
mutual
def eqD : D → D → Bool
  | .non, .non => true
  | .bl a, .bl b => a == b
  | .int a, .int b => a == b
  | .str a, .str b => decide (a = b)
  | .rep a, .rep b => eqD a b
  | .tup a, .tup b => eqL a b
  | .lst a, .lst b => eqL a b
  | .scr a, .scr b => eqL a b
  | .kt a, .kt b => eqL a b
  | .loc a, .loc b => a == b
  | .fn a, .fn b => a == b
  | .ty a, .ty b => a == b
  | _, _ => false
def eqL : List D → List D → Bool
  | [], [] => true
  | a :: r, b :: t => eqD a b && eqL r t
  | _, _ => false
end
-- no place of the store at n or above
mutual
def clean (n : Nat) : D → Bool
  | .tup ds => cleanL n ds
  | .lst ds => cleanL n ds
  | .scr ds => cleanL n ds
  | .kt ds => cleanL n ds
  | .loc m => Nat.blt m n
  | .rep d => clean n d
  | _ => true
def cleanL (n : Nat) : List D → Bool
  | [] => true
  | d :: r => clean n d && cleanL n r
end
def cleanKv (n : Nat) : List (L2.Key × D) → Bool
  | [] => true
  | p :: r => clean n p.2 && cleanKv n r
def cleanO (n : Nat) : SO → Bool
  | .lst ds => cleanL n ds
  | .dic kvs => cleanKv n kvs
def cleanS (n : Nat) : List SO → Bool
  | [] => true
  | o :: r => cleanO n o && cleanS n r

-- as a datum of the library
mutual
def toP : D → Option PyData
  | .non => some .none
  | .bl b => some (.bool b)
  | .int i => some (.int i)
  | .str x => some (.str x)
  | .tup ds => (toPs ds).map .tuple
  | .lst ds => (toPs ds).map .list
  | _ => none
def toPs : List D → Option (List PyData)
  | [] => some []
  | d :: r => (toP d).bind fun p => (toPs r).map fun ps => p :: ps
end
/-- a == b -/
def eqq (a b : D) : Option Bool :=
  match a, b with
  | .rep x, .rep y => if eqD x y then some true else none
  | .int i, .int j => some (i == j)
  | a, b => (toP a).bind fun p => (toP b).bind fun q => if SeqAt.shaped p && SeqAt.shaped q then some (PyData.eqv p q) else none
/-- a list of the store read -/
def rd (s : Sto) (d : D) : D :=
  match d with
  | .loc n => (match s[n]? with
    | some (.lst ds) => .lst ds
    | _ => d)
  | _ => d
def cap : Nat := 100000
def big64 (i : Int) : Bool := decide (-(2 ^ 64) < i) && decide (i < 2 ^ 64)

inductive BOp where
  | add | sub | mul | fdiv | mod | pow
inductive COp where
  | lt | le | gt | ge | eq | ne | is | isnot | mem | nmem
/-- two-place operations -/
def addD : D → D → Option D
  | .int i, .int j => some (.int (i + j))
  | .tup a, .tup b => if Nat.ble (a.length + b.length) cap then some (.tup (a ++ b)) else none
  | .lst a, .lst b => if Nat.ble (a.length + b.length) cap then some (.lst (a ++ b)) else none
  | _, _ => none
def subD : D → D → Option D
  | .int i, .int j => some (.int (i - j))
  | _, _ => none
def mulD : D → D → Option D
  | .int i, .int j => if big64 i || big64 j then some (.int (i * j)) else none
  | .tup a, .int k => if decide (1 ≤ k) && decide (k ≤ 1000) && Nat.ble a.length 1000 && Nat.blt 0 a.length then some (.tup (List.replicate k.toNat a).flatten) else none
  | .lst a, .int k => if decide (0 ≤ k) && decide (k ≤ 1000) && Nat.ble a.length 1000 then some (.lst (List.replicate k.toNat a).flatten) else none
  | _, _ => none
def fdivD : D → D → Option D
  | .int i, .int j => if decide (0 < j) && decide (j < 1073741824) then some (.int (i / j)) else none
  | _, _ => none
def modD : D → D → Option D
  | .int i, .int j => if decide (0 < j) then some (.int (i % j)) else none
  | _, _ => none
def powD : D → D → Option D
  | .int i, .int j => if decide (0 ≤ j) && decide (j ≤ 1000000) && big64 i then some (.int (i ^ j.toNat)) else none
  | _, _ => none
def binD : BOp → D → D → Option D
  | .add => addD
  | .sub => subD
  | .mul => mulD
  | .fdiv => fdivD
  | .mod => modD
  | .pow => powD
/-- comparisons -/
def ordD (f : Int → Int → Bool) : D → D → Option Bool
  | .int i, .int j => some (f i j)
  | _, _ => none
def cmpD : COp → D → D → Option Bool
  | .lt => ordD fun i j => decide (i < j)
  | .le => ordD fun i j => decide (i ≤ j)
  | .gt => ordD fun i j => decide (j < i)
  | .ge => ordD fun i j => decide (j ≤ i)
  | .eq => eqq
  | .ne => fun a b => (eqq a b).map (! ·)
  | _ => fun _ _ => none

/-- an item -/
def ixD (ds : List D) (i : Int) : Option D := (L2.ixN ds.length i).bind fun j => ds[j]?
def idxD : D → D → Option D
  | .tup ds, .int i => ixD ds i
  | .lst ds, .int i => ixD ds i
  | .scr ds, .int i => ixD ds i
  | _, _ => none
/-- a cut -/
def cutD (ds : List D) (lo hi : Option Int) : List D := (ds.drop (HT.sIx ds.length 0 lo)).take (HT.sIx ds.length ds.length hi - HT.sIx ds.length 0 lo)
def partD : D → Option (Option Int)
  | .non => some none
  | .int i => some (some i)
  | _ => none
def slcD (l h : Option Int) : D → Option D
  | .lst ds => some (.lst (cutD ds l h))
  | .scr ds => some (.lst (cutD ds l h))
  | .tup ds => some (.tup (cutD ds l h))
  | _ => none
def sumD : List D → Option Int
  | [] => some 0
  | .int i :: r => (sumD r).map (i + ·)
  | _ => none
def intsOf : List D → Option (List Int)
  | [] => some []
  | .int i :: r => (intsOf r).map (i :: ·)
  | _ => none
/-- pairs of intsOf -/
def prs : List D → Option (List (Int × Int))
  | [] => some []
  | .tup [.int i, .int j] :: r => (prs r).map ((i, j) :: ·)
  | _ => none
def insI (x : Int) : List Int → List Int
  | [] => [x]
  | y :: r => if x ≤ y then x :: y :: r else y :: insI x r
def srtI : List Int → List Int
  | [] => []
  | x :: r => insI x (srtI r)
def leP (a b : Int × Int) : Bool := decide (a.1 < b.1) || (a.1 == b.1 && decide (a.2 ≤ b.2))
def insP (x : Int × Int) : List (Int × Int) → List (Int × Int)
  | [] => [x]
  | y :: r => if leP x y then x :: y :: r else y :: insP x r
def srtP : List (Int × Int) → List (Int × Int)
  | [] => []
  | x :: r => insP x (srtP r)
def ofI (i : Int) : D := .int i
def ofP (p : Int × Int) : D := .tup [.int p.1, .int p.2]
def srtD (ds : List D) : Option D :=
  match intsOf ds with
  | some ns => some (.lst ((srtI ns).map ofI))
  | none => (match prs ds with
    | some ps => some (.lst ((srtP ps).map ofP))
    | none => none)
def repD (d : D) : Option D :=
  (toP d).bind fun p => if SeqAt.shaped p && p.showable && p.leavesShort 2000 && Nat.ble p.bulk 5000 then some (.rep d) else none
/-- the types that a datum is asked for -/
def tyOk (t : String) : Bool := t == "int" || t == "bool" || t == "str" || t == "tuple" || t == "list"
def isiD (d : D) (t : String) : Option Bool :=
  match d with
  | .non => some (t == "NoneType")
  | .bl _ => some (t == "bool" || t == "int")
  | .int _ => some (t == "int")
  | .str _ => some (t == "str")
  | .tup _ => some (t == "tuple")
  | .lst _ => some (t == "list")
  | _ => none
def rangeD (lo : Int) (n : Nat) : List D := (List.range n).map fun i => .int (lo + (i : Nat))
def okR (i : Int) : Bool := decide (-(2 ^ 60) ≤ i) && decide (i ≤ 2 ^ 60)

inductive Bi where
  | len | sum | int | list | tuple | sorted | lenset | repr | isi
/-- built-ins, by data (lists of the store are read ahead) -/
def lenD : List D → Option D
  | [.tup ds] => some (.int ds.length)
  | [.lst ds] => some (.int ds.length)
  | [.scr ds] => some (.int ds.length)
  | _ => none
def sumB : List D → Option D
  | [.tup ds] => (sumD ds).map .int
  | [.lst ds] => (sumD ds).map .int
  | _ => none
def intB : List D → Option D
  | [.int i] => some (.int i)
  | _ => none
def listB : List D → Option D
  | [.lst ds] => some (.lst ds)
  | [.tup ds] => some (.lst ds)
  | [.scr ds] => some (.lst ds)
  | _ => none
def tupB : List D → Option D
  | [.lst ds] => some (.tup ds)
  | [.tup ds] => some (.tup ds)
  | _ => none
def sortB : List D → Option D
  | [.lst ds] => srtD ds
  | _ => none
def lensetB : List D → Option D
  | [.lst ds] => (intsOf ds).bind fun ns => if Nat.ble ns.length 4000 then some (.int (PyProof.Rows.firstMet (fun i => ns.getD i 0) ns.length).length) else none
  | _ => none
def reprB : List D → Option D
  | [.tup ds] => repD (.tup ds)
  | [.lst ds] => repD (.lst ds)
  | _ => none
def isiB : List D → Option D
  | [d, .ty t] => if tyOk t then (isiD d t).map .bl else none
  | _ => none
def biD : Bi → List D → Option D
  | .len => lenD
  | .sum => sumB
  | .int => intB
  | .list => listB
  | .tuple => tupB
  | .sorted => sortB
  | .lenset => lensetB
  | .repr => reprB
  | .isi => isiB

mutual
inductive CE where
  | var (i : Nat)
  | con (d : D)
  | bin (op : BOp) (a b : CE)
  | neg (a : CE)
  | cmp (op : COp) (a b : CE)
  | and (a b : CE)
  | or (a b : CE)
  | not (a : CE)
  | ite (c a b : CE)
  | tup (es : CEs)
  | lst (es : CEs)
  | dic (ks : List L2.Key) (es : CEs)
  | box (e : CE)
  | idx (a i : CE)
  | asInt (a : CE)
  | slc (a lo hi : CE)
  | call (f : Nat) (src : List (Nat ⊕ D)) (es ks : CEs)
  | bi (b : Bi) (es : CEs)
  | rng1 (a : CE)
  | rng2 (a b : CE)
  | lr1 (a : CE)
  | lr2 (a b : CE)
  | lc (own : List Nat) (tg : List Nat) (e : CE) (it : CE) (c : CE)
  | bad
inductive CEs where
  | nil
  | cons (e : CE) (es : CEs)
end

/-- dicts in the store -/
def look (k : L2.Key) : List (L2.Key × D) → Option D
  | [] => none
  | p :: r => if decide (p.1 = k) then some p.2 else look k r
def put (k : L2.Key) (d : D) : List (L2.Key × D) → List (L2.Key × D)
  | [] => [(k, d)]
  | p :: r => if decide (p.1 = k) then (k, d) :: r else p :: put k d r
def keyOf : D → Option L2.Key
  | .int i => some (.inl i)
  | .str x => some (.inr x)
  | _ => none
/-- a[i], a perhaps of the store -/
def getD (s : Sto) (a i : D) : Option D :=
  match a with
  | .loc n => (match s[n]? with
    | some (.lst ds) => idxD (.lst ds) i
    | some (.dic kvs) => (keyOf i).bind fun k => look k kvs
    | none => none)
  | _ => idxD a i
/-- a[i] = v -/
def setD (s : Sto) (a i v : D) : Option Sto :=
  match a with
  | .loc n => (match s[n]? with
    | some (.lst ds) => (match i with
      | .int j => (L2.ixN ds.length j).map fun k => s.set n (.lst (ds.set k v))
      | _ => none)
    | some (.dic kvs) => (keyOf i).bind fun k => if Nat.blt kvs.length cap then some (s.set n (.dic (put k v kvs))) else none
    | none => none)
  | _ => none
def seqOf : D → Option (List D)
  | .tup ds => some ds
  | .lst ds => some ds
  | _ => none
/-- the slots of a target -/
def setTg (env : Env) (tg : List Nat) (d : D) : Option Env :=
  match tg with
  | [i] => some (env.set i (some d))
  | _ => (match d with
    | .tup ds => if Nat.beq ds.length tg.length then some ((tg.zip ds).foldl (fun e p => e.set p.1 (some p.2)) env) else none
    | _ => none)
def wipeE (env : Env) : List Nat → Env
  | [] => env
  | v :: vs => (wipeE env vs).set v none
def arr (src : List (Nat ⊕ D)) (ds : List D) : Option (List D) :=
  match src with
  | [] => some []
  | .inl j :: r => (ds[j]?).bind fun d => (arr r ds).map (d :: ·)
  | .inr d :: r => (arr r ds).map (d :: ·)
/-- a comprehension's turns -/
def lcL (f : D → Sto → R (Option D)) : List D → List D → Sto → R (List D)
  | [], acc, s => .ok acc.reverse s
  | x :: r, acc, s => (f x s).bind fun o s1 => match o with
    | some d => if Nat.blt acc.length cap then lcL f r (d :: acc) s1 else .bad
    | none => lcL f r acc s1
/-- nothing is raised within -/
def R.calm {α : Type} (r : R α) : R α :=
  match r with
  | .err _ _ _ => .bad
  | r => r

abbrev Calls := Nat → List D → Sto → R D
mutual
def evE (cl : Calls) : CE → Env → Sto → R D
  | .var i, env, s => (match env[i]? with
    | some (some d) => .ok d s
    | _ => .bad)
  | .con d, _, s => .ok d s
  | .bin op a b, env, s => (evE cl a env s).bind fun x s1 => (evE cl b env s1).bind fun y s2 => lift (binD op (rd s2 x) (rd s2 y)) s2
  | .neg a, env, s => (evE cl a env s).bind fun x s1 => (match x with
    | .int i => .ok (.int (-i)) s1
    | _ => .bad)
  | .cmp op a b, env, s => (evE cl a env s).bind fun x s1 => (evE cl b env s1).bind fun y s2 => lift ((cmpD op (rd s2 x) (rd s2 y)).map .bl) s2
  | .and a b, env, s => (evE cl a env s).bind fun x s1 => (match x with
    | .bl true => evE cl b env s1
    | .bl false => .ok (.bl false) s1
    | _ => .bad)
  | .or a b, env, s => (evE cl a env s).bind fun x s1 => (match x with
    | .bl true => .ok (.bl true) s1
    | .bl false => evE cl b env s1
    | _ => .bad)
  | .not a, env, s => (evE cl a env s).bind fun x s1 => (match x with
    | .bl c => .ok (.bl (!c)) s1
    | _ => .bad)
  | .ite c a b, env, s => (evE cl c env s).bind fun x s1 => (match x with
    | .bl true => evE cl a env s1
    | .bl false => evE cl b env s1
    | _ => .bad)
  | .tup es, env, s => (evEs cl es env s).bind fun ds s1 => if Nat.ble ds.length cap then .ok (.tup ds) s1 else .bad
  | .lst es, env, s => (evEs cl es env s).bind fun ds s1 => if Nat.ble ds.length cap then .ok (.lst ds) s1 else .bad
  | .dic ks es, env, s => (evEs cl es env s).bind fun ds s1 => if Nat.beq ks.length ds.length && Nat.ble ks.length 15 then .ok (.loc s1.length) (s1 ++ [.dic ((ks.zip ds).foldl (fun m p => put p.1 p.2 m) [])]) else .bad
  | .box e, env, s => (evE cl e env s).bind fun d s1 => (match d with
    | .lst ds => .ok (.loc s1.length) (s1 ++ [.lst ds])
    | _ => .bad)
  | .idx a i, env, s => (evE cl a env s).bind fun x s1 => (evE cl i env s1).bind fun y s2 => lift (getD s2 x y) s2
  | .asInt a, env, s => (evE cl a env s).bind fun x s1 => (match x with
    | .int i => .ok (.int i) s1
    | _ => .bad)
  | .slc a lo hi, env, s => (evE cl a env s).bind fun x s1 => (evE cl lo env s1).bind fun l s2 => (match partD l with
    | some l' => (evE cl hi env s2).bind fun h s3 => (match partD h with
      | some h' => lift (slcD l' h' (rd s3 x)) s3
      | none => .bad)
    | none => .bad)
  | .call f src es ks, env, s => (evEs cl es env s).bind fun ds s1 => (evEs cl ks env s1).bind fun ds2 s2 => (match arr src (ds ++ ds2) with
    | some as => cl f as s2
    | none => .bad)
  | .bi b es, env, s => (evEs cl es env s).bind fun ds s1 => lift (biD b (ds.map (rd s1))) s1
  | .rng1 a, env, s => (evE cl a env s).bind fun x s1 => (match x with
    | .int n => if okR n then .ok (.lst (rangeD 0 n.toNat)) s1 else .bad
    | _ => .bad)
  | .rng2 a b, env, s => (evE cl a env s).bind fun x s1 => (evE cl b env s1).bind fun y s2 => (match x, y with
    | .int i, .int j => if okR i && okR j then .ok (.lst (rangeD i (j - i).toNat)) s2 else .bad
    | _, _ => .bad)
  | .lr1 a, env, s => (evE cl a env s).bind fun x s1 => (match x with
    | .int n => if decide (n ≤ 100000) && decide (-100000 ≤ n) then .ok (.lst (rangeD 0 n.toNat)) s1 else .bad
    | _ => .bad)
  | .lr2 a b, env, s => (evE cl a env s).bind fun x s1 => (evE cl b env s1).bind fun y s2 => (match x, y with
    | .int i, .int j => if decide (i ≤ 100000) && decide (-100000 ≤ i) && (decide (j ≤ 100000) && decide (-100000 ≤ j)) then .ok (.lst (rangeD i (j - i).toNat)) s2 else .bad
    | _, _ => .bad)
  | .lc own tg e it c, env, s => (evE cl it env s).bind fun x s1 => (match seqOf x with
    | some items => (lcL (fun y s2 => (match setTg (wipeE env own) tg y with
        | some env2 => (evE cl c env2 s2).bind fun b s3 => (match b with
          | .bl true => (evE cl e env2 s3).bind fun d s4 => .ok (some d) s4
          | .bl false => .ok none s3
          | _ => .bad)
        | none => .bad)) items [] s1).calm.bind fun ds s5 => .ok (.lst ds) s5
    | none => .bad)
  | .bad, _, _ => .bad
def evEs (cl : Calls) : CEs → Env → Sto → R (List D)
  | .nil, _, s => .ok [] s
  | .cons e es, env, s => (evE cl e env s).bind fun d s1 => (evEs cl es env s1).bind fun ds s2 => .ok (d :: ds) s2
end

/-! ### statements -/
inductive SR where
  | nx (env : Env) (s : Sto)
  | rt (d : D) (s : Sto)
  | bk (env : Env) (s : Sto)
  | ct (env : Env) (s : Sto)
  | err (c : Nat) (ds : List D) (env : Env) (s : Sto)
  | bad
def R.thn {α : Type} (r : R α) (env : Env) (f : α → Sto → SR) : SR :=
  match r with
  | .ok a s => f a s
  | .err c ds s => .err c ds env s
  | .bad => .bad
def SR.seq (r : SR) (f : Env → Sto → SR) : SR :=
  match r with
  | .nx env s => f env s
  | r => r
mutual
inductive CS where
  | asg (tg : List Nat) (e : CE)
  | par (is : List Nat) (es : CEs)
  | setI (a i e : CE)
  | app (a e : CE)
  | expr (e : CE)
  | ret (e : CE)
  | iff (c : CE) (t u : CSs)
  | loop (tg : List Nat) (it : CE) (b : CSs)
  | whl (c : CE) (b : CSs)
  | brk
  | cnt
  | pass
  | bad
inductive CSs where
  | nil
  | cons (c : CS) (cs : CSs)
end
def forL (f : D → Env → Sto → SR) : List D → Env → Sto → SR
  | [], env, s => .nx env s
  | x :: r, env, s => (match f x env s with
    | .nx env1 s1 => forL f r env1 s1
    | .ct env1 s1 => forL f r env1 s1
    | .bk env1 s1 => .nx env1 s1
    | q => q)
def whlL (c : Env → Sto → R D) (f : Env → Sto → SR) : Nat → Env → Sto → SR
  | 0, _, _ => .bad
  | n + 1, env, s => (c env s).thn env fun b s1 => (match b with
    | .bl true => (match f env s1 with
      | .nx env1 s2 => whlL c f n env1 s2
      | .ct env1 s2 => whlL c f n env1 s2
      | .bk env1 s2 => .nx env1 s2
      | q => q)
    | .bl false => .nx env s1
    | _ => .bad)
def setAll (env : Env) : List Nat → List D → Option Env
  | [], [] => some env
  | i :: r, d :: t => setAll (env.set i (some d)) r t
  | _, _ => none
/-- a list of the store -/
def isLL (s : Sto) (a : D) : Bool :=
  match a with
  | .loc n => (match s[n]? with
    | some (.lst _) => true
    | _ => false)
  | _ => false
def appD (s : Sto) (a v : D) : Option Sto :=
  match a with
  | .loc n => (match s[n]? with
    | some (.lst ds) => if Nat.blt ds.length cap then some (s.set n (.lst (ds ++ [v]))) else none
    | _ => none)
  | _ => none
mutual
def evS (cl : Calls) : CS → Env → Sto → SR
  | .asg tg e, env, s => (evE cl e env s).thn env fun d s1 => (match setTg env tg d with
    | some env1 => .nx env1 s1
    | none => .bad)
  | .par is es, env, s => (evEs cl es env s).thn env fun ds s1 => (match setAll env is ds with
    | some env1 => .nx env1 s1
    | none => .bad)
  | .setI a i e, env, s => (evE cl e env s).thn env fun v s1 => (evE cl a env s1).thn env fun x s2 => (evE cl i env s2).thn env fun y s3 => (match setD s3 x y v with
    | some s4 => .nx env s4
    | none => .bad)
  | .app a e, env, s => (evE cl a env s).thn env fun x s1 => if isLL s1 x then (evE cl e env s1).thn env fun v s2 => (match appD s2 x v with
    | some s3 => .nx env s3
    | none => .bad) else .bad
  | .expr e, env, s => (evE cl e env s).thn env fun _ s1 => .nx env s1
  | .ret e, env, s => (evE cl e env s).thn env fun d s1 => .rt d s1
  | .iff c t u, env, s => (evE cl c env s).thn env fun b s1 => (match b with
    | .bl true => evSs cl t env s1
    | .bl false => evSs cl u env s1
    | _ => .bad)
  | .loop tg it b, env, s => (evE cl it env s).thn env fun x s1 => (match seqOf x with
    | some items => forL (fun y env1 s2 => (match setTg env1 tg y with
      | some env2 => evSs cl b env2 s2
      | none => .bad)) items env s1
    | none => .bad)
  | .whl c b, env, s => whlL (evE cl c) (evSs cl b) 100000 env s
  | .brk, env, s => .bk env s
  | .cnt, env, s => .ct env s
  | .pass, env, s => .nx env s
  | .bad, _, _ => .bad
def evSs (cl : Calls) : CSs → Env → Sto → SR
  | .nil, env, s => .nx env s
  | .cons c cs, env, s => (evS cl c env s).seq fun env1 s1 => evSs cl cs env1 s1
end

/-! ### defs -/
structure Fd where
  par : Nat
  slots : Nat
  keep : Bool
  body : CSs
/-- behind a def: what it made in the store is dropped; a list that it hands out is frozen -/
def fz (n : Nat) (s : Sto) (d : D) : R D :=
  if cleanS n (s.take n) then
    (match d with
    | .loc m => if Nat.blt m n then .ok d (s.take n) else (match s[m]? with
      | some (.lst ds) => if cleanL n ds then .ok (.lst ds) (s.take n) else .bad
      | _ => .bad)
    | d => if clean n d then .ok d (s.take n) else .bad)
  else .bad
def endF (keep : Bool) (n : Nat) : SR → R D
  | .nx _ s => if keep then .ok .non s else fz n s .non
  | .rt d s => if keep then .ok d s else fz n s d
  | .err c ds _ s => if cleanS n (s.take n) && cleanL n ds then .err c ds (s.take n) else .bad
  | _ => .bad
def run (F : List Fd) : Nat → Calls
  | 0, _, _, _ => .bad
  | k + 1, i, ds, s => (match F[i]? with
    | some f => if Nat.beq ds.length f.par then endF f.keep s.length (evSs (run F k) f.body (ds.map some ++ List.replicate (f.slots - f.par) none) s) else .bad
    | none => .bad)
end T5

set_option Elab.async false
set_option linter.all false
set_option maxRecDepth 100000
/-! T5: how data lie in the abstract heap. -/
namespace T5
open PySem PySem.Spec L2
open Evl (Ex)

/-- where the defs and the error classes stand; the classes' fields -/
structure Tb where
  fn : Nat → Addr
  cl : Nat → Addr
  fl : Nat → List Str

mutual
def Rp (K : PySem.W.Frag) (T : Tb) (r : List Addr) (G : Hp) : D → V → Prop
  | .non, v => v = .non
  | .bl b, v => v = .bl b
  | .int i, v => v = .int i
  | .str x, v => v = .str x
  | .rep d, v => ∃ p, toP d = some p ∧ v = .str p.shown
  | .tup ds, v => ∃ a xs, v = .ref a ∧ G a = some (.tup xs) ∧ RpL K T r G ds xs
  | .kt ds, v => ∃ a xs, v = .ref a ∧ SqT K G a xs ∧ RpL K T r G ds xs
  | .lst ds, v => ∃ a xs, v = .ref a ∧ G a = some (.lst xs) ∧ RpL K T r G ds xs
  | .scr ds, v => ∃ a xs, v = .ref a ∧ SqL K G a xs ∧ RpL K T r G ds xs
  | .loc n, v => ∃ a, v = .ref a ∧ r[n]? = some a
  | .fn i, v => v = .ref (T.fn i)
  | .ty n, v => v = .ty n
def RpL (K : PySem.W.Frag) (T : Tb) (r : List Addr) (G : Hp) : List D → List V → Prop
  | [], vs => vs = []
  | d :: ds, vs => ∃ v t, vs = v :: t ∧ Rp K T r G d v ∧ RpL K T r G ds t
end

section
variable {K : PySem.W.Frag} {T : Tb} {r r' : List Addr} {G G' H H' : Hp}
theorem RpL.nil : RpL K T r G [] [] := by unfold RpL; rfl
theorem RpL.cons {d : D} {ds : List D} {v : V} {vs : List V} (h : Rp K T r G d v) (t : RpL K T r G ds vs) : RpL K T r G (d :: ds) (v :: vs) := by
  unfold RpL
  exact ⟨v, vs, rfl, h, t⟩
theorem RpL.nil_inv {vs : List V} (h : RpL K T r G [] vs) : vs = [] := by unfold RpL at h; exact h
theorem RpL.cons_inv {d : D} {ds : List D} {vs : List V} (h : RpL K T r G (d :: ds) vs) : ∃ v t, vs = v :: t ∧ Rp K T r G d v ∧ RpL K T r G ds t := by unfold RpL at h; exact h
theorem RpL.length : ∀ {ds : List D} {vs : List V}, RpL K T r G ds vs → vs.length = ds.length
  | [], vs, h => by rw [h.nil_inv]; rfl
  | d :: ds, vs, h => by
    obtain ⟨v, t, rfl, _, ht⟩ := h.cons_inv
    simp [RpL.length ht]
theorem RpL.get : ∀ {ds : List D} {vs : List V} {i : Nat} {d : D}, RpL K T r G ds vs → ds[i]? = some d → ∃ v, vs[i]? = some v ∧ Rp K T r G d v
  | [], _, _, _, _, e => by simp at e
  | d :: ds, vs, 0, x, h, e => by
    obtain ⟨v, t, rfl, h1, _⟩ := h.cons_inv
    simp at e
    subst e
    exact ⟨v, rfl, h1⟩
  | d :: ds, vs, i + 1, x, h, e => by
    obtain ⟨v, t, rfl, _, h2⟩ := h.cons_inv
    obtain ⟨w, e1, e2⟩ := RpL.get (i := i) (d := x) h2 (by simpa using e)
    exact ⟨w, by simpa using e1, e2⟩
theorem RpL.getV : ∀ {ds : List D} {vs : List V} {i : Nat} {v : V}, RpL K T r G ds vs → vs[i]? = some v → ∃ d, ds[i]? = some d ∧ Rp K T r G d v
  | [], _, _, _, h, e => by rw [h.nil_inv] at e; simp at e
  | d :: ds, vs, 0, x, h, e => by
    obtain ⟨v, t, rfl, h1, _⟩ := h.cons_inv
    simp at e
    subst e
    exact ⟨d, rfl, h1⟩
  | d :: ds, vs, i + 1, x, h, e => by
    obtain ⟨v, t, rfl, _, h2⟩ := h.cons_inv
    obtain ⟨w, e1, e2⟩ := RpL.getV (i := i) (v := x) h2 (by simpa using e)
    exact ⟨w, by simpa using e1, e2⟩
theorem RpL.append : ∀ {ds es : List D} {vs ws : List V}, RpL K T r G ds vs → RpL K T r G es ws → RpL K T r G (ds ++ es) (vs ++ ws)
  | [], _, vs, _, h, k => by rw [h.nil_inv]; exact k
  | d :: ds, es, vs, ws, h, k => by
    obtain ⟨v, t, rfl, h1, h2⟩ := h.cons_inv
    exact .cons h1 (RpL.append h2 k)
theorem RpL.take : ∀ {ds : List D} {vs : List V} (n : Nat), RpL K T r G ds vs → RpL K T r G (ds.take n) (vs.take n)
  | _, _, 0, _ => by simpa using RpL.nil
  | [], vs, n + 1, h => by rw [h.nil_inv]; simpa using RpL.nil
  | d :: ds, vs, n + 1, h => by
    obtain ⟨v, t, rfl, h1, h2⟩ := h.cons_inv
    exact .cons h1 (RpL.take n h2)
theorem RpL.drop : ∀ {ds : List D} {vs : List V} (n : Nat), RpL K T r G ds vs → RpL K T r G (ds.drop n) (vs.drop n)
  | _, _, 0, h => h
  | [], vs, n + 1, h => by rw [h.nil_inv]; simpa using RpL.nil
  | d :: ds, vs, n + 1, h => by
    obtain ⟨v, t, rfl, h1, h2⟩ := h.cons_inv
    simpa using RpL.drop n h2
theorem RpL.set : ∀ {ds : List D} {vs : List V} {d : D} {v : V} (n : Nat), RpL K T r G ds vs → Rp K T r G d v → RpL K T r G (ds.set n d) (vs.set n v)
  | [], vs, _, _, n, h, _ => by rw [h.nil_inv]; simpa using RpL.nil
  | d :: ds, vs, _, _, 0, h, k => by
    obtain ⟨v, t, rfl, _, h2⟩ := h.cons_inv
    exact .cons k h2
  | d :: ds, vs, _, _, n + 1, h, k => by
    obtain ⟨v, t, rfl, h1, h2⟩ := h.cons_inv
    exact .cons h1 (RpL.set n h2 k)
theorem RpL.snoc {ds : List D} {vs : List V} {d : D} {v : V} (h : RpL K T r G ds vs) (k : Rp K T r G d v) : RpL K T r G (ds ++ [d]) (vs ++ [v]) := h.append (.cons k .nil)
theorem RpL.rep {ds : List D} {vs : List V} (h : RpL K T r G ds vs) : ∀ n : Nat, RpL K T r G (List.replicate n ds).flatten (List.replicate n vs).flatten
  | 0 => by simpa using RpL.nil
  | n + 1 => by
    rw [List.replicate_succ, List.replicate_succ, List.flatten_cons, List.flatten_cons]
    exact h.append (RpL.rep h n)

/-! ### more is known -/
def Pre (r r' : List Addr) : Prop := ∀ (n : Nat) (a : Addr), r[n]? = some a → r'[n]? = some a
theorem Pre.refl : Pre r r := fun _ _ h => h
theorem Pre.trans {r'' : List Addr} (a : Pre r r') (b : Pre r' r'') : Pre r r'' := fun n x h => b n x (a n x h)
theorem ex_T {a : Addr} {xs : List V} (e : Ex G G') (h : SqT K G a xs) : SqT K G' a xs := Evl.ex_t e h
mutual
theorem Rp.mono (p : Pre r r') (e : Ex G G') : ∀ {d : D} {v : V}, Rp K T r G d v → Rp K T r' G' d v
  | .non, _, h => by unfold Rp at h ⊢; exact h
  | .bl _, _, h => by unfold Rp at h ⊢; exact h
  | .int _, _, h => by unfold Rp at h ⊢; exact h
  | .str _, _, h => by unfold Rp at h ⊢; exact h
  | .rep _, _, h => by unfold Rp at h ⊢; exact h
  | .tup ds, _, h => by
    unfold Rp at h ⊢
    obtain ⟨a, xs, e1, e2, e3⟩ := h
    exact ⟨a, xs, e1, e _ _ e2, RpL.mono p e e3⟩
  | .kt ds, _, h => by
    unfold Rp at h ⊢
    obtain ⟨a, xs, e1, e2, e3⟩ := h
    exact ⟨a, xs, e1, Evl.ex_t e e2, RpL.mono p e e3⟩
  | .lst ds, _, h => by
    unfold Rp at h ⊢
    obtain ⟨a, xs, e1, e2, e3⟩ := h
    exact ⟨a, xs, e1, e _ _ e2, RpL.mono p e e3⟩
  | .scr ds, _, h => by
    unfold Rp at h ⊢
    obtain ⟨a, xs, e1, e2, e3⟩ := h
    exact ⟨a, xs, e1, Evl.ex_l e e2, RpL.mono p e e3⟩
  | .loc n, _, h => by
    unfold Rp at h ⊢
    obtain ⟨a, e1, e2⟩ := h
    exact ⟨a, e1, p _ _ e2⟩
  | .fn _, _, h => by unfold Rp at h ⊢; exact h
  | .ty _, _, h => by unfold Rp at h ⊢; exact h
theorem RpL.mono (p : Pre r r') (e : Ex G G') : ∀ {ds : List D} {vs : List V}, RpL K T r G ds vs → RpL K T r' G' ds vs
  | [], _, h => by unfold RpL at h ⊢; exact h
  | d :: ds, _, h => by
    unfold RpL at h ⊢
    obtain ⟨v, t, e1, e2, e3⟩ := h
    exact ⟨v, t, e1, Rp.mono p e e2, RpL.mono p e e3⟩
end
-- the store cut off: data that do not reach beyond stay
mutual
theorem Rp.cut {n : Nat} (hr : ∀ (m : Nat) (a : Addr), m < n → r[m]? = some a → r'[m]? = some a) : ∀ {d : D} {v : V}, clean n d = true → Rp K T r G d v → Rp K T r' G d v
  | .non, _, _, h => by unfold Rp at h ⊢; exact h
  | .bl _, _, _, h => by unfold Rp at h ⊢; exact h
  | .int _, _, _, h => by unfold Rp at h ⊢; exact h
  | .str _, _, _, h => by unfold Rp at h ⊢; exact h
  | .rep _, _, _, h => by unfold Rp at h ⊢; exact h
  | .tup ds, _, c, h => by
    unfold Rp at h ⊢
    unfold clean at c
    obtain ⟨a, xs, e1, e2, e3⟩ := h
    exact ⟨a, xs, e1, e2, RpL.cut hr c e3⟩
  | .lst ds, _, c, h => by
    unfold Rp at h ⊢
    unfold clean at c
    obtain ⟨a, xs, e1, e2, e3⟩ := h
    exact ⟨a, xs, e1, e2, RpL.cut hr c e3⟩
  | .kt ds, _, c, h => by
    unfold Rp at h ⊢
    unfold clean at c
    obtain ⟨a, xs, e1, e2, e3⟩ := h
    exact ⟨a, xs, e1, e2, RpL.cut hr c e3⟩
  | .scr ds, _, c, h => by
    unfold Rp at h ⊢
    unfold clean at c
    obtain ⟨a, xs, e1, e2, e3⟩ := h
    exact ⟨a, xs, e1, e2, RpL.cut hr c e3⟩
  | .loc m, _, c, h => by
    unfold Rp at h ⊢
    unfold clean at c
    obtain ⟨a, e1, e2⟩ := h
    exact ⟨a, e1, hr m a (Nat.lt_of_succ_le (Nat.le_of_ble_eq_true c)) e2⟩
  | .fn _, _, _, h => by unfold Rp at h ⊢; exact h
  | .ty _, _, _, h => by unfold Rp at h ⊢; exact h
theorem RpL.cut {n : Nat} (hr : ∀ (m : Nat) (a : Addr), m < n → r[m]? = some a → r'[m]? = some a) : ∀ {ds : List D} {vs : List V}, cleanL n ds = true → RpL K T r G ds vs → RpL K T r' G ds vs
  | [], _, _, h => by unfold RpL at h ⊢; exact h
  | d :: ds, _, c, h => by
    unfold RpL at h ⊢
    unfold cleanL at c
    obtain ⟨v, t, e1, e2, e3⟩ := h
    have c' := Bool.and_eq_true_iff.mp c
    exact ⟨v, t, e1, Rp.cut hr c'.1 e2, RpL.cut hr c'.2 e3⟩
end

/-! ### the store -/
def KvR (K : PySem.W.Frag) (T : Tb) (r : List Addr) (G : Hp) : List (L2.Key × D) → List (L2.Key × V) → Prop
  | [], ws => ws = []
  | p :: t, ws => ∃ q s, ws = q :: s ∧ q.1 = p.1 ∧ Rp K T r G p.2 q.2 ∧ KvR K T r G t s
def ObjR (K : PySem.W.Frag) (T : Tb) (r : List Addr) (G : Hp) (o : Option HO) : SO → Prop
  | .lst ds => ∃ xs, o = some (.lst xs) ∧ RpL K T r G ds xs
  | .dic kvs => ∃ ws, o = some (.dK ws) ∧ KvR K T r G kvs ws ∧ (kvs.map (·.1)).Nodup
theorem KvR.mono (p : Pre r r') (e : Ex G G') : ∀ {l : List (L2.Key × D)} {ws : List (L2.Key × V)}, KvR K T r G l ws → KvR K T r' G' l ws
  | [], _, h => h
  | _ :: _, _, ⟨q, s, e1, e2, e3, e4⟩ => ⟨q, s, e1, e2, e3.mono p e, KvR.mono p e e4⟩
theorem KvR.cut {n : Nat} (hr : ∀ (m : Nat) (a : Addr), m < n → r[m]? = some a → r'[m]? = some a) : ∀ {l : List (L2.Key × D)} {ws : List (L2.Key × V)}, cleanKv n l = true → KvR K T r G l ws → KvR K T r' G l ws
  | [], _, _, h => h
  | _ :: _, _, c, ⟨q, s, e1, e2, e3, e4⟩ => by
    have c' := Bool.and_eq_true_iff.mp (show (_ && _) = true from c)
    exact ⟨q, s, e1, e2, e3.cut hr c'.1, KvR.cut hr c'.2 e4⟩
theorem ObjR.mono {o : Option HO} (p : Pre r r') (e : Ex G G') : ∀ {so : SO}, ObjR K T r G o so → ObjR K T r' G' o so
  | .lst _, ⟨xs, h1, h2⟩ => ⟨xs, h1, h2.mono p e⟩
  | .dic _, ⟨ws, h1, h2, h3⟩ => ⟨ws, h1, h2.mono p e, h3⟩
theorem ObjR.cut {o : Option HO} {n : Nat} (hr : ∀ (m : Nat) (a : Addr), m < n → r[m]? = some a → r'[m]? = some a) : ∀ {so : SO}, cleanO n so = true → ObjR K T r G o so → ObjR K T r' G o so
  | .lst _, c, ⟨xs, h1, h2⟩ => ⟨xs, h1, h2.cut hr c⟩
  | .dic _, c, ⟨ws, h1, h2, h3⟩ => ⟨ws, h1, h2.cut hr c, h3⟩

theorem KvR.keys : ∀ {l : List (L2.Key × D)} {ws : List (L2.Key × V)}, KvR K T r G l ws → ws.map (·.1) = l.map (·.1)
  | [], ws, h => by
    have h : ws = [] := h
    rw [h]
    rfl
  | p :: l, ws, ⟨q, s, e1, e2, _, e4⟩ => by
    rw [e1, List.map_cons, List.map_cons, e2, KvR.keys e4]

/-- the store lies in the heap; what never changes lies in G -/
structure Gd (K : PySem.W.Frag) (T : Tb) (r : List Addr) (G H : Hp) (s : Sto) : Prop where
  sub : ∀ a o, G a = some o → H a = some o
  off : ∀ a ∈ r, G a = none
  len : r.length = s.length
  nd : r.Nodup
  obj : ∀ (n : Nat) (a : Addr) (so : SO), r[n]? = some a → s[n]? = some so → ObjR K T r G (H a) so
/-- from one state to a later one -/
structure Le (r : List Addr) (G H : Hp) (r' : List Addr) (G' H' : Hp) : Prop where
  pre : Pre r r'
  fr : ∀ a ∈ r', a ∈ r ∨ H a = none
  ex : Ex G G'
  kp : ∀ a o, a ∉ r → H a = some o → H' a = some o
  st : ∀ a, H' a = none → H a = none
  nw : ∀ a o, G' a = some o → G a = some o ∨ H a = none
theorem Le.refl : Le r G H r G H := ⟨.refl, fun _ h => .inl h, fun _ _ h => h, fun _ _ _ h => h, fun _ h => h, fun _ _ h => .inl h⟩
theorem Le.out (l : Le r G H r' G' H') {a : Addr} {o : HO} (ha : a ∉ r) (h : H a = some o) : a ∉ r' := fun z => by
  rcases l.fr a z with z | z
  · exact ha z
  · rw [h] at z; cases z
theorem Le.trans {r'' : List Addr} {G'' H'' : Hp} (a : Le r G H r' G' H') (b : Le r' G' H' r'' G'' H'') : Le r G H r'' G'' H'' where
  pre := a.pre.trans b.pre
  fr := fun x hx => by
    rcases b.fr x hx with z | z
    · exact a.fr x z
    · exact .inr (a.st x z)
  ex := a.ex.trans b.ex
  kp := fun x o hx h => b.kp x o (a.out hx h) (a.kp x o hx h)
  st := fun x h => a.st x (b.st x h)
  nw := fun x o h => by
    rcases b.nw x o h with z | z
    · exact a.nw x o z
    · exact .inr (a.st x z)
theorem Rp.le {d : D} {v : V} (l : Le r G H r' G' H') (h : Rp K T r G d v) : Rp K T r' G' d v := h.mono l.pre l.ex
theorem RpL.le {ds : List D} {vs : List V} (l : Le r G H r' G' H') (h : RpL K T r G ds vs) : RpL K T r' G' ds vs := h.mono l.pre l.ex

/-! ### slots -/
def EnvR (K : PySem.W.Frag) (T : Tb) (r : List Addr) (G : Hp) (σ : St) (env : Env) : Prop :=
  σ.length = env.length ∧ ∀ (i : Nat) (d : D), env[i]? = some (some d) → ∃ v, σ[i]? = some (some v) ∧ Rp K T r G d v
theorem EnvR.le {σ : St} {env : Env} (l : Le r G H r' G' H') (h : EnvR K T r G σ env) : EnvR K T r' G' σ env :=
  ⟨h.1, fun i d e => let ⟨v, e1, e2⟩ := h.2 i d e; ⟨v, e1, e2.le l⟩⟩
theorem EnvR.set {σ : St} {env : Env} {d : D} {v : V} (h : EnvR K T r G σ env) (i : Nat) (k : Rp K T r G d v) : EnvR K T r G (σ.set i (some v)) (env.set i (some d)) := by
  refine ⟨by simpa using h.1, fun j x e => ?_⟩
  by_cases hj : i = j
  · subst hj
    by_cases hi : i < env.length
    · rw [List.getElem?_set_self hi] at e
      cases e
      exact ⟨v, List.getElem?_set_self (by rw [h.1]; exact hi), k⟩
    · rw [List.getElem?_eq_none (by simpa using hi)] at e
      cases e
  · rw [List.getElem?_set_ne hj] at e
    obtain ⟨w, e1, e2⟩ := h.2 j x e
    exact ⟨w, by rw [List.getElem?_set_ne hj]; exact e1, e2⟩
theorem EnvR.wipe {σ : St} {env : Env} (h : EnvR K T r G σ env) : ∀ vs : List Nat, EnvR K T r G (L2.wipe σ vs) (wipeE env vs)
  | [] => h
  | v :: vs => by
    have ih := EnvR.wipe h vs
    unfold L2.wipe wipeE
    refine ⟨by simpa using ih.1, fun j x e => ?_⟩
    by_cases hj : v = j
    · subst hj
      by_cases hi : v < (wipeE env vs).length
      · rw [List.getElem?_set_self hi] at e; cases e
      · rw [List.getElem?_eq_none (by simpa using hi)] at e; cases e
    · rw [List.getElem?_set_ne hj] at e
      obtain ⟨w, e1, e2⟩ := ih.2 j x e
      exact ⟨w, by rw [List.getElem?_set_ne hj]; exact e1, e2⟩
end
end T5

set_option Elab.async false
set_option linter.all false
set_option maxRecDepth 100000
/-! T5: readings by the evaluator; expressions. -/
namespace T5
open PySem PySem.Spec L2
open Evl (Ex)

theorem imp_e {X : Cx} {e : Expr} {t u : TE} (h : PE X e t) (i : ∀ σ H Q, u σ H Q → t σ H Q) : PE X e u := ⟨fun pins s σ H Q I q => h.run pins s σ H Q I (i σ H Q q)⟩
theorem imp_t {X : Cx} {e : Expr} {t u : TT} (h : PT X e t) (i : ∀ σ H Q, u σ H Q → t σ H Q) : PT X e u := ⟨fun pins s σ H Q I q => h.run pins s σ H Q I (i σ H Q q)⟩
theorem imp_w {X : Cx} {e : Expr} {t u : TT} (h : PW X e t) (i : ∀ σ H Q, u σ H Q → t σ H Q) : PW X e u := ⟨fun wh pins s σ H Q I q => h.run wh pins s σ H Q I (i σ H Q q)⟩
theorem imp_a {X : Cx} {es : List Expr} {t u : TA} (h : PA X es t) (i : ∀ σ H Q, u σ H Q → t σ H Q) : PA X es u := ⟨fun p pins s σ H Q I q => h.run p pins s σ H Q I (i σ H Q q)⟩
theorem imp_s {X : Cx} {st : Stmt} {t u : TS} (h : PS X st t) (i : ∀ D σ H, u D σ H → t D σ H) : PS X st u := ⟨fun pins s σ H D I q => h.run pins s σ H D I (i D σ H q)⟩
theorem imp_ss {X : Cx} {st : List Stmt} {t u : TS} (h : PSs X st t) (i : ∀ D σ H, u D σ H → t D σ H) : PSs X st u := ⟨fun pins s σ H D I q => h.run pins s σ H D I (i D σ H q)⟩
/-- either rule -/
theorem or_e {X : Cx} {e : Expr} {t u : TE} (h : PE X e t) (k : PE X e u) : PE X e (fun σ H Q => t σ H Q ∨ u σ H Q) := ⟨fun pins s σ H Q I q => q.elim (h.run pins s σ H Q I) (k.run pins s σ H Q I)⟩
theorem or_s {X : Cx} {st : Stmt} {t u : TS} (h : PS X st t) (k : PS X st u) : PS X st (fun D σ H => t D σ H ∨ u D σ H) := ⟨fun pins s σ H D I q => q.elim (h.run pins s σ H D I) (k.run pins s σ H D I)⟩
theorem or_op {X : Cx} {f : Value → Value → Sem Value} {r q : R2} (h : OpR X f r) (k : OpR X f q) : OpR X f (fun x y H Q => r x y H Q ∨ q x y H Q) := fun pins s σ H x y v u Q I rx ry z => z.elim (h pins s σ H x y v u Q I rx ry) (k pins s σ H x y v u Q I rx ry)
theorem or_c {X : Cx} {f : Value} {r q : List V → Hp → VK → Prop} (h : CallR X f r) (k : CallR X f q) : CallR X f (fun x H Q => r x H Q ∨ q x H Q) := fun pins s σ H xs us Q I rx z => z.elim (h pins s σ H xs us Q I rx) (k pins s σ H xs us Q I rx)
theorem false_e {X : Cx} {e : Expr} : PE X e (fun _ _ _ => False) := ⟨fun _ _ _ _ _ _ q => q.elim⟩
theorem false_t {X : Cx} {e : Expr} : PT X e (fun _ _ _ => False) := ⟨fun _ _ _ _ _ _ q => q.elim⟩
theorem false_s {X : Cx} {st : Stmt} : PS X st (fun _ _ _ => False) := ⟨fun _ _ _ _ _ _ q => q.elim⟩
theorem false_a {X : Cx} {es : List Expr} : PA X es (fun _ _ _ => False) := ⟨fun _ _ _ _ _ _ _ q => q.elim⟩

section
variable (K : PySem.W.Frag) (T : Tb)
/-- an exception of the text's own, by its class and fields -/
def ErrR (r : List Addr) (G H : Hp) (cv : Value) (dd : Option Addr) (c : Nat) (ds : List D) : Prop :=
  cv = .ref (T.cl c) ∧ ∃ a fs vs, dd = some a ∧ H a = some (.xd fs) ∧ RpL K T r G ds vs ∧ vs.length = (T.fl c).length ∧ ∀ (i : Nat) (f : Str) (v : V), (T.fl c)[i]? = some f → vs[i]? = some v → fs.lookup f = some v
/-- what is wanted of an outcome -/
def Out {α β : Type} (RR : List Addr → Hp → α → β → Prop) (W : WX) (σ : St) (Q : β → Hp → Prop) (r : List Addr) (G H : Hp) : R α → Prop
  | .ok x s => ∀ y r' G' H', Le r G H r' G' H' → Gd K T r' G' H' s → RR r' G' x y → Q y H'
  | .err c ds s => ∀ cv dd r' G' H', Le r G H r' G' H' → Gd K T r' G' H' s → ErrR K T r' G' H' cv dd c ds → W cv dd σ H'
  | .bad => False
def rB : List Addr → Hp → D → Bool → Prop := fun _ _ d b => d = .bl b
/-- the reading of an evaluation -/
def Rdg {α β : Type} (RR : List Addr → Hp → α → β → Prop) (W : WX) (ev : Env → Sto → R α) : St → Hp → (β → Hp → Prop) → Prop :=
  fun σ H Q => ∃ env s r G, Gd K T r G H s ∧ EnvR K T r G σ env ∧ Out K T RR W σ Q r G H (ev env s)
abbrev tE (W : WX) (cl : Calls) (c : CE) : TE := Rdg K T (Rp K T) W (evE cl c)
abbrev tT (W : WX) (cl : Calls) (c : CE) : TT := Rdg K T rB W (evE cl c)
abbrev tL (W : WX) (cl : Calls) (c : CEs) : TA := Rdg K T (RpL K T) W (evEs cl c)
end

section
variable {K : PySem.W.Frag} {T : Tb} {α β γ δ : Type} {RR : List Addr → Hp → α → β → Prop} {RS : List Addr → Hp → γ → δ → Prop} {W : WX} {σ : St} {Q : β → Hp → Prop} {r r' : List Addr} {G G' H H' : Hp}
theorem Out.le {o : R α} (l : Le r G H r' G' H') (h : Out K T RR W σ Q r G H o) : Out K T RR W σ Q r' G' H' o := by
  cases o with
  | ok x s => exact fun y r2 G2 H2 l2 g q => h y r2 G2 H2 (l.trans l2) g q
  | err c ds s => exact fun cv dd r2 G2 H2 l2 g q => h cv dd r2 G2 H2 (l.trans l2) g q
  | bad => exact h
/-- one evaluation, then another -/
theorem rdg_bind {env : Env} {s : Sto} {ev : Env → Sto → R γ} {f : γ → Sto → R α} {Q1 : δ → Hp → Prop} (g : Gd K T r G H s) (e : EnvR K T r G σ env) (h : Out K T RR W σ Q r G H ((ev env s).bind f))
    (k : ∀ x y r' G' H' s', Le r G H r' G' H' → Gd K T r' G' H' s' → EnvR K T r' G' σ env → RS r' G' x y → Out K T RR W σ Q r' G' H' (f x s') → Q1 y H') : Rdg K T RS W ev σ H Q1 := by
  refine ⟨env, s, r, G, g, e, ?_⟩
  cases hq : ev env s with
  | ok x s1 =>
    rw [hq] at h
    exact fun y r2 G2 H2 l2 g2 q => k x y r2 G2 H2 s1 l2 g2 (e.le l2) q (Out.le l2 h)
  | err c ds s1 =>
    rw [hq] at h
    exact h
  | bad =>
    rw [hq] at h
    exact h.elim
theorem out_lift {o : Option α} {s : Sto} (h : Out K T RR W σ Q r G H (lift o s)) : ∃ x, o = some x ∧ Out K T RR W σ Q r G H (.ok x s) := by
  cases o with
  | none => exact h.elim
  | some x => exact ⟨x, rfl, h⟩
/-- the end, nothing changed -/
theorem Out.here {x : α} {y : β} {s : Sto} (h : Out K T RR W σ Q r G H (.ok x s)) (g : Gd K T r G H s) (q : RR r G x y) : Q y H := h y r G H Le.refl g q
end

theorem nodup_at {α : Type} : ∀ {l : List α} {i j : Nat} {x : α}, l.Nodup → l[i]? = some x → l[j]? = some x → i = j
  | [], _, _, _, _, h, _ => by simp at h
  | _ :: _, 0, 0, _, _, _, _ => rfl
  | a :: l, 0, j + 1, x, nd, h1, h2 => by
    simp at h1 h2
    subst h1
    exact absurd (List.mem_of_getElem? h2) (List.nodup_cons.mp nd).1
  | a :: l, i + 1, 0, x, nd, h1, h2 => by
    simp at h1 h2
    subst h2
    exact absurd (List.mem_of_getElem? h1) (List.nodup_cons.mp nd).1
  | a :: l, i + 1, j + 1, x, nd, h1, h2 => by
    simp at h1 h2
    rw [nodup_at (List.nodup_cons.mp nd).2 h1 h2]

/-! ### a new object that never changes -/
section
variable {K : PySem.W.Frag} {T : Tb} {r : List Addr} {G H : Hp} {s : Sto} {p : Addr}
theorem Gd.not_in (g : Gd K T r G H s) (hp : H p = none) : p ∉ r := fun z => by
  obtain ⟨n, hn⟩ := List.getElem?_of_mem z
  have hlt : n < s.length := by
    have := (List.getElem?_eq_some_iff.mp hn).1
    rw [g.len] at this
    exact this
  have ho := g.obj n p s[n] hn (List.getElem?_eq_getElem hlt)
  rw [hp] at ho
  cases hs : s[n] with
  | lst ds =>
    rw [hs] at ho
    obtain ⟨_, e, _⟩ := ho
    cases e
  | dic kvs =>
    rw [hs] at ho
    obtain ⟨_, e, _⟩ := ho
    cases e
theorem Gd.g_none (g : Gd K T r G H s) (hp : H p = none) : G p = none := by
  cases q : G p with
  | none => rfl
  | some o =>
    rw [g.sub p o q] at hp
    cases hp
theorem ex_upd {o : HO} (hp : G p = none) : Ex G (upd G p o) := Evl.Ex.new hp
theorem le_new (g : Gd K T r G H s) (hp : H p = none) (o : HO) : Le r G H r (upd G p o) (upd H p o) where
  pre := .refl
  fr := fun _ h => .inl h
  ex := ex_upd (g.g_none hp)
  kp := fun a o' ha h => by
    rw [upd_ne (ne_of_none h hp)]
    exact h
  st := fun a h => by
    by_cases e : a = p
    · rw [e]; exact hp
    · rw [upd_ne e] at h; exact h
  nw := fun a o' h => by
    by_cases e : a = p
    · exact .inr (by rw [e]; exact hp)
    · rw [upd_ne e] at h; exact .inl h
theorem Gd.new (g : Gd K T r G H s) (hp : H p = none) (o : HO) : Gd K T r (upd G p o) (upd H p o) s where
  sub := fun a o' h => by
    by_cases e : a = p
    · subst e
      rw [upd_same] at h ⊢
      exact h
    · rw [upd_ne e] at h ⊢
      exact g.sub a o' h
  off := fun a ha => by
    have e : a ≠ p := fun z => g.not_in hp (z ▸ ha)
    rw [upd_ne e]
    exact g.off a ha
  len := g.len
  nd := g.nd
  obj := fun n a so h1 h2 => by
    have e : a ≠ p := fun z => g.not_in hp (z ▸ List.mem_of_getElem? h1)
    rw [upd_ne e]
    exact (g.obj n a so h1 h2).mono .refl (ex_upd (g.g_none hp))
/-- .. an object of the store more -/
theorem le_box (g : Gd K T r G H s) (hp : H p = none) (o : HO) : Le r G H (r ++ [p]) G (upd H p o) where
  pre := fun n a h => by
    have := (List.getElem?_eq_some_iff.mp h).1
    rw [List.getElem?_append_left this]
    exact h
  fr := fun a h => by
    rcases List.mem_append.mp h with z | z
    · exact .inl z
    · exact .inr (by rw [List.mem_singleton.mp z]; exact hp)
  ex := fun _ _ h => h
  kp := fun a o' ha h => by
    rw [upd_ne (ne_of_none h hp)]
    exact h
  st := fun a h => by
    by_cases e : a = p
    · rw [e]; exact hp
    · rw [upd_ne e] at h; exact h
  nw := fun a o' h => .inl h
theorem Gd.box (g : Gd K T r G H s) (hp : H p = none) {o : HO} {so : SO} (h : ObjR K T r G (some o) so) : Gd K T (r ++ [p]) G (upd H p o) (s ++ [so]) := by
  have l := le_box g hp o
  refine ⟨fun a o' q => ?_, fun a ha => ?_, by simp [g.len], ?_, fun n a so' h1 h2 => ?_⟩
  · exact l.kp a o' (fun z => by rw [g.off a z] at q; cases q) (g.sub a o' q)
  · rcases List.mem_append.mp ha with z | z
    · exact g.off a z
    · rw [List.mem_singleton.mp z]
      exact g.g_none hp
  · rw [List.nodup_append]
    refine ⟨g.nd, by simp, fun a ha b hb e => ?_⟩
    rw [List.mem_singleton.mp hb] at e
    exact g.not_in hp (e ▸ ha)
  · by_cases hn : n < r.length
    · rw [List.getElem?_append_left hn] at h1
      rw [List.getElem?_append_left (by rw [← g.len]; exact hn)] at h2
      have e : a ≠ p := fun z => g.not_in hp (z ▸ List.mem_of_getElem? h1)
      rw [upd_ne e]
      exact (g.obj n a so' h1 h2).mono l.pre l.ex
    · have hl := (List.getElem?_eq_some_iff.mp h1).1
      rw [List.length_append, List.length_singleton] at hl
      have en : n = r.length := by omega
      subst en
      rw [List.getElem?_append_right (Nat.le_refl _), Nat.sub_self] at h1
      rw [g.len, List.getElem?_append_right (Nat.le_refl _), Nat.sub_self] at h2
      cases h1
      cases h2
      rw [upd_same]
      exact h.mono l.pre l.ex
/-- an object of the store changed -/
theorem le_put (g : Gd K T r G H s) (hp : p ∈ r) (o : HO) : Le r G H r G (upd H p o) where
  pre := .refl
  fr := fun _ h => .inl h
  ex := fun _ _ h => h
  kp := fun a o' ha h => by
    have ne : a ≠ p := fun z => ha (by rw [z]; exact hp)
    rw [upd_ne ne]
    exact h
  st := fun a h => by
    by_cases e : a = p
    · subst e
      rw [upd_same] at h
      cases h
    · rw [upd_ne e] at h; exact h
  nw := fun a o' h => .inl h
theorem Gd.put (g : Gd K T r G H s) {n : Nat} (hp : r[n]? = some p) {o : HO} {so : SO} (h : ObjR K T r G (some o) so) : Gd K T r G (upd H p o) (s.set n so) := by
  have hm : p ∈ r := List.mem_of_getElem? hp
  refine ⟨fun a o' q => ?_, g.off, by simpa using g.len, g.nd, fun m a so' h1 h2 => ?_⟩
  · have e : a ≠ p := fun z => by
      rw [z, g.off p hm] at q
      cases q
    rw [upd_ne e]
    exact g.sub a o' q
  · by_cases e : n = m
    · subst e
      rw [hp] at h1
      cases h1
      have hl : n < s.length := by
        rw [← g.len]
        exact (List.getElem?_eq_some_iff.mp hp).1
      rw [List.getElem?_set_self hl] at h2
      cases h2
      rw [upd_same]
      exact h
    · rw [List.getElem?_set_ne e] at h2
      have ne : a ≠ p := fun z => by
        subst z
        exact e (nodup_at g.nd hp h1)
      rw [upd_ne ne]
      exact g.obj m a so' h1 h2
/-- what a place of the store holds -/
theorem Gd.at (g : Gd K T r G H s) {n : Nat} {so : SO} (h : s[n]? = some so) : ∃ a, r[n]? = some a ∧ a ∈ r ∧ ObjR K T r G (H a) so := by
  have hl : n < r.length := by
    rw [g.len]
    exact (List.getElem?_eq_some_iff.mp h).1
  exact ⟨r[n], List.getElem?_eq_getElem hl, List.getElem_mem hl, g.obj n r[n] so (List.getElem?_eq_getElem hl) h⟩
end

/-! ### reading -/
section
variable {K : PySem.W.Frag} {T : Tb} {r : List Addr} {G H : Hp} {s : Sto}
/-- a value that may be read: a list of the store, too -/
def Rr (K : PySem.W.Frag) (T : Tb) (r : List Addr) (G H : Hp) (d : D) (v : V) : Prop :=
  match d with
  | .lst ds => ∃ a xs, v = .ref a ∧ H a = some (.lst xs) ∧ RpL K T r G ds xs
  | d => Rp K T r G d v
theorem Rr.of (g : Gd K T r G H s) {d : D} {v : V} (h : Rp K T r G d v) : Rr K T r G H d v := by
  cases d <;> first | exact h | skip
  unfold Rp at h
  obtain ⟨a, xs, e1, e2, e3⟩ := h
  exact ⟨a, xs, e1, g.sub _ _ e2, e3⟩
theorem Rr.rd (g : Gd K T r G H s) {d : D} {v : V} (h : Rp K T r G d v) : Rr K T r G H (rd s d) v := by
  cases d <;> first | exact Rr.of g h | skip
  rename_i n
  have h0 := h
  unfold Rp at h
  obtain ⟨a, rfl, e⟩ := h
  show Rr K T r G H (match s[n]? with | some (.lst ds) => .lst ds | _ => .loc n) _
  cases hs : s[n]? with
  | none => exact h0
  | some so =>
    cases so with
    | lst ds =>
      obtain ⟨xs, e1, e2⟩ := g.obj n a _ e hs
      exact ⟨a, xs, rfl, e1, e2⟩
    | dic kvs => exact h0
theorem rp_int {i : Int} {v : V} (h : Rp K T r G (.int i) v) : v = .int i := by unfold Rp at h; exact h
theorem rp_bl {b : Bool} {v : V} (h : Rp K T r G (.bl b) v) : v = .bl b := by unfold Rp at h; exact h
theorem rp_tup {ds : List D} {v : V} (h : Rp K T r G (.tup ds) v) : ∃ a xs, v = .ref a ∧ G a = some (.tup xs) ∧ RpL K T r G ds xs := by unfold Rp at h; exact h
theorem rp_scr {ds : List D} {v : V} (h : Rp K T r G (.scr ds) v) : ∃ a xs, v = .ref a ∧ SqL K G a xs ∧ RpL K T r G ds xs := by unfold Rp at h; exact h
theorem of_int (i : Int) : Rp K T r G (.int i) (.int i) := by unfold Rp; rfl
theorem of_bl (b : Bool) : Rp K T r G (.bl b) (.bl b) := by unfold Rp; rfl
theorem of_tup {ds : List D} {a : Addr} {xs : List V} (h : G a = some (.tup xs)) (k : RpL K T r G ds xs) : Rp K T r G (.tup ds) (.ref a) := by unfold Rp; exact ⟨a, xs, rfl, h, k⟩
theorem of_lst {ds : List D} {a : Addr} {xs : List V} (h : G a = some (.lst xs)) (k : RpL K T r G ds xs) : Rp K T r G (.lst ds) (.ref a) := by unfold Rp; exact ⟨a, xs, rfl, h, k⟩
theorem Gd.exH (g : Gd K T r G H s) : Ex G H := g.sub
end
end T5

set_option Elab.async false
set_option linter.all false
set_option maxRecDepth 100000
set_option maxHeartbeats 4000000
/-! T5: rules of our own over the layer: t * 1; repr of data. -/
namespace T5
open PySem PySem.Spec PyProof.Rows L2
theorem tuple_same (l : Addr) (its : Array Value) (n : Nat) (dd : Option Addr) (sl : Array (Option Value)) (x : Int) (u : Tok)
    (c0 : (decide (x < -(2 ^ 63)) || decide (x ≥ 2 ^ 63)) = false) (c1 : (its.isEmpty || x == 1) = true) :
    Meets (Builtin.«tuple.__mul__» ⟨[.ref l, .int x u], []⟩) (fun _ R s => s.heap.get? l = some { cls := .type "tuple", dict := dd, data := .seq its n, slots := sl } ∧ R (.ok (.ret (Value.ref l))) s) :=
  .of_wp fun prog w A R s h => by
    obtain ⟨hp, g, d, tk, os⟩ := s
    obtain ⟨hl, h⟩ := h
    have f1 := AutoSeq1.idx_int
    wp_walk using wpAny_loadPart' hl
    repeat (first
      | (refine wpAny_ite_false (decide_eq_false (by rw [c0]; exact Bool.false_ne_true)) ?_; wp_walk using wpAny_loadPart' hl)
      | (refine wpAny_ite_true (decide_eq_true c1) ?_; wp_walk using wpAny_loadPart' hl))
    exact ⟨_, rfl, h⟩
section
variable {X : Cx}
/-- t * 1 is t itself -/
def rRep1 (K : PySem.W.Frag) : R2 := fun x y H Q => ∃ l xs, x = .ref l ∧ y = .int 1 ∧ SqT K H l xs ∧ Q (.ref l) H
theorem op_rep1 : OpR X (binaryOp .Mult) (rRep1 X.K) := by
  intro pins s σ H x y v u Q I rx ry h
  obtain ⟨l, xs, rfl, rfl, hT, q⟩ := h
  cases rx
  obtain ⟨t, rfl⟩ := ry
  obtain ⟨its, r, ⟨⟨cls, dd, data, sl⟩, ho, hc, n, hd⟩, hs⟩ := I.tuple hT
  simp only at hc hd
  subst hc hd
  refine wpAny_binaryOp_repeat_ref (T := "tuple") (U := "int") (by decide) ⟨_, ho, rfl⟩ (fun s' => typeIs_int s' 1 t) noFill_tuple_mul F.fills_int_mul F.slot_int_rmul repeat_tuple F.slot_int_index.lookup
    (call_meets F.slot_int_rmul (typeIs_int s 1 t) F.entry_int_rmul (F.args_int_rmul_2 _ _) (int_rmul_tuple 1 t l its.toArray n dd sl) ⟨ho, rfl, ⟨_, ho, rfl⟩, ?_⟩)
  exact call_meets F.slot_tuple_mul ⟨_, ho, rfl⟩ F.entry_tuple_mul (F.args_tuple_mul_2 _ _) (tuple_same l its.toArray n dd sl 1 t (by decide) (by simp)) ⟨ho, ⟨.ref l, H, I, rfl, q⟩⟩
/-- repr of a list or a tuple of data -/
def rReprD (K : PySem.W.Frag) : List V → Hp → VK → Prop := fun xs H Q => ∃ (a : Addr) (p : PyData), xs = [.ref a] ∧ Dp K H (.ref a) p ∧ p.showable = true ∧ SeqAt.shaped p = true ∧ p.shown.length ≤ sizeLine ∧ Q (.str p.shown) H
theorem call_reprD (hg : X.A.guards = some []) (hu : X.A.units + 66 < cLine) : CallR X (.builtin "repr") (rReprD X.K) := by
  intro pins s σ H xs us Q I rx h
  obtain ⟨a, p, rfl, hp, hs, hsh, hz, q⟩ := h
  cases rx with
  | cons ra rt =>
    cases rt
    cases ra
    obtain ⟨as, rr⟩ := Dp.reads I p (.ref a) (.ref a) hp rfl
    have hd := SeqAt.depth_of_shaped hsh
    refine repr_of_reads' (h₀ := s.heap) rr hs (PyData.noDict_hsm (PyData.hasDict_of_canLay p (SeqAt.canLay_of_shaped hsh))) hg (by omega) (fun _ _ e => e) (fun h' u tk hk => ?_) hz
    exact ⟨.str p.shown, H, I.un (Un.kept hk) (I.hok.kept hk), ⟨u, rfl⟩, q⟩
end
end T5

set_option Elab.async false
set_option linter.all false
set_option maxRecDepth 100000
set_option maxHeartbeats 1000000
/-! T5: expressions, one lemma a construct. -/
namespace T5
open PySem PySem.Spec L2
open Evl (Ex)

section
variable {K : PySem.W.Frag} {T : Tb} {r : List Addr} {G H : Hp} {s : Sto}
/-- what follows a value -/
def Nxt (K : PySem.W.Frag) (T : Tb) (Q : VK) (r : List Addr) (G H : Hp) (s : Sto) (z : D) : Prop := ∀ w r' G' H', Le r G H r' G' H' → Gd K T r' G' H' s → Rp K T r' G' z w → Q w H'
theorem Nxt.here {Q : VK} {z : D} {w : V} (n : Nxt K T Q r G H s z) (g : Gd K T r G H s) (h : Rp K T r G z w) : Q w H := n w r G H Le.refl g h
/-- a new tuple, a new list -/
theorem Nxt.tup {Q : VK} {ds : List D} {xs : List V} (n : Nxt K T Q r G H s (.tup ds)) (g : Gd K T r G H s) (h : RpL K T r G ds xs) : ∀ p, H p = none → Q (.ref p) (upd H p (.tup xs)) := fun p hp =>
  n (.ref p) r _ _ (le_new g hp (.tup xs)) (g.new hp _) (of_tup upd_same (h.mono .refl (ex_upd (g.g_none hp))))
theorem Nxt.lst {Q : VK} {ds : List D} {xs : List V} (n : Nxt K T Q r G H s (.lst ds)) (g : Gd K T r G H s) (h : RpL K T r G ds xs) : ∀ p, H p = none → Q (.ref p) (upd H p (.lst xs)) := fun p hp =>
  n (.ref p) r _ _ (le_new g hp (.lst xs)) (g.new hp _) (of_lst upd_same (h.mono .refl (ex_upd (g.g_none hp))))
theorem rr_tup {ds : List D} {v : V} (g : Gd K T r G H s) (h : Rr K T r G H (.tup ds) v) : ∃ a xs, v = .ref a ∧ SqT K H a xs ∧ G a = some (.tup xs) ∧ RpL K T r G ds xs := by
  obtain ⟨a, xs, e1, e2, e3⟩ := rp_tup (show Rp K T r G (.tup ds) v from h)
  exact ⟨a, xs, e1, SqT.of (g.sub _ _ e2), e2, e3⟩
theorem rr_lst {ds : List D} {v : V} (h : Rr K T r G H (.lst ds) v) : ∃ a xs, v = .ref a ∧ H a = some (.lst xs) ∧ RpL K T r G ds xs := h
theorem rr_int {i : Int} {v : V} (h : Rr K T r G H (.int i) v) : v = .int i := rp_int (show Rp K T r G (.int i) v from h)
theorem cap_le {n : Nat} (h : Nat.ble n cap = true) : n ≤ sizeLine := Nat.le_trans (Nat.le_of_ble_eq_true h) (by decide)
theorem cap_lt {n : Nat} (h : Nat.blt n cap = true) : n < sizeLine := Nat.lt_of_lt_of_le (Nat.lt_of_succ_le (Nat.le_of_ble_eq_true h)) (by decide)
theorem big_of {i : Int} (h : big64 i = true) : -(2 ^ 64) < i ∧ i < 2 ^ 64 := by
  have h' := Bool.and_eq_true_iff.mp h
  exact ⟨of_decide_eq_true h'.1, of_decide_eq_true h'.2⟩

/-! ### operators -/
def rAddA (K : PySem.W.Frag) : R2 := fun x y H Q => rI0 (fun i j => .int (i + j)) x y H Q ∨ rCatA K x y H Q ∨ rCat x y H Q
theorem op_addA {X : Cx} : OpR X (binaryOp .Add) (rAddA X.K) := or_op op_add (or_op op_catA op_cat)
theorem nil_of {ds : List D} {xs : List V} (h : RpL K T r G ds xs) (e : xs = []) : ds = [] := by
  have := h.length
  rw [e] at this
  exact List.eq_nil_of_length_eq_zero this.symm
theorem bin_add {x y z : D} {v u : V} {Q : VK} (g : Gd K T r G H s) (hx : Rr K T r G H x v) (hy : Rr K T r G H y u) (h : addD x y = some z) (n : Nxt K T Q r G H s z) : rAddA K v u H Q := by
  unfold addD at h
  split at h <;> first | (cases h; done) | skip
  · rename_i i j
    cases h
    cases rr_int hx
    cases rr_int hy
    exact .inl ⟨i, j, rfl, rfl, n.here g (of_int _)⟩
  · rename_i a b
    split at h
    · rename_i hc
      cases h
      obtain ⟨p, xs, rfl, e1, e1', e2⟩ := rr_tup g hx
      obtain ⟨q, ys, rfl, e3, e3', e4⟩ := rr_tup g hy
      refine .inr (.inl ⟨p, q, xs, ys, rfl, rfl, e1, e3, by rw [e2.length, e4.length]; exact cap_le hc, fun e => ?_, fun _ e => ?_, fun _ _ => n.tup g (e2.append e4)⟩)
      · rw [nil_of e2 e] at n
        exact n.here g (of_tup e3' e4)
      · rw [nil_of e4 e, List.append_nil] at n
        exact n.here g (of_tup e1' e2)
    · cases h
  · rename_i a b
    split at h
    · rename_i hc
      cases h
      obtain ⟨p, xs, rfl, e1, e2⟩ := rr_lst hx
      obtain ⟨q, ys, rfl, e3, e4⟩ := rr_lst hy
      exact .inr (.inr ⟨p, q, xs, ys, rfl, rfl, e1, e3, by rw [e2.length, e4.length]; exact cap_le hc, n.lst g (e2.append e4)⟩)
    · cases h
theorem bin_sub {x y z : D} {v u : V} {Q : VK} (g : Gd K T r G H s) (hx : Rr K T r G H x v) (hy : Rr K T r G H y u) (h : subD x y = some z) (n : Nxt K T Q r G H s z) : rI0 (fun i j => .int (i - j)) v u H Q := by
  unfold subD at h
  split at h <;> first | (cases h; done) | skip
  rename_i i j
  cases h
  cases rr_int hx
  cases rr_int hy
  exact ⟨i, j, rfl, rfl, n.here g (of_int _)⟩
theorem bin_fdiv {x y z : D} {v u : V} {Q : VK} (g : Gd K T r G H s) (hx : Rr K T r G H x v) (hy : Rr K T r G H y u) (h : fdivD x y = some z) (n : Nxt K T Q r G H s z) : rI CDiv (fun i j => .int (i / j)) v u H Q := by
  unfold fdivD at h
  split at h <;> first | (cases h; done) | skip
  rename_i i j
  split at h
  · rename_i hc
    cases h
    cases rr_int hx
    cases rr_int hy
    have hc' := Bool.and_eq_true_iff.mp hc
    exact ⟨i, j, rfl, rfl, ⟨of_decide_eq_true hc'.1, of_decide_eq_true hc'.2⟩, n.here g (of_int _)⟩
  · cases h
theorem bin_mod {x y z : D} {v u : V} {Q : VK} (g : Gd K T r G H s) (hx : Rr K T r G H x v) (hy : Rr K T r G H y u) (h : modD x y = some z) (n : Nxt K T Q r G H s z) : rI (fun _ j => 0 < j) (fun i j => .int (i % j)) v u H Q := by
  unfold modD at h
  split at h <;> first | (cases h; done) | skip
  rename_i i j
  split at h
  · rename_i hc
    cases h
    cases rr_int hx
    cases rr_int hy
    exact ⟨i, j, rfl, rfl, of_decide_eq_true hc, n.here g (of_int _)⟩
  · cases h
theorem bin_pow {x y z : D} {v u : V} {Q : VK} (g : Gd K T r G H s) (hx : Rr K T r G H x v) (hy : Rr K T r G H y u) (h : powD x y = some z) (n : Nxt K T Q r G H s z) : rI CPow (fun i j => .int (i ^ j.toNat)) v u H Q := by
  unfold powD at h
  split at h <;> first | (cases h; done) | skip
  rename_i i j
  split at h
  · rename_i hc
    cases h
    cases rr_int hx
    cases rr_int hy
    have hc' := Bool.and_eq_true_iff.mp hc
    have hc2 := Bool.and_eq_true_iff.mp hc'.1
    have hb := big_of hc'.2
    exact ⟨i, j, rfl, rfl, ⟨of_decide_eq_true hc2.1, of_decide_eq_true hc2.2, by omega⟩, n.here g (of_int _)⟩
  · cases h
def rMulA (K : PySem.W.Frag) : R2 := fun x y H Q => rI CMul (fun i j => .int (i * j)) x y H Q ∨ rRepT K x y H Q ∨ rRep1 K x y H Q ∨ rRep x y H Q
theorem op_mulA {X : Cx} : OpR X (binaryOp .Mult) (rMulA X.K) := or_op op_mul (or_op op_repT (or_op op_rep1 op_rep))
theorem bin_mul {x y z : D} {v u : V} {Q : VK} (g : Gd K T r G H s) (hx : Rr K T r G H x v) (hy : Rr K T r G H y u) (h : mulD x y = some z) (n : Nxt K T Q r G H s z) : rMulA K v u H Q := by
  unfold mulD at h
  split at h <;> first | (cases h; done) | skip
  · rename_i i j
    split at h
    · rename_i hc
      cases h
      cases rr_int hx
      cases rr_int hy
      refine .inl ⟨i, j, rfl, rfl, ?_, n.here g (of_int _)⟩
      rcases Bool.or_eq_true_iff.mp hc with c | c
      · exact .inl (big_of c)
      · exact .inr (big_of c)
    · cases h
  · rename_i a k
    split at h
    · rename_i hc
      cases h
      cases rr_int hy
      obtain ⟨p, xs, rfl, e1, e1', e2⟩ := rr_tup g hx
      simp only [Bool.and_eq_true, decide_eq_true_eq] at hc
      obtain ⟨⟨⟨c1, c2⟩, c3⟩, c4⟩ := hc
      have c3' : a.length ≤ 1000 := Nat.le_of_ble_eq_true c3
      have c4' : 0 < a.length := Nat.lt_of_succ_le (Nat.le_of_ble_eq_true c4)
      by_cases hk : k = 1
      · subst hk
        refine .inr (.inr (.inl ⟨p, xs, rfl, rfl, e1, n.here g (of_tup e1' ?_)⟩))
        show RpL K T r G (List.replicate 1 a).flatten xs
        rw [show (List.replicate 1 a).flatten = a by simp]
        exact e2
      · refine .inr (.inl ⟨p, k, xs, rfl, rfl, e1, fun e => ?_, by omega, c2, by rw [e2.length]; exact c3', n.tup g (e2.rep _)⟩)
        rw [nil_of e2 e] at c4'
        exact absurd c4' (by decide)
    · cases h
  · rename_i a k
    split at h
    · rename_i hc
      cases h
      cases rr_int hy
      obtain ⟨p, xs, rfl, e1, e2⟩ := rr_lst hx
      simp only [Bool.and_eq_true, decide_eq_true_eq] at hc
      obtain ⟨⟨c1, c2⟩, c3⟩ := hc
      have c3' : a.length ≤ 1000 := Nat.le_of_ble_eq_true c3
      refine .inr (.inr (.inr ⟨p, k, xs, rfl, rfl, e1, by omega, by omega, ?_, n.lst g (e2.rep _)⟩))
      rw [e2.length]
      have : a.length * k.toNat ≤ 1000 * 1000 := Nat.mul_le_mul c3' (by omega)
      exact Nat.le_trans this (by decide)
    · cases h

/-! ### comparisons -/
theorem ord_ok {f : Int → Int → Bool} {x y : D} {b : Bool} {v u : V} {Q : VK} (g : Gd K T r G H s) (hx : Rr K T r G H x v) (hy : Rr K T r G H y u) (h : ordD f x y = some b) (n : Nxt K T Q r G H s (.bl b)) : rI0 (fun i j => .bl (f i j)) v u H Q := by
  unfold ordD at h
  split at h <;> first | (cases h; done) | skip
  rename_i i j
  cases h
  cases rr_int hx
  cases rr_int hy
  exact ⟨i, j, rfl, rfl, n.here g (of_bl _)⟩
mutual
theorem eqD_eq : ∀ {a b : D}, eqD a b = true → a = b
  | .non, b, h => by cases b <;> simp [eqD] at h <;> rfl
  | .bl x, b, h => by cases b <;> simp [eqD] at h <;> rw [h]
  | .int x, b, h => by cases b <;> simp [eqD] at h <;> rw [h]
  | .str x, b, h => by cases b <;> simp [eqD] at h <;> rw [h]
  | .rep x, b, h => by
    cases b <;> simp [eqD] at h
    rw [eqD_eq h]
  | .tup x, b, h => by
    cases b <;> simp [eqD] at h
    rw [eqL_eq h]
  | .lst x, b, h => by
    cases b <;> simp [eqD] at h
    rw [eqL_eq h]
  | .scr x, b, h => by
    cases b <;> simp [eqD] at h
    rw [eqL_eq h]
  | .kt x, b, h => by
    cases b <;> simp [eqD] at h
    rw [eqL_eq h]
  | .loc x, b, h => by cases b <;> simp [eqD] at h <;> rw [h]
  | .fn x, b, h => by cases b <;> simp [eqD] at h <;> rw [h]
  | .ty x, b, h => by cases b <;> simp [eqD] at h <;> rw [h]
theorem eqL_eq : ∀ {a b : List D}, eqL a b = true → a = b
  | [], b, h => by cases b <;> simp [eqL] at h <;> rfl
  | x :: a, b, h => by
    cases b with
    | nil => simp [eqL] at h
    | cons y b =>
      simp [eqL] at h
      rw [eqD_eq h.1, eqL_eq h.2]
end
-- as the library's data
mutual
theorem dp_of (e : Ex G H) : ∀ {d : D} {v : V} {p : PyData}, toP d = some p → Rp K T r G d v → Dp K H v p
  | .non, v, p, hp, h => by
    unfold toP at hp; cases hp; unfold Rp at h; subst h; exact .non
  | .bl b, v, p, hp, h => by
    unfold toP at hp; cases hp; unfold Rp at h; subst h; exact .bl b
  | .int i, v, p, hp, h => by
    unfold toP at hp; cases hp; unfold Rp at h; subst h; exact .int i
  | .str x, v, p, hp, h => by
    unfold toP at hp; cases hp; unfold Rp at h; subst h; exact .str x
  | .rep _, v, p, hp, h => by unfold toP at hp; cases hp
  | .tup ds, v, p, hp, h => by
    unfold toP at hp
    cases hq : toPs ds with
    | none => rw [hq] at hp; cases hp
    | some ps =>
      rw [hq] at hp
      cases hp
      unfold Rp at h
      obtain ⟨a, xs, rfl, h1, h2⟩ := h
      exact .tup (SqT.of (e _ _ h1)) (dps_of e hq h2)
  | .lst ds, v, p, hp, h => by
    unfold toP at hp
    cases hq : toPs ds with
    | none => rw [hq] at hp; cases hp
    | some ps =>
      rw [hq] at hp
      cases hp
      unfold Rp at h
      obtain ⟨a, xs, rfl, h1, h2⟩ := h
      exact .lst (SqL.of (e _ _ h1)) (dps_of e hq h2)
  | .scr ds, v, p, hp, h => by unfold toP at hp; cases hp
  | .kt ds, v, p, hp, h => by unfold toP at hp; cases hp
  | .loc _, v, p, hp, h => by unfold toP at hp; cases hp
  | .fn _, v, p, hp, h => by unfold toP at hp; cases hp
  | .ty _, v, p, hp, h => by unfold toP at hp; cases hp
theorem dps_of (e : Ex G H) : ∀ {ds : List D} {vs : List V} {ps : List PyData}, toPs ds = some ps → RpL K T r G ds vs → DpAll K H vs ps
  | [], vs, ps, hp, h => by
    unfold toPs at hp; cases hp; rw [h.nil_inv]; exact .nil
  | d :: ds, vs, ps, hp, h => by
    unfold toPs at hp
    obtain ⟨v, t, rfl, h1, h2⟩ := h.cons_inv
    cases hq : toP d with
    | none => rw [hq] at hp; cases hp
    | some p =>
      cases hr : toPs ds with
      | none => rw [hq, hr] at hp; cases hp
      | some qs =>
        rw [hq, hr] at hp
        cases hp
        exact .cons (dp_of e hq h1) (dps_of e hr h2)
end
/-- .. of what is read -/
theorem dp_rd (g : Gd K T r G H s) {d : D} {v : V} {p : PyData} (hp : toP d = some p) (h : Rr K T r G H d v) : Dp K H v p := by
  cases d <;> first | exact dp_of g.exH hp (show Rp K T r G _ v from h) | skip
  rename_i ds
  obtain ⟨a, xs, rfl, h1, h2⟩ := rr_lst h
  unfold toP at hp
  cases hq : toPs ds with
  | none => rw [hq] at hp; cases hp
  | some ps =>
    rw [hq] at hp
    cases hp
    exact .lst (SqL.of h1) (dps_of g.exH hq h2)
def rEqA (K : PySem.W.Frag) : R2 := fun x y H Q => rEq x y H Q ∨ rEqD K x y H Q
def rNeA (K : PySem.W.Frag) : R2 := fun x y H Q => rNe x y H Q ∨ rNeD K x y H Q
theorem op_eqA {X : Cx} (hu : X.A.units + 64 < cLine) : OpR X (compareOp .Eq) (rEqA X.K) := or_op op_eq (op_eqD hu)
theorem op_neA {X : Cx} (hu : X.A.units + 64 < cLine) : OpR X (compareOp .NotEq) (rNeA X.K) := or_op op_ne (op_neD hu)
theorem rep_inv {x : D} {v : V} (h : Rr K T r G H (.rep x) v) : ∃ p, toP x = some p ∧ v = .str p.shown := by
  have h' : Rp K T r G (.rep x) v := h
  unfold Rp at h'
  exact h'
/-- both ways of eqq: equal texts, or data -/
theorem eqq_cases {x y : D} {b : Bool} {v u : V} (g : Gd K T r G H s) (hx : Rr K T r G H x v) (hy : Rr K T r G H y u) (h : eqq x y = some b) :
    (scal v u = true ∧ b = decide (v = u)) ∨ ∃ p q, Dp K H v p ∧ Dp K H u q ∧ SeqAt.shaped p = true ∧ SeqAt.shaped q = true ∧ b = PyData.eqv p q := by
  unfold eqq at h
  split at h
  · rename_i a c
    split at h
    · rename_i hc
      cases h
      cases eqD_eq hc
      obtain ⟨p, e1, rfl⟩ := rep_inv hx
      obtain ⟨q, e2, rfl⟩ := rep_inv hy
      rw [e1] at e2
      cases e2
      exact .inl ⟨rfl, (decide_eq_true rfl).symm⟩
    · cases h
  · rename_i i j
    cases h
    cases rr_int hx
    cases rr_int hy
    refine .inl ⟨rfl, ?_⟩
    by_cases e : i = j
    · subst e
      simp
    · rw [decide_eq_false (fun z => e (V.int.inj z))]
      exact beq_eq_false_iff_ne.mpr e
  · cases hp : toP x with
    | none => rw [hp] at h; cases h
    | some p =>
      cases hq : toP y with
      | none => rw [hp, hq] at h; cases h
      | some q =>
        rw [hp, hq] at h
        simp only [Option.bind_some] at h
        split at h
        · rename_i hc
          cases h
          have hc' := Bool.and_eq_true_iff.mp hc
          exact .inr ⟨p, q, dp_rd g hp hx, dp_rd g hq hy, hc'.1, hc'.2, rfl⟩
        · cases h
theorem cmp_eq {x y : D} {b : Bool} {v u : V} {Q : VK} (g : Gd K T r G H s) (hx : Rr K T r G H x v) (hy : Rr K T r G H y u) (h : eqq x y = some b) (n : Nxt K T Q r G H s (.bl b)) : rEqA K v u H Q := by
  rcases eqq_cases g hx hy h with ⟨h1, rfl⟩ | ⟨p, q, h1, h2, h3, h4, rfl⟩
  · exact .inl ⟨h1, n.here g (of_bl _)⟩
  · exact .inr ⟨p, q, h1, h2, h3, h4, n.here g (of_bl _)⟩
theorem cmp_ne {x y : D} {b : Bool} {v u : V} {Q : VK} (g : Gd K T r G H s) (hx : Rr K T r G H x v) (hy : Rr K T r G H y u) (h : (eqq x y).map (! ·) = some b) (n : Nxt K T Q r G H s (.bl b)) : rNeA K v u H Q := by
  cases hq : eqq x y with
  | none => rw [hq] at h; cases h
  | some c =>
    rw [hq] at h
    cases h
    rcases eqq_cases g hx hy hq with ⟨h1, rfl⟩ | ⟨p, q, h1, h2, h3, h4, rfl⟩
    · exact .inl ⟨h1, n.here g (of_bl _)⟩
    · exact .inr ⟨p, q, h1, h2, h3, h4, n.here g (of_bl _)⟩
end
end T5

set_option Elab.async false
set_option linter.all false
set_option maxRecDepth 100000
set_option maxHeartbeats 1000000
/-! T5: expressions as terms of rules. -/
namespace T5
open PySem PySem.Spec L2
open Evl (Ex)

/-- a test's reading -/
abbrev tQ (K : PySem.W.Frag) (T : Tb) (W : WX) (cl : Calls) (c : CE) : TT := tB (tE K T W cl c)

section
variable {X : Cx} {T : Tb} {W : WX} {cl : Calls} {a b c : Expr} {ca cb cc : CE} {pos : Pos} {es : List Expr} {ces : CEs}
theorem ge_bad {e : Expr} : PE X e (tE X.K T W cl .bad) := imp_e false_e fun σ H Q ⟨_, _, _, _, _, _, h⟩ => by
  simp only [evE] at h
  exact h
theorem gt_bad {e : Expr} : PT X e (tQ X.K T W cl .bad) := imp_t false_t fun σ H Q ⟨_, _, _, _, _, _, h⟩ => by
  simp only [evE] at h
  exact h
theorem ge_var {i : Nat} {x : Str} (hN : X.N[i]? = some x) (hv : Vis X.env.scope x) (hd : (x == ("__debug__" : Str)) = false) (hcd : (x == ("__classdict__" : Str)) = false) : PE X (.Name x pos) (tE X.K T W cl (.var i)) :=
  imp_e (pe_var hN hv hd hcd) fun σ H Q ⟨env, s, r, G, g, e, h⟩ => by
    simp only [evE] at h
    cases he : env[i]? with
    | none => rw [he] at h; exact h.elim
    | some o =>
      cases o with
      | none => rw [he] at h; exact h.elim
      | some d =>
        rw [he] at h
        obtain ⟨v, e1, e2⟩ := e.2 i d he
        exact ⟨v, e1, h.here g e2⟩
theorem ge_con {e : Expr} {d : D} {v : V} (h : PE X e (tC v)) (hd : ∀ r G, Rp X.K T r G d v) : PE X e (tE X.K T W cl (.con d)) :=
  imp_e h fun σ H Q ⟨env, s, r, G, g, e, h⟩ => by
    simp only [evE] at h
    exact h.here g (hd r G)
theorem ge_int {i : Int} {j : Nat} : PE X (.Constant (.int i) j pos) (tE X.K T W cl (.con (.int i))) := ge_con pe_int fun _ _ => of_int i
theorem ge_bl {i : Bool} {j : Nat} : PE X (.Constant (.bool i) j pos) (tE X.K T W cl (.con (.bl i))) := ge_con pe_bl fun _ _ => of_bl i
theorem ge_non {j : Nat} : PE X (.Constant .none j pos) (tE X.K T W cl (.con .non)) := ge_con pe_non fun _ _ => by unfold Rp; rfl
theorem ge_str {x : Str} {j : Nat} : PE X (.Constant (.str x) j pos) (tE X.K T W cl (.con (.str x))) := ge_con pe_str fun _ _ => by unfold Rp; rfl

/-! ### operators -/
theorem ge_bin {o : Operator} {op : BOp} {q : R2} (hq : OpR X (binaryOp o) q)
    (k : ∀ {r : List Addr} {G H : Hp} {s : Sto} {x y z : D} {v u : V} {Q : VK}, Gd X.K T r G H s → Rr X.K T r G H x v → Rr X.K T r G H y u → binD op x y = some z → Nxt X.K T Q r G H s z → q v u H Q)
    (ha : PE X a (tE X.K T W cl ca)) (hb : PE X b (tE X.K T W cl cb)) : PE X (.BinOp a o b pos) (tE X.K T W cl (.bin op ca cb)) :=
  imp_e (pe_op hq ha hb) fun σ H Q ⟨env, s, r, G, g, e, h⟩ => by
    simp only [evE] at h
    refine rdg_bind g e h fun x v r1 G1 H1 s1 l1 g1 e1 hx h1 => rdg_bind g1 e1 h1 fun y u r2 G2 H2 s2 l2 g2 e2 hy h2 => ?_
    obtain ⟨z, hz, h3⟩ := out_lift h2
    exact k g2 (Rr.rd g2 (hx.le l2)) (Rr.rd g2 hy) hz h3
theorem ge_add (ha : PE X a (tE X.K T W cl ca)) (hb : PE X b (tE X.K T W cl cb)) : PE X (.BinOp a .Add b pos) (tE X.K T W cl (.bin .add ca cb)) := ge_bin op_addA bin_add ha hb
theorem ge_sub (ha : PE X a (tE X.K T W cl ca)) (hb : PE X b (tE X.K T W cl cb)) : PE X (.BinOp a .Sub b pos) (tE X.K T W cl (.bin .sub ca cb)) := ge_bin op_sub bin_sub ha hb
theorem ge_mul (ha : PE X a (tE X.K T W cl ca)) (hb : PE X b (tE X.K T W cl cb)) : PE X (.BinOp a .Mult b pos) (tE X.K T W cl (.bin .mul ca cb)) := ge_bin op_mulA bin_mul ha hb
theorem ge_fdiv (ha : PE X a (tE X.K T W cl ca)) (hb : PE X b (tE X.K T W cl cb)) : PE X (.BinOp a .FloorDiv b pos) (tE X.K T W cl (.bin .fdiv ca cb)) := ge_bin op_fdiv bin_fdiv ha hb
theorem ge_mod (ha : PE X a (tE X.K T W cl ca)) (hb : PE X b (tE X.K T W cl cb)) : PE X (.BinOp a .Mod b pos) (tE X.K T W cl (.bin .mod ca cb)) := ge_bin op_mod bin_mod ha hb
theorem ge_pow (ha : PE X a (tE X.K T W cl ca)) (hb : PE X b (tE X.K T W cl cb)) : PE X (.BinOp a .Pow b pos) (tE X.K T W cl (.bin .pow ca cb)) := ge_bin op_pow bin_pow ha hb
theorem ge_neg (ha : PE X a (tE X.K T W cl ca)) : PE X (.UnaryOp .USub a pos) (tE X.K T W cl (.neg ca)) :=
  imp_e (pe_un un_neg ha) fun σ H Q ⟨env, s, r, G, g, e, h⟩ => by
    simp only [evE] at h
    refine rdg_bind g e h fun x v r1 G1 H1 s1 l1 g1 e1 hx h1 => ?_
    cases x <;> first | exact h1.elim | skip
    rename_i i
    cases rp_int hx
    exact ⟨i, rfl, h1.here g1 (of_int _)⟩
theorem ge_cmp {o : CmpOp} {op : COp} {q : R2} (hq : OpR X (compareOp o) q) (hm : behindInMarks o b = false)
    (k : ∀ {r : List Addr} {G H : Hp} {s : Sto} {x y : D} {z : Bool} {v u : V} {Q : VK}, Gd X.K T r G H s → Rr X.K T r G H x v → Rr X.K T r G H y u → cmpD op x y = some z → Nxt X.K T Q r G H s (.bl z) → q v u H Q)
    (ha : PE X a (tE X.K T W cl ca)) (hb : PE X b (tE X.K T W cl cb)) : PE X (.Compare a [o] [b] pos) (tE X.K T W cl (.cmp op ca cb)) ∧ PT X (.Compare a [o] [b] pos) (tQ X.K T W cl (.cmp op ca cb)) := by
  have i : ∀ σ H Q, tE X.K T W cl (.cmp op ca cb) σ H Q → tOp q (tE X.K T W cl ca) (tE X.K T W cl cb) σ H Q := fun σ H Q ⟨env, s, r, G, g, e, h⟩ => by
    simp only [evE] at h
    refine rdg_bind g e h fun x v r1 G1 H1 s1 l1 g1 e1 hx h1 => rdg_bind g1 e1 h1 fun y u r2 G2 H2 s2 l2 g2 e2 hy h2 => ?_
    obtain ⟨z, hz, h3⟩ := out_lift h2
    cases hw : cmpD op (rd s2 x) (rd s2 y) with
    | none => rw [hw] at hz; cases hz
    | some z0 =>
      rw [hw] at hz
      cases hz
      exact k g2 (Rr.rd g2 (hx.le l2)) (Rr.rd g2 hy) hw h3
  exact ⟨imp_e (pe_cmpR hq ha hb hm) i, imp_t (pt_cmpR hq ha hb hm) fun σ H Q h => i σ H _ h⟩

/-! ### and, or, not, a if c else b -/
theorem ge_not (ha : PE X a (tE X.K T W cl ca)) : PE X (.UnaryOp .Not a pos) (tE X.K T W cl (.not ca)) :=
  imp_e (pe_not ha) fun σ H Q ⟨env, s, r, G, g, e, h⟩ => by
    simp only [evE] at h
    refine rdg_bind g e h fun x v r1 G1 H1 s1 l1 g1 e1 hx h1 => ?_
    cases x <;> first | exact h1.elim | skip
    rename_i i
    cases rp_bl hx
    exact ⟨i, rfl, h1.here g1 (of_bl _)⟩
theorem gt_not (ha : PT X a (tQ X.K T W cl ca)) : PT X (.UnaryOp .Not a pos) (tQ X.K T W cl (.not ca)) :=
  imp_t (pt_not ha) fun σ H Q ⟨env, s, r, G, g, e, h⟩ => by
    simp only [evE] at h
    refine rdg_bind g e h fun x v r1 G1 H1 s1 l1 g1 e1 hx h1 => ?_
    cases x <;> first | exact h1.elim | skip
    rename_i i
    cases rp_bl hx
    obtain ⟨c, hc, q⟩ := h1.here g1 (of_bl _)
    cases hc
    exact ⟨i, rfl, q⟩
theorem ge_and {e2 : Expr} {rest : List Expr} (ha : PE X a (tE X.K T W cl ca)) (hb : PE X (.BoolOp .And (e2 :: rest) pos) (tE X.K T W cl cb)) : PE X (.BoolOp .And (a :: e2 :: rest) pos) (tE X.K T W cl (.and ca cb)) :=
  imp_e (pe_and ha hb) fun σ H Q ⟨env, s, r, G, g, e, h⟩ => by
    simp only [evE] at h
    refine rdg_bind g e h fun x v r1 G1 H1 s1 l1 g1 e1 hx h1 => ?_
    cases x <;> first | exact h1.elim | skip
    rename_i i
    cases rp_bl hx
    refine ⟨i, rfl, ?_⟩
    cases i with
    | true => exact ⟨env, s1, r1, G1, g1, e1, h1⟩
    | false => exact h1.here g1 (of_bl _)
theorem ge_or {e2 : Expr} {rest : List Expr} (ha : PE X a (tE X.K T W cl ca)) (hb : PE X (.BoolOp .Or (e2 :: rest) pos) (tE X.K T W cl cb)) : PE X (.BoolOp .Or (a :: e2 :: rest) pos) (tE X.K T W cl (.or ca cb)) :=
  imp_e (pe_or ha hb) fun σ H Q ⟨env, s, r, G, g, e, h⟩ => by
    simp only [evE] at h
    refine rdg_bind g e h fun x v r1 G1 H1 s1 l1 g1 e1 hx h1 => ?_
    cases x <;> first | exact h1.elim | skip
    rename_i i
    cases rp_bl hx
    refine ⟨i, rfl, ?_⟩
    cases i with
    | false => exact ⟨env, s1, r1, G1, g1, e1, h1⟩
    | true => exact h1.here g1 (of_bl _)
theorem gw_and {e2 : Expr} {rest : List Expr} (ha : PT X a (tQ X.K T W cl ca)) (hb : PW X (.BoolOp .And (e2 :: rest) pos) (tQ X.K T W cl cb)) : PW X (.BoolOp .And (a :: e2 :: rest) pos) (tQ X.K T W cl (.and ca cb)) :=
  imp_w (pw_and ha hb) fun σ H Q ⟨env, s, r, G, g, e, h⟩ => by
    simp only [evE] at h
    refine rdg_bind g e h fun x v r1 G1 H1 s1 l1 g1 e1 hx h1 => ?_
    cases x <;> first | exact h1.elim | skip
    rename_i i
    cases rp_bl hx
    refine ⟨i, rfl, ?_⟩
    cases i with
    | true => exact ⟨env, s1, r1, G1, g1, e1, h1⟩
    | false =>
      obtain ⟨c, hc, q⟩ := h1.here g1 (of_bl _)
      cases hc
      exact q
theorem gw_or {e2 : Expr} {rest : List Expr} (ha : PT X a (tQ X.K T W cl ca)) (hb : PW X (.BoolOp .Or (e2 :: rest) pos) (tQ X.K T W cl cb)) : PW X (.BoolOp .Or (a :: e2 :: rest) pos) (tQ X.K T W cl (.or ca cb)) :=
  imp_w (pw_or ha hb) fun σ H Q ⟨env, s, r, G, g, e, h⟩ => by
    simp only [evE] at h
    refine rdg_bind g e h fun x v r1 G1 H1 s1 l1 g1 e1 hx h1 => ?_
    cases x <;> first | exact h1.elim | skip
    rename_i i
    cases rp_bl hx
    refine ⟨i, rfl, ?_⟩
    cases i with
    | false => exact ⟨env, s1, r1, G1, g1, e1, h1⟩
    | true =>
      obtain ⟨c, hc, q⟩ := h1.here g1 (of_bl _)
      cases hc
      exact q
theorem ge_ite (hc : PT X c (tQ X.K T W cl cc)) (ha : PE X a (tE X.K T W cl ca)) (hb : PE X b (tE X.K T W cl cb)) : PE X (.IfExp c a b pos) (tE X.K T W cl (.ite cc ca cb)) :=
  imp_e (pe_ifExp hc ha hb) fun σ H Q ⟨env, s, r, G, g, e, h⟩ => by
    simp only [evE] at h
    refine rdg_bind g e h fun x v r1 G1 H1 s1 l1 g1 e1 hx h1 => ?_
    cases x <;> first | exact h1.elim | skip
    rename_i i
    cases rp_bl hx
    refine ⟨i, rfl, ?_⟩
    cases i with
    | true => exact ⟨env, s1, r1, G1, g1, e1, h1⟩
    | false => exact ⟨env, s1, r1, G1, g1, e1, h1⟩

/-! ### displays -/
theorem gl_nil : PA X [] (tL X.K T W cl .nil) := imp_a pa_nil fun σ H Q ⟨env, s, r, G, g, e, h⟩ => by
  simp only [evEs] at h
  exact h.here g .nil
theorem gl_cons (ha : PE X a (tE X.K T W cl ca)) (hr : PA X es (tL X.K T W cl ces)) (hs : starEach (a :: es) X.env = (false, eval a X.env) :: starEach es X.env) : PA X (a :: es) (tL X.K T W cl (.cons ca ces)) :=
  imp_a (pa_cons ha hr hs) fun σ H Q ⟨env, s, r, G, g, e, h⟩ => by
    simp only [evEs] at h
    refine rdg_bind g e h fun x v r1 G1 H1 s1 l1 g1 e1 hx h1 => rdg_bind g1 e1 h1 fun ds vs r2 G2 H2 s2 l2 g2 e2 hds h2 => ?_
    exact h2.here g2 (.cons (hx.le l2) hds)
theorem ge_tup {k : Nat} (h : PA X es (tL X.K T W cl ces)) : PE X (.Tuple es k pos) (tE X.K T W cl (.tup ces)) :=
  imp_e (pe_tup h) fun σ H Q ⟨env, s, r, G, g, e, h⟩ => by
    simp only [evE] at h
    refine rdg_bind g e h fun ds vs r1 G1 H1 s1 l1 g1 e1 hx h1 => ?_
    split at h1
    · rename_i hc
      exact ⟨by rw [hx.length]; exact cap_le hc, Nxt.tup h1 g1 hx⟩
    · exact h1.elim
theorem ge_lst (h : PA X es (tL X.K T W cl ces)) : PE X (.List es pos) (tE X.K T W cl (.lst ces)) :=
  imp_e (pe_lst h) fun σ H Q ⟨env, s, r, G, g, e, h⟩ => by
    simp only [evE] at h
    refine rdg_bind g e h fun ds vs r1 G1 H1 s1 l1 g1 e1 hx h1 => ?_
    split at h1
    · rename_i hc
      exact ⟨by rw [hx.length]; exact cap_le hc, Nxt.lst h1 g1 hx⟩
    · exact h1.elim
/-- a plain expression as a test -/
theorem gt_val {e : Expr} (h : PE X e (tE X.K T W cl ca)) (he : ∀ whole, isTrue e X.env whole = (do let v ← whole; standAt e.pos; holding [v] (truthy v))) : PT X e (tQ X.K T W cl ca) := pt_val h he
end
end T5

set_option Elab.async false
set_option linter.all false
set_option maxRecDepth 100000
set_option maxHeartbeats 1000000
/-! T5: subscripts, slices, built-ins, new lists of the store. -/
namespace T5
open PySem PySem.Spec L2
open Evl (Ex)

section
variable {K : PySem.W.Frag} {T : Tb} {α β γ δ : Type} {RR : List Addr → Hp → α → β → Prop} {RS : List Addr → Hp → γ → δ → Prop} {W : WX} {σ : St} {Q : β → Hp → Prop} {r r' : List Addr} {G G' H H' : Hp}
/-- as rdg_bind; what was evaluated is told -/
theorem rdg_bindE {env : Env} {s : Sto} {ev : Env → Sto → R γ} {f : γ → Sto → R α} {Q1 : δ → Hp → Prop} (g : Gd K T r G H s) (e : EnvR K T r G σ env) (h : Out K T RR W σ Q r G H ((ev env s).bind f))
    (k : ∀ x y r' G' H' s', ev env s = .ok x s' → Le r G H r' G' H' → Gd K T r' G' H' s' → EnvR K T r' G' σ env → RS r' G' x y → Out K T RR W σ Q r' G' H' (f x s') → Q1 y H') : Rdg K T RS W ev σ H Q1 := by
  refine ⟨env, s, r, G, g, e, ?_⟩
  cases hq : ev env s with
  | ok x s1 =>
    rw [hq] at h
    exact fun y r2 G2 H2 l2 g2 q => k x y r2 G2 H2 s1 hq l2 g2 (e.le l2) q (Out.le l2 h)
  | err c ds s1 =>
    rw [hq] at h
    exact h
  | bad =>
    rw [hq] at h
    exact h.elim
end

/-! ### new lists, ahead of their place -/
/-- what is wanted of a list that is new -/
def OutF (K : PySem.W.Frag) (T : Tb) (W : WX) (σ : St) (Q : VK) (r : List Addr) (G H : Hp) : R D → Prop
  | .ok (.lst ds) s => ∀ p xs r' G' H', Le r G H r' G' H' → Gd K T r' G' H' s → RpL K T r' G' ds xs → H' p = none → Q (.ref p) (upd H' p (.lst xs))
  | .err c ds s => ∀ cv dd r' G' H', Le r G H r' G' H' → Gd K T r' G' H' s → ErrR K T r' G' H' cv dd c ds → W cv dd σ H'
  | _ => False
def tF (K : PySem.W.Frag) (T : Tb) (W : WX) (cl : Calls) (c : CE) : TE :=
  fun σ H Q => ∃ env s r G, Gd K T r G H s ∧ EnvR K T r G σ env ∧ OutF K T W σ Q r G H (evE cl c env s)
/-- the evaluation comes to a list, if to anything -/
def Lists (cl : Calls) (c : CE) : Prop := ∀ env s d s', evE cl c env s = .ok d s' → ∃ ds, d = .lst ds
section
variable {X : Cx} {T : Tb} {W : WX} {cl : Calls} {e : Expr} {c : CE}
theorem ge_fresh (h : PE X e (tF X.K T W cl c)) (hl : Lists cl c) : PE X e (tE X.K T W cl c) :=
  imp_e h fun σ H Q ⟨env, s, r, G, g, ee, h⟩ => ⟨env, s, r, G, g, ee, by
    cases hq : evE cl c env s with
    | ok d s1 =>
      obtain ⟨ds, rfl⟩ := hl _ _ _ _ hq
      rw [hq] at h
      exact fun p xs r' G' H' l g' hx hp => Nxt.lst (r := r') (G := G') (s := s1) (fun w r2 G2 H2 l2 g2 q => h w r2 G2 H2 (l.trans l2) g2 q) g' hx p hp
    | err c ds s1 => rw [hq] at h; exact h
    | bad => rw [hq] at h; exact h⟩
theorem ge_box (h : PE X e (tF X.K T W cl c)) : PE X e (tE X.K T W cl (.box c)) :=
  imp_e h fun σ H Q ⟨env, s, r, G, g, ee, h⟩ => ⟨env, s, r, G, g, ee, by
    simp only [evE] at h
    cases hq : evE cl c env s with
    | ok d s1 =>
      rw [hq] at h
      cases d <;> first | exact h.elim | skip
      rename_i ds
      intro p xs r' G' H' l g' hx hp
      refine h (.ref p) (r' ++ [p]) G' (upd H' p (.lst xs)) (l.trans (le_box g' hp _)) (g'.box hp ⟨xs, rfl, hx⟩) ?_
      unfold Rp
      exact ⟨p, rfl, by rw [← g'.len]; simp⟩
    | err c ds s1 => rw [hq] at h; exact h
    | bad => rw [hq] at h; exact h⟩
end

section
variable {X : Cx} {T : Tb} {W : WX} {cl : Calls} {a b c : Expr} {ca cb cc : CE} {pos : Pos} {es : List Expr} {ces : CEs}
theorem outF_lift {K : PySem.W.Frag} {σ : St} {Q : VK} {r : List Addr} {G H : Hp} {o : Option D} {s : Sto} (h : OutF K T W σ Q r G H (lift o s)) :
    ∃ ds, o = some (.lst ds) ∧ ∀ p xs r' G' H', Le r G H r' G' H' → Gd K T r' G' H' s → RpL K T r' G' ds xs → H' p = none → Q (.ref p) (upd H' p (.lst xs)) := by
  cases o with
  | none => exact h.elim
  | some d =>
    cases d <;> first | exact h.elim | skip
    exact ⟨_, rfl, h⟩
theorem OutF.le {K : PySem.W.Frag} {σ : St} {Q : VK} {r r' : List Addr} {G G' H H' : Hp} {o : R D} (l : Le r G H r' G' H') (h : OutF K T W σ Q r G H o) : OutF K T W σ Q r' G' H' o := by
  cases o with
  | ok x s =>
    cases x <;> first | exact h | skip
    exact fun p xs r2 G2 H2 l2 g q hp => h p xs r2 G2 H2 (l.trans l2) g q hp
  | err c ds s => exact fun cv dd r2 G2 H2 l2 g q => h cv dd r2 G2 H2 (l.trans l2) g q
  | bad => exact h
theorem rdgF_bind {K : PySem.W.Frag} {γ δ : Type} {RS : List Addr → Hp → γ → δ → Prop} {σ : St} {Q : VK} {r : List Addr} {G H : Hp} {env : Env} {s : Sto} {ev : Env → Sto → R γ} {f : γ → Sto → R D} {Q1 : δ → Hp → Prop} (g : Gd K T r G H s) (e : EnvR K T r G σ env) (h : OutF K T W σ Q r G H ((ev env s).bind f))
    (k : ∀ x y r' G' H' s', ev env s = .ok x s' → Le r G H r' G' H' → Gd K T r' G' H' s' → EnvR K T r' G' σ env → RS r' G' x y → OutF K T W σ Q r' G' H' (f x s') → Q1 y H') : Rdg K T RS W ev σ H Q1 := by
  refine ⟨env, s, r, G, g, e, ?_⟩
  cases hq : ev env s with
  | ok x s1 =>
    rw [hq] at h
    exact fun y r2 G2 H2 l2 g2 q => k x y r2 G2 H2 s1 hq l2 g2 (e.le l2) q (OutF.le l2 h)
  | err c ds s1 =>
    rw [hq] at h
    exact h
  | bad =>
    rw [hq] at h
    exact h.elim
/-- [..] -/
theorem gf_lst (h : PA X es (tL X.K T W cl ces)) : PE X (.List es pos) (tF X.K T W cl (.lst ces)) :=
  imp_e (pe_lst h) fun σ H Q ⟨env, s, r, G, g, e, h⟩ => by
    simp only [evE] at h
    refine rdgF_bind g e h fun ds vs r1 G1 H1 s1 _ l1 g1 e1 hx h1 => ?_
    split at h1
    · rename_i hc
      exact ⟨by rw [hx.length]; exact cap_le hc, fun p hp => h1 p vs r1 G1 H1 Le.refl g1 hx hp⟩
    · exact h1.elim
/-- xs + ys, both lists -/
theorem gf_add (ha : PE X a (tE X.K T W cl ca)) (hb : PE X b (tE X.K T W cl cb)) : PE X (.BinOp a .Add b pos) (tF X.K T W cl (.bin .add ca cb)) :=
  imp_e (pe_op op_cat ha hb) fun σ H Q ⟨env, s, r, G, g, e, h⟩ => by
    simp only [evE] at h
    refine rdgF_bind g e h fun x v r1 G1 H1 s1 _ l1 g1 e1 hx h1 => rdgF_bind g1 e1 h1 fun y u r2 G2 H2 s2 _ l2 g2 e2 hy h2 => ?_
    obtain ⟨ds, hz, h3⟩ := outF_lift h2
    have hz : addD (rd s2 x) (rd s2 y) = some (.lst ds) := hz
    have rx := Rr.rd g2 (hx.le l2)
    have ry := Rr.rd g2 hy
    generalize rd s2 x = x' at hz rx
    generalize rd s2 y = y' at hz ry
    unfold addD at hz
    split at hz <;> first | (cases hz; done) | skip
    · split at hz <;> cases hz
    · split at hz
      · rename_i hc
        cases hz
        obtain ⟨p, xs, rfl, e3, e4⟩ := rr_lst rx
        obtain ⟨q, ys, rfl, e5, e6⟩ := rr_lst ry
        exact ⟨p, q, xs, ys, rfl, rfl, e3, e5, by rw [e4.length, e6.length]; exact cap_le hc, fun w hw => h3 w _ r2 G2 H2 Le.refl g2 (e4.append e6) hw⟩
      · cases hz

/-! ### subscripts -/
theorem ix_ok {K : PySem.W.Frag} {r : List Addr} {G : Hp} {ds : List D} {xs : List V} {i : Int} {d : D} (h : RpL K T r G ds xs) (hi : ixD ds i = some d) : ∃ v, atI xs i = some v ∧ Rp K T r G d v := by
  unfold ixD at hi
  unfold atI
  rw [h.length]
  cases hj : ixN ds.length i with
  | none => rw [hj] at hi; cases hi
  | some j =>
    rw [hj] at hi
    exact h.get (show ds[j]? = some d from hi)
/-- o[i], o a list, a tuple, or a dict of the store -/
theorem ge_idx (hu : X.A.units + 1 < cLine) (ha : PE X a (tE X.K T W cl ca)) (hb : PE X b (tE X.K T W cl cb)) (hp : PlainIx b) : PE X (.Subscript a b pos) (tE X.K T W cl (.idx ca cb)) :=
  imp_e (or_e (pe_ix ix_tup ha hb hp) (or_e (pe_ix ix_list ha hb hp) (pe_dget hu ha hb hp))) fun σ H Q ⟨env, s, r, G, g, e, h⟩ => by
    simp only [evE] at h
    cases hq : evE cl ca env s with
    | bad => rw [hq] at h; exact h.elim
    | err c ds s1 =>
      rw [hq] at h
      exact .inl ⟨env, s, r, G, g, e, by rw [hq]; exact h⟩
    | ok x s1 =>
      have hx0 := hq
      cases x with
      | tup ds =>
        refine .inl (rdg_bindE g e h fun x v r1 G1 H1 s1' ex l1 g1 e1 hx h1 => rdg_bindE g1 e1 h1 fun y u r2 G2 H2 s2 _ l2 g2 e2 hy h2 => ?_)
        rw [hx0] at ex
        cases ex
        obtain ⟨z, hz, h3⟩ := out_lift h2
        cases y <;> first | (cases (show none = some z from hz); done) | skip
        cases rp_int hy
        obtain ⟨p, xs, rfl, k1, k2⟩ := rp_tup (hx.le l2)
        obtain ⟨w, k3, k4⟩ := ix_ok k2 (show ixD ds _ = some z from hz)
        exact ⟨p, xs, _, w, rfl, rfl, SqT.of (g2.sub _ _ k1), k3, h3.here g2 k4⟩
      | lst ds =>
        refine .inr (.inl (rdg_bindE g e h fun x v r1 G1 H1 s1' ex l1 g1 e1 hx h1 => rdg_bindE g1 e1 h1 fun y u r2 G2 H2 s2 _ l2 g2 e2 hy h2 => ?_))
        rw [hx0] at ex
        cases ex
        obtain ⟨z, hz, h3⟩ := out_lift h2
        cases y <;> first | (cases (show none = some z from hz); done) | skip
        cases rp_int hy
        obtain ⟨p, xs, rfl, k1, k2⟩ := rr_lst (Rr.of g2 (hx.le l2))
        obtain ⟨w, k3, k4⟩ := ix_ok k2 (show ixD ds _ = some z from hz)
        exact ⟨p, xs, _, w, rfl, rfl, SqL.of k1, k3, h3.here g2 k4⟩
      | scr ds =>
        refine .inr (.inl (rdg_bindE g e h fun x v r1 G1 H1 s1' ex l1 g1 e1 hx h1 => rdg_bindE g1 e1 h1 fun y u r2 G2 H2 s2 _ l2 g2 e2 hy h2 => ?_))
        rw [hx0] at ex
        cases ex
        obtain ⟨z, hz, h3⟩ := out_lift h2
        cases y <;> first | (cases (show none = some z from hz); done) | skip
        cases rp_int hy
        obtain ⟨p, xs, rfl, k1, k2⟩ := rp_scr (hx.le l2)
        obtain ⟨w, k3, k4⟩ := ix_ok k2 (show ixD ds _ = some z from hz)
        exact ⟨p, xs, _, w, rfl, rfl, Evl.ex_l g2.exH k1, k3, h3.here g2 k4⟩
      | loc n =>
        -- what the place holds behind the index
        cases hqb : evE cl cb env s1 with
        | bad => rw [hq] at h; have h' : Out X.K T (Rp X.K T) W σ Q r G H ((evE cl cb env s1).bind _) := h; rw [hqb] at h'; exact h'.elim
        | err c ds s2 =>
          refine .inl (rdg_bindE g e h fun x v r1 G1 H1 s1' ex l1 g1 e1 hx h1 => ?_)
          rw [hx0] at ex
          cases ex
          refine ⟨env, s1, r1, G1, g1, e1, ?_⟩
          rw [hqb] at h1 ⊢
          exact h1
        | ok y s2 =>
          cases hs : s2[n]? with
          | none =>
            refine .inl (rdg_bindE g e h fun x v r1 G1 H1 s1' ex l1 g1 e1 hx h1 => rdg_bindE g1 e1 h1 fun y' u r2 G2 H2 s2' ey l2 g2 e2 hy h2 => ?_)
            rw [hx0] at ex
            cases ex
            rw [hqb] at ey
            cases ey
            obtain ⟨z, hz, h3⟩ := out_lift h2
            simp only [T5.getD, hs] at hz
            cases hz
          | some so =>
            cases so with
            | lst ds =>
              refine .inr (.inl (rdg_bindE g e h fun x v r1 G1 H1 s1' ex l1 g1 e1 hx h1 => rdg_bindE g1 e1 h1 fun y' u r2 G2 H2 s2' ey l2 g2 e2 hy h2 => ?_))
              rw [hx0] at ex
              cases ex
              rw [hqb] at ey
              cases ey
              obtain ⟨z, hz, h3⟩ := out_lift h2
              simp only [T5.getD, hs] at hz
              cases y <;> first | (cases (show none = some z from hz); done) | skip
              cases rp_int hy
              have hx2 := hx.le l2
              unfold Rp at hx2
              obtain ⟨p, rfl, k0⟩ := hx2
              obtain ⟨xs, k1, k2⟩ := g2.obj n p _ k0 hs
              obtain ⟨w, k3, k4⟩ := ix_ok k2 (show ixD ds _ = some z from hz)
              exact ⟨p, xs, _, w, rfl, rfl, SqL.of k1, k3, h3.here g2 k4⟩
            | dic kvs =>
              refine .inr (.inr (rdg_bindE g e h fun x v r1 G1 H1 s1' ex l1 g1 e1 hx h1 => rdg_bindE g1 e1 h1 fun y' u r2 G2 H2 s2' ey l2 g2 e2 hy h2 => ?_))
              rw [hx0] at ex
              cases ex
              rw [hqb] at ey
              cases ey
              obtain ⟨z, hz, h3⟩ := out_lift h2
              simp only [T5.getD, hs] at hz
              have hx2 := hx.le l2
              unfold Rp at hx2
              obtain ⟨p, rfl, k0⟩ := hx2
              obtain ⟨ws, k1, k2, _⟩ := g2.obj n p _ k0 hs
              cases hk : keyOf y with
              | none => rw [hk] at hz; cases hz
              | some k =>
                rw [hk] at hz
                have hz : look k kvs = some z := hz
                have hkv : u = kV k := by
                  unfold keyOf at hk
                  split at hk <;> first | (cases hk; done) | skip
                  · cases hk; exact rp_int hy
                  · cases hk; unfold Rp at hy; exact hy
                have hl : ∀ (l : List (L2.Key × D)) (ws : List (L2.Key × V)), KvR X.K T r2 G2 l ws → look k l = some z → ∃ w, valV ws k = some w ∧ Rp X.K T r2 G2 z w := by
                  intro l
                  induction l with
                  | nil => intro ws _ hz; cases hz
                  | cons q l ih =>
                    intro ws hw hz
                    obtain ⟨q', t, rfl, j1, j2, j3⟩ := hw
                    unfold look at hz
                    by_cases hqk : q.1 = k
                    · rw [if_pos (decide_eq_true hqk)] at hz
                      cases hz
                      refine ⟨q'.2, ?_, j2⟩
                      unfold valV
                      rw [List.find?_cons_of_pos (by rw [j1]; exact decide_eq_true hqk)]
                      rfl
                    · rw [if_neg (by rw [decide_eq_false hqk]; decide)] at hz
                      obtain ⟨w, m1, m2⟩ := ih t j3 hz
                      refine ⟨w, ?_, m2⟩
                      unfold valV at m1 ⊢
                      rw [List.find?_cons_of_neg (by rw [j1, decide_eq_false hqk]; decide)]
                      exact m1
                obtain ⟨w, m1, m2⟩ := hl kvs ws k2 hz
                exact ⟨p, w, rfl, .inl ⟨ws, k, .inl k1, hkv, m1.symm⟩, h3.here g2 m2⟩
      | _ =>
        refine .inl (rdg_bindE g e h fun x v r1 G1 H1 s1' ex l1 g1 e1 hx h1 => rdg_bindE g1 e1 h1 fun y u r2 G2 H2 s2 _ l2 g2 e2 hy h2 => ?_)
        rw [hx0] at ex
        cases ex
        obtain ⟨z, hz, h3⟩ := out_lift h2
        cases (show none = some z from hz)
end
end T5

set_option Elab.async false
set_option linter.all false
set_option maxRecDepth 100000
set_option maxHeartbeats 1000000
/-! T5: slices, built-ins. -/
namespace T5
open PySem PySem.Spec L2
open Evl (Ex)

section
variable {K : PySem.W.Frag} {T : Tb} {r : List Addr} {G H : Hp} {s : Sto}
theorem RpL.cutV {ds : List D} {xs : List V} (h : RpL K T r G ds xs) (lo hi : Option Int) : RpL K T r G (cutD ds lo hi) (L2.cutV xs lo hi) := by
  unfold cutD L2.cutV
  rw [h.length]
  exact (h.drop _).take _
/-- lists of values read -/
def RrL (K : PySem.W.Frag) (T : Tb) (r : List Addr) (G H : Hp) : List D → List V → Prop
  | [], vs => vs = []
  | d :: ds, vs => ∃ v t, vs = v :: t ∧ Rr K T r G H d v ∧ RrL K T r G H ds t
theorem RrL.of (g : Gd K T r G H s) : ∀ {ds : List D} {vs : List V}, RpL K T r G ds vs → RrL K T r G H (ds.map (rd s)) vs
  | [], vs, h => h.nil_inv
  | d :: ds, vs, h => by
    obtain ⟨v, t, rfl, h1, h2⟩ := h.cons_inv
    exact ⟨v, t, rfl, Rr.rd g h1, RrL.of g h2⟩
theorem RrL.one {d : D} {vs : List V} (h : RrL K T r G H [d] vs) : ∃ v, vs = [v] ∧ Rr K T r G H d v := by
  obtain ⟨v, t, rfl, h1, h2⟩ := h
  have h2 : t = [] := h2
  subst h2
  exact ⟨v, rfl, h1⟩
theorem RrL.two {d e : D} {vs : List V} (h : RrL K T r G H [d, e] vs) : ∃ v u, vs = [v, u] ∧ Rr K T r G H d v ∧ Rr K T r G H e u := by
  obtain ⟨v, t, rfl, h1, h2⟩ := h
  obtain ⟨u, rfl, h3⟩ := RrL.one h2
  exact ⟨v, u, rfl, h1, h3⟩
theorem rr_scr {ds : List D} {v : V} (g : Gd K T r G H s) (h : Rr K T r G H (.scr ds) v) : ∃ a xs, v = .ref a ∧ SqL K H a xs ∧ RpL K T r G ds xs := by
  obtain ⟨a, xs, e1, e2, e3⟩ := rp_scr (show Rp K T r G (.scr ds) v from h)
  exact ⟨a, xs, e1, Evl.ex_l g.exH e2, e3⟩
end

section
variable {X : Cx} {T : Tb} {W : WX} {cl : Calls} {a b c : Expr} {ca cb cc c' : CE} {pos p0 p2 : Pos} {es : List Expr} {ces : CEs}
def rSlA2 (K : PySem.W.Frag) : V → Option Int → Option Int → Hp → VK → Prop := fun x lo hi H Q => rSlL K x lo hi H Q ∨ rSlA K x lo hi H Q
theorem sl_both : SlR X (rSlA2 X.K) := fun pins s σ H x v vl vu lo hi sl Q I rx hs p1 p2 q => q.elim (sl_list pins s σ H x v vl vu lo hi sl Q I rx hs p1 p2) (sl_tupA pins s σ H x v vl vu lo hi sl Q I rx hs p1 p2)
/-- the reading of a part of a slice -/
def OutP (K : PySem.W.Frag) (T : Tb) (W : WX) (σ : St) (Q : Option Int → Hp → Prop) (r : List Addr) (G H : Hp) : R D → Prop
  | .ok d s => ∃ o, partD d = some o ∧ ∀ r' G' H', Le r G H r' G' H' → Gd K T r' G' H' s → Q o H'
  | .err c ds s => ∀ cv dd r' G' H', Le r G H r' G' H' → Gd K T r' G' H' s → ErrR K T r' G' H' cv dd c ds → W cv dd σ H'
  | .bad => False
def tP (K : PySem.W.Frag) (T : Tb) (W : WX) (cl : Calls) (c : CE) : TO := fun σ H Q => ∃ env s r G, Gd K T r G H s ∧ EnvR K T r G σ env ∧ OutP K T W σ Q r G H (evE cl c env s)
theorem gp_none : PO X none (tP X.K T W cl (.con .non)) := ⟨fun pins s σ H Q I q => (po_none (X := X)).run pins s σ H Q I (by
  obtain ⟨env, s, r, G, g, e, o, h1, h2⟩ := q
  cases h1
  exact h2 r G H Le.refl g)⟩
theorem gp_some {e : Expr} (h : PE X e (tE X.K T W cl c')) : PO X (some e) (tP X.K T W cl (.asInt c')) := ⟨fun pins s σ H Q I q => (po_some h).run pins s σ H Q I (by
  obtain ⟨env, s, r, G, g, e, q⟩ := q
  refine ⟨env, s, r, G, g, e, ?_⟩
  simp only [evE] at q
  cases hq : evE cl c' env s with
  | ok x s1 =>
    rw [hq] at q
    cases x <;> first | exact q.elim | skip
    rename_i i
    obtain ⟨o, h1, h2⟩ := q
    cases h1
    intro y r' G' H' l g' hy
    cases rp_int hy
    exact ⟨i, rfl, h2 r' G' H' l g'⟩
  | err c ds s1 => rw [hq] at q; exact q
  | bad => rw [hq] at q; exact q.elim)⟩
theorem rdgP_bind {K : PySem.W.Frag} {α β : Type} {RR : List Addr → Hp → α → β → Prop} {σ : St} {Q : β → Hp → Prop} {r : List Addr} {G H : Hp} {env : Env} {s : Sto} {f : Option Int → Sto → R α} {Q1 : Option Int → Hp → Prop} (g : Gd K T r G H s) (e : EnvR K T r G σ env)
    (h : Out K T RR W σ Q r G H ((evE cl c' env s).bind fun l s2 => (match partD l with | some l' => f l' s2 | none => .bad)))
    (k : ∀ o r' G' H' s', Le r G H r' G' H' → Gd K T r' G' H' s' → EnvR K T r' G' σ env → Out K T RR W σ Q r' G' H' (f o s') → Q1 o H') : tP K T W cl c' σ H Q1 := by
  refine ⟨env, s, r, G, g, e, ?_⟩
  cases hq : evE cl c' env s with
  | ok x s1 =>
    rw [hq] at h
    have h : Out K T RR W σ Q r G H (match partD x with | some l' => f l' s1 | none => .bad) := h
    cases hp : partD x with
    | none => rw [hp] at h; exact h.elim
    | some o =>
      rw [hp] at h
      exact ⟨o, hp, fun r2 G2 H2 l2 g2 => k o r2 G2 H2 s1 l2 g2 (e.le l2) (Out.le l2 h)⟩
  | err c ds s1 => rw [hq] at h; exact h
  | bad => rw [hq] at h; exact h.elim
theorem slc_ok {K : PySem.W.Frag} {r : List Addr} {G H : Hp} {s : Sto} {l h : Option Int} {x z : D} {v : V} {Q : VK} (g : Gd K T r G H s) (hx : Rr K T r G H x v) (hz : slcD l h x = some z) (n : Nxt K T Q r G H s z) : rSlA2 K v l h H Q := by
  unfold slcD at hz
  split at hz <;> first | (cases hz; done) | skip
  · cases hz
    obtain ⟨p, xs, rfl, e1, e2⟩ := rr_lst hx
    exact .inl ⟨p, xs, rfl, SqL.of e1, n.lst g (e2.cutV l h)⟩
  · cases hz
    obtain ⟨p, xs, rfl, e1, e2⟩ := rr_scr g hx
    exact .inl ⟨p, xs, rfl, e1, n.lst g (e2.cutV l h)⟩
  · rename_i ds
    cases hz
    obtain ⟨p, xs, rfl, e1, e1', e2⟩ := rr_tup g hx
    refine .inr ⟨p, xs, rfl, e1, fun ⟨k1, k2⟩ => n.here g (of_tup e1' ?_), fun _ => n.tup g (e2.cutV l h)⟩
    have hc := e2.cutV l h
    have : L2.cutV xs l h = xs := by
      unfold L2.cutV
      rw [k1, k2]
      simp
    rw [this] at hc
    exact hc
theorem ge_slc {lo hi : Option Expr} {cl' ch' : CE} (ha : PE X a (tE X.K T W cl ca)) (hl : PO X lo (tP X.K T W cl cl')) (hh : PO X hi (tP X.K T W cl ch')) : PE X (.Subscript a (.Slice lo hi none p2) pos) (tE X.K T W cl (.slc ca cl' ch')) :=
  imp_e (pe_slice sl_both ha hl hh) fun σ H Q ⟨env, s, r, G, g, e, h⟩ => by
    simp only [evE] at h
    refine rdg_bind g e h fun x v r1 G1 H1 s1 l1 g1 e1 hx h1 => rdgP_bind g1 e1 h1 fun l r2 G2 H2 s2 l2 g2 e2 h2 => rdgP_bind g2 e2 h2 fun h' r3 G3 H3 s3 l3 g3 e3 h3 => ?_
    obtain ⟨z, hz, h4⟩ := out_lift h3
    exact slc_ok g3 (Rr.rd g3 (hx.le (l2.trans l3))) hz h4

/-! ### built-ins -/
theorem ge_bi {e : Expr} {bb : Bi} {q : List V → Hp → VK → Prop} (h : PE X e (tCB q (tL X.K T W cl ces)))
    (k : ∀ {r : List Addr} {G H : Hp} {s : Sto} {ds : List D} {vs : List V} {z : D} {Q : VK}, Gd X.K T r G H s → RrL X.K T r G H ds vs → biD bb ds = some z → Nxt X.K T Q r G H s z → q vs H Q) : PE X e (tE X.K T W cl (.bi bb ces)) :=
  imp_e h fun σ H Q ⟨env, s, r, G, g, e, h⟩ => by
    simp only [evE] at h
    refine rdg_bind g e h fun ds vs r1 G1 H1 s1 l1 g1 e1 hx h1 => ?_
    obtain ⟨z, hz, h3⟩ := out_lift h1
    exact k g1 (RrL.of g1 hx) hz h3
end

section
variable {K : PySem.W.Frag} {T : Tb} {r : List Addr} {G H : Hp} {s : Sto} {ds : List D} {vs : List V} {z : D} {Q : VK}
def rLenA (K : PySem.W.Frag) : List V → Hp → VK → Prop := fun xs H Q => ∃ p ys, xs = [.ref p] ∧ (SqL K H p ys ∨ SqT K H p ys) ∧ Q (.int ys.length) H
theorem bi_len (g : Gd K T r G H s) (h : RrL K T r G H ds vs) (hz : lenD ds = some z) (n : Nxt K T Q r G H s z) : rLenA K vs H Q := by
  unfold lenD at hz
  split at hz <;> first | (cases hz; done) | skip
  · cases hz
    obtain ⟨v, rfl, h1⟩ := h.one
    obtain ⟨p, xs, rfl, e1, e1', e2⟩ := rr_tup g h1
    exact ⟨p, xs, rfl, .inr e1, by rw [e2.length]; exact n.here g (of_int _)⟩
  · cases hz
    obtain ⟨v, rfl, h1⟩ := h.one
    obtain ⟨p, xs, rfl, e1, e2⟩ := rr_lst h1
    exact ⟨p, xs, rfl, .inl (SqL.of e1), by rw [e2.length]; exact n.here g (of_int _)⟩
  · cases hz
    obtain ⟨v, rfl, h1⟩ := h.one
    obtain ⟨p, xs, rfl, e1, e2⟩ := rr_scr g h1
    exact ⟨p, xs, rfl, .inl e1, by rw [e2.length]; exact n.here g (of_int _)⟩
def rIntB : List V → Hp → VK → Prop := fun xs H Q => (∃ i, xs = [.int i] ∧ Q (.int i) H) ∨ ∃ k, xs = [.bl k] ∧ Q (.int (if k then 1 else 0)) H
theorem bi_int (g : Gd K T r G H s) (h : RrL K T r G H ds vs) (hz : intB ds = some z) (n : Nxt K T Q r G H s z) : rIntB vs H Q := by
  unfold intB at hz
  split at hz <;> first | (cases hz; done) | skip
  cases hz
  obtain ⟨v, rfl, h1⟩ := h.one
  cases rr_int h1
  exact .inl ⟨_, rfl, n.here g (of_int _)⟩
def rListB (K : PySem.W.Frag) : List V → Hp → VK → Prop := fun xs H Q => ∃ p ys, xs = [.ref p] ∧ (SqL K H p ys ∨ SqT K H p ys) ∧ ∀ l, H l = none → Q (.ref l) (upd H l (.lst ys))
theorem bi_list (g : Gd K T r G H s) (h : RrL K T r G H ds vs) (hz : listB ds = some z) (n : Nxt K T Q r G H s z) : rListB K vs H Q := by
  unfold listB at hz
  split at hz <;> first | (cases hz; done) | skip
  · cases hz
    obtain ⟨v, rfl, h1⟩ := h.one
    obtain ⟨p, xs, rfl, e1, e2⟩ := rr_lst h1
    exact ⟨p, xs, rfl, .inl (SqL.of e1), n.lst g e2⟩
  · cases hz
    obtain ⟨v, rfl, h1⟩ := h.one
    obtain ⟨p, xs, rfl, e1, e1', e2⟩ := rr_tup g h1
    exact ⟨p, xs, rfl, .inr e1, n.lst g e2⟩
  · cases hz
    obtain ⟨v, rfl, h1⟩ := h.one
    obtain ⟨p, xs, rfl, e1, e2⟩ := rr_scr g h1
    exact ⟨p, xs, rfl, .inl e1, n.lst g e2⟩
def rTupB (K : PySem.W.Frag) : List V → Hp → VK → Prop := fun xs H Q => ∃ p ys, xs = [.ref p] ∧ ((SqL K H p ys ∧ ∀ l, H l = none → Q (.ref l) (upd H l (.tup ys))) ∨ (SqT K H p ys ∧ Q (.ref p) H))
theorem bi_tup (g : Gd K T r G H s) (h : RrL K T r G H ds vs) (hz : tupB ds = some z) (n : Nxt K T Q r G H s z) : rTupB K vs H Q := by
  unfold tupB at hz
  split at hz <;> first | (cases hz; done) | skip
  · cases hz
    obtain ⟨v, rfl, h1⟩ := h.one
    obtain ⟨p, xs, rfl, e1, e2⟩ := rr_lst h1
    exact ⟨p, xs, rfl, .inl ⟨SqL.of e1, n.tup g e2⟩⟩
  · cases hz
    obtain ⟨v, rfl, h1⟩ := h.one
    obtain ⟨p, xs, rfl, e1, e1', e2⟩ := rr_tup g h1
    exact ⟨p, xs, rfl, .inr ⟨e1, n.here g (of_tup e1' e2)⟩⟩
theorem ints_ok : ∀ {ds : List D} {ns : List Int} {xs : List V}, intsOf ds = some ns → RpL K T r G ds xs → xs = ns.map V.int
  | [], ns, xs, h, k => by
    unfold intsOf at h
    cases h
    exact k.nil_inv
  | d :: ds, ns, xs, h, k => by
    obtain ⟨v, t, rfl, k1, k2⟩ := k.cons_inv
    cases d <;> first | (simp [intsOf] at h; done) | skip
    rename_i i
    unfold intsOf at h
    cases hq : intsOf ds with
    | none => rw [hq] at h; cases h
    | some ms =>
      rw [hq] at h
      cases h
      rw [rp_int k1, ints_ok hq k2]
      rfl
theorem of_ints : ∀ (ns : List Int), RpL K T r G (ns.map ofI) (ns.map V.int)
  | [] => .nil
  | i :: ns => .cons (of_int i) (of_ints ns)
/-! sorting ints -/
theorem insI_perm (x : Int) : ∀ l : List Int, (insI x l).Perm (x :: l)
  | [] => .refl _
  | y :: l => by
    unfold insI
    split
    · exact .refl _
    · exact ((insI_perm x l).cons y).trans (.swap x y l)
theorem srtI_perm : ∀ l : List Int, (srtI l).Perm l
  | [] => .refl _
  | x :: l => (insI_perm x (srtI l)).trans ((srtI_perm l).cons x)
theorem insI_sorted (x : Int) : ∀ l : List Int, l.Pairwise (· ≤ ·) → (insI x l).Pairwise (· ≤ ·)
  | [], _ => by simp [insI]
  | y :: l, h => by
    unfold insI
    have h' := List.pairwise_cons.mp h
    split
    · rename_i hxy
      refine List.pairwise_cons.mpr ⟨fun z hz => ?_, h⟩
      rcases List.mem_cons.mp hz with rfl | hz
      · exact hxy
      · exact Int.le_trans hxy (h'.1 z hz)
    · rename_i hxy
      refine List.pairwise_cons.mpr ⟨fun z hz => ?_, insI_sorted x l h'.2⟩
      rcases List.mem_cons.mp ((insI_perm x l).mem_iff.mp hz) with rfl | hz
      · omega
      · exact h'.1 z hz
theorem srtI_sorted : ∀ l : List Int, (srtI l).Pairwise (· ≤ ·)
  | [] => List.Pairwise.nil
  | x :: l => insI_sorted x _ (srtI_sorted l)
theorem sorted_eq {a b : List Int} (p : a.Perm b) (ha : a.Pairwise (· ≤ ·)) (hb : b.Pairwise (· ≤ ·)) : a = b := p.eq_of_pairwise (fun x y _ _ h1 h2 => Int.le_antisymm h1 h2) ha hb
end
end T5

set_option Elab.async false
set_option linter.all false
set_option maxRecDepth 100000
set_option maxHeartbeats 4000000
/-! T5: rules of our own: sum of a tuple of ints; len(set(..)) of a list of ints. -/
namespace T5
open PySem PySem.Spec PyProof.Rows L2
section
variable {X : Cx}
def rSumT (K : PySem.W.Frag) : List V → Hp → VK → Prop := fun vs H Q => ∃ (a : Addr) (ns : List Int), vs = [V.ref a] ∧ SqT K H a (ns.map V.int) ∧ Q (.int ns.sum) H
theorem call_sumT (hc : X.calm = true) : CallR X (.builtin "sum") (rSumT X.K) := by
  intro pins s σ H xs us Q I rx h
  obtain ⟨a, ns, rfl, hT, q⟩ := h
  cases rx with
  | cons ra rt =>
    cases rt
    cases ra
    obtain ⟨its, rv, ⟨o, ho, hcl, n, hd⟩, hz⟩ := I.tuple hT
    have hi : IntsAre its ns := RZ.intsAre_vals rv
    obtain ⟨ys, e⟩ := hi.allInts.items
    have hn : numsOf (intItems ys).toList = ns := by
      rw [← e]
      exact hi.numsOf
    rw [nums_intItems] at hn
    have ht : s.heap.IsTuple a (intItems ys) := by
      rw [← e]
      exact ⟨o, ho, hcl, n, hd⟩
    refine PySem.W.ktm_sumG (I.ok.hd hc) ht fun h' tk t' hk => ?_
    rw [preSum_eq, List.take_of_length_le (by simp), hn]
    exact ⟨.int ns.sum, H, I.un (Un.kept hk) (I.hok.kept hk), ⟨t', rfl⟩, q⟩
/-- how many unlike ones -/
def tLenSetA (K : PySem.W.Frag) (ta : TE) : TE := fun σ H Q => ta σ H fun x H1 => ∃ (l : Addr) (ns : List Int), x = .ref l ∧ SqL K H1 l (ns.map V.int) ∧ ns.length ≤ 4000 ∧ Q (.int (PyProof.Rows.firstMet (fun i => ns.getD i 0) ns.length).length) H1
theorem pe_lenSetA {a : Expr} {ta : TE} {p p2 q pos : Pos} (hg : Gl X "len") (hm : X.mg "len" = none) (hg2 : Gl X "set") (hm2 : X.mg "set" = none) (ha : PE X a ta) (hc : X.calm = true)
    (na : starEach [a] X.env = (false, eval a X.env) :: starEach [] X.env) : PE X (.Call (.Name "len" p) [.Call (.Name "set" p2) [a] [] q] [] pos) (tLenSetA X.K ta) := ⟨fun pins s σ H Q I h => by
  refine Call_ (ld_blt I hg hm boot_len (callWith_builtin1 (args_cons ?_ rfl) rfl rfl))
  refine Call_ (ld_blt I hg2 hm2 boot_set (callWith_type1 (args_cons (thn (ha.run pins s σ H _ I h) fun v s1 ⟨x, H1, I1, r1, q1⟩ => args_nil ?_) na) na rfl))
  obtain ⟨l, ns, rfl, hq, hl, q1⟩ := q1
  cases r1
  obtain ⟨its, r, pl, hz⟩ := I1.list hq
  have hlen : its.toArray.size = ns.length := by rw [List.size_toArray, ← r.length, List.length_map]
  refine call_set_list (I1.ok.hd hc) pl.isList (by simpa using RZ.intsAre_vals r) (by rw [hlen]; unfold scanBound; omega) fun h' tk hS hk => args_nil ?_
  rw [hlen] at hS
  obtain ⟨o, es, ep, t, ho, hex, hd, _, _, _, hf, hn⟩ := hS
  have I2 : L2.Inv X pins σ H1 { s1 with heap := h', toks := tk } := I1.kept fun b o e => hk b o (Heap.lt_size e) e
  have hb := firstMet_length_le (fun i => ns.getD i 0) ns.length
  exact call_len_set ho hex hd hf (by rw [hn]; omega) ⟨.int _, H1, I2.tok _, ⟨_, by rw [hn]⟩, q1⟩⟩
end
end T5

set_option Elab.async false
set_option linter.all false
set_option maxRecDepth 100000
set_option maxHeartbeats 1000000
/-! T5: sums, sorting, repr, isinstance. -/
namespace T5
open PySem PySem.Spec L2
open Evl (Ex)
section
variable {K : PySem.W.Frag} {T : Tb} {r : List Addr} {G H : Hp} {s : Sto} {ds : List D} {vs : List V} {z : D} {Q : VK}
theorem sum_ok : ∀ {ds : List D} {n : Int} {xs : List V}, sumD ds = some n → RpL K T r G ds xs → ∃ ns : List Int, xs = ns.map V.int ∧ ns.sum = n
  | [], n, xs, h, k => by
    unfold sumD at h
    cases h
    exact ⟨[], k.nil_inv, rfl⟩
  | d :: ds, n, xs, h, k => by
    obtain ⟨v, t, rfl, k1, k2⟩ := k.cons_inv
    cases d <;> first | (simp [sumD] at h; done) | skip
    rename_i i
    unfold sumD at h
    cases hq : sumD ds with
    | none => rw [hq] at h; cases h
    | some m =>
      rw [hq] at h
      cases h
      obtain ⟨ns, e1, e2⟩ := sum_ok hq k2
      exact ⟨i :: ns, by rw [rp_int k1, e1]; rfl, by rw [List.sum_cons, e2]⟩
def rSumA (K : PySem.W.Frag) : List V → Hp → VK → Prop := fun xs H Q => rSum K xs H Q ∨ rSumT K xs H Q
theorem bi_sum (g : Gd K T r G H s) (h : RrL K T r G H ds vs) (hz : sumB ds = some z) (n : Nxt K T Q r G H s z) : rSumA K vs H Q := by
  unfold sumB at hz
  split at hz <;> first | (cases hz; done) | skip
  · rename_i ds
    cases hq : sumD ds with
    | none => rw [hq] at hz; cases hz
    | some m =>
      rw [hq] at hz
      cases hz
      obtain ⟨v, rfl, h1⟩ := h.one
      obtain ⟨p, xs, rfl, e1, e1', e2⟩ := rr_tup g h1
      obtain ⟨ns, rfl, e3⟩ := sum_ok hq e2
      exact .inr ⟨p, ns, rfl, e1, by rw [e3]; exact n.here g (of_int _)⟩
  · rename_i ds
    cases hq : sumD ds with
    | none => rw [hq] at hz; cases hz
    | some m =>
      rw [hq] at hz
      cases hz
      obtain ⟨v, rfl, h1⟩ := h.one
      obtain ⟨p, xs, rfl, e1, e2⟩ := rr_lst h1
      obtain ⟨ns, rfl, e3⟩ := sum_ok hq e2
      exact .inl ⟨p, ns, rfl, SqL.of e1, by rw [e3]; exact n.here g (of_int _)⟩

/-! ### sorting pairs -/
theorem leP_total (a b : Int × Int) : leP a b = true ∨ leP b a = true := by
  unfold leP
  simp only [Bool.or_eq_true, Bool.and_eq_true, decide_eq_true_eq, beq_iff_eq]
  omega
theorem leP_trans {a b c : Int × Int} (h1 : leP a b = true) (h2 : leP b c = true) : leP a c = true := by
  unfold leP at *
  simp only [Bool.or_eq_true, Bool.and_eq_true, decide_eq_true_eq, beq_iff_eq] at *
  omega
theorem leP_anti {a b : Int × Int} (h1 : leP a b = true) (h2 : leP b a = true) : a = b := by
  unfold leP at *
  simp only [Bool.or_eq_true, Bool.and_eq_true, decide_eq_true_eq, beq_iff_eq] at *
  have e1 : a.1 = b.1 := by omega
  have e2 : a.2 = b.2 := by omega
  exact Prod.ext e1 e2
theorem insP_perm (x : Int × Int) : ∀ l : List (Int × Int), (insP x l).Perm (x :: l)
  | [] => .refl _
  | y :: l => by
    unfold insP
    split
    · exact .refl _
    · exact ((insP_perm x l).cons y).trans (.swap x y l)
theorem srtP_perm : ∀ l : List (Int × Int), (srtP l).Perm l
  | [] => .refl _
  | x :: l => (insP_perm x (srtP l)).trans ((srtP_perm l).cons x)
theorem insP_sorted (x : Int × Int) : ∀ l : List (Int × Int), l.Pairwise (fun a b => leP a b = true) → (insP x l).Pairwise (fun a b => leP a b = true)
  | [], _ => by simp [insP]
  | y :: l, h => by
    unfold insP
    have h' := List.pairwise_cons.mp h
    split
    · rename_i hxy
      refine List.pairwise_cons.mpr ⟨fun z hz => ?_, h⟩
      rcases List.mem_cons.mp hz with rfl | hz
      · exact hxy
      · exact leP_trans hxy (h'.1 z hz)
    · rename_i hxy
      refine List.pairwise_cons.mpr ⟨fun z hz => ?_, insP_sorted x l h'.2⟩
      rcases List.mem_cons.mp ((insP_perm x l).mem_iff.mp hz) with rfl | hz
      · exact (leP_total _ _).resolve_left hxy
      · exact h'.1 z hz
theorem srtP_sorted : ∀ l : List (Int × Int), (srtP l).Pairwise (fun a b => leP a b = true)
  | [] => List.Pairwise.nil
  | x :: l => insP_sorted x _ (srtP_sorted l)
theorem prs_ok : ∀ {ds : List D} {ps : List (Int × Int)} {xs : List V}, prs ds = some ps → RpL K T r G ds xs → ds = ps.map ofP
  | [], ps, xs, h, k => by
    unfold prs at h
    cases h
    rfl
  | d :: ds, ps, xs, h, k => by
    obtain ⟨v, t, rfl, k1, k2⟩ := k.cons_inv
    unfold prs at h
    split at h <;> first | (cases h; done) | skip
    · rename_i heq
      cases heq
    · rename_i i j r' heq
      cases heq
      cases hq : prs ds with
      | none => rw [hq] at h; cases h
      | some qs =>
        rw [hq] at h
        cases h
        rw [prs_ok hq k2]
        rfl
/-- the pair that a value is -/
def keyV (H : Hp) (x : V) : Int × Int :=
  match x with
  | .ref t => (match H t with
    | some (.tup [.int i, .int j]) => (i, j)
    | _ => (0, 0))
  | _ => (0, 0)
theorem pairs_at (g : Gd K T r G H s) : ∀ {ps : List (Int × Int)} {xs : List V}, RpL K T r G (ps.map ofP) xs → xs.map (keyV H) = ps ∧ ∀ x ∈ xs, (∃ t, x = .ref t ∧ H t = some (.tup [.int (keyV H x).1, .int (keyV H x).2])) ∧ Rp K T r G (ofP (keyV H x)) x
  | [], xs, h => by
    have h : RpL K T r G [] xs := h
    rw [h.nil_inv]
    exact ⟨rfl, fun x hx => by cases hx⟩
  | p :: ps, xs, h => by
    obtain ⟨v, t, rfl, k1, k2⟩ := RpL.cons_inv (show RpL K T r G (ofP p :: ps.map ofP) xs from h)
    obtain ⟨i1, i2⟩ := pairs_at g k2
    have k1' := k1
    unfold ofP at k1
    obtain ⟨a, ys, rfl, e1, e2⟩ := rp_tup k1
    obtain ⟨y1, t1, rfl, m1, m2⟩ := e2.cons_inv
    obtain ⟨y2, t2, rfl, m3, m4⟩ := m2.cons_inv
    have m5 := m4.nil_inv
    subst m5
    have c1 := rp_int m1
    have c2 := rp_int m3
    subst c1 c2
    have hk : keyV H (.ref a) = p := by
      show (match H a with | some (.tup [.int i, .int j]) => (i, j) | _ => (0, 0)) = p
      rw [g.sub _ _ e1]
    refine ⟨by rw [List.map_cons, hk, i1], fun x hx => ?_⟩
    rcases List.mem_cons.mp hx with rfl | hx
    · exact ⟨⟨a, rfl, by rw [hk]; exact g.sub _ _ e1⟩, by rw [hk]; exact k1'⟩
    · exact i2 x hx
theorem of_pairs (g : Gd K T r G H s) : ∀ {xs : List V}, (∀ x ∈ xs, Rp K T r G (ofP (keyV H x)) x) → RpL K T r G ((xs.map (keyV H)).map ofP) xs
  | [], _ => .nil
  | x :: xs, h => .cons (h x (List.mem_cons_self ..)) (of_pairs g fun y hy => h y (List.mem_cons_of_mem _ hy))
def rSortA (K : PySem.W.Frag) : List V → Hp → VK → Prop := fun xs H Q => rSortedI K xs H Q ∨ rSortedPO K xs H Q
theorem bi_sorted (g : Gd K T r G H s) (h : RrL K T r G H ds vs) (hz : sortB ds = some z) (n : Nxt K T Q r G H s z) : rSortA K vs H Q := by
  unfold sortB at hz
  split at hz <;> first | (cases hz; done) | skip
  rename_i ds
  obtain ⟨v, rfl, h1⟩ := h.one
  obtain ⟨p, xs, rfl, e1, e2⟩ := rr_lst h1
  unfold srtD at hz
  split at hz
  · rename_i ns hns
    cases hz
    have hx := ints_ok hns e2
    subst hx
    refine .inl ⟨p, ns, rfl, SqL.of e1, fun ns' q hp hs hq => ?_⟩
    have : ns' = srtI ns := sorted_eq (hp.trans (srtI_perm ns).symm) hs (srtI_sorted ns)
    subst this
    exact n.lst g (of_ints _) q hq
  · split at hz
    · rename_i ps hps
      cases hz
      have hd := prs_ok hps e2
      subst hd
      obtain ⟨i1, i2⟩ := pairs_at g e2
      refine .inr ⟨p, xs, keyV H, rfl, SqL.of e1, fun x hx => (i2 x hx).1, fun ys q hs hb hq => ?_⟩
      have hpm : ys.Perm xs := hb.perm
      have hsort : (ys.map (keyV H)).Pairwise (fun a b => leP a b = true) := by
        rw [List.pairwise_map]
        refine List.Pairwise.imp ?_ hs
        intro a b hab
        have hab : SrtO.lexB (keyV H b) (keyV H a) = false := hab
        have hn : ¬ SrtO.lexB (keyV H b) (keyV H a) = true := by rw [hab]; decide
        rw [SrtO.lexB_iff] at hn
        unfold leP
        simp only [Bool.or_eq_true, Bool.and_eq_true, decide_eq_true_eq, beq_iff_eq]
        omega
      have hk : ys.map (keyV H) = srtP ps := by
        refine List.Perm.eq_of_pairwise (le := fun a b => leP a b = true) (fun a b _ _ h1 h2 => leP_anti h1 h2) hsort (srtP_sorted ps) ?_
        have hp2 : (ys.map (keyV H)).Perm (xs.map (keyV H)) := hpm.map _
        rw [i1] at hp2
        exact hp2.trans (srtP_perm ps).symm
      have ho := of_pairs g (xs := ys) fun y hy => (i2 y (hpm.mem_iff.mp hy)).2
      rw [hk] at ho
      exact n.lst g ho q hq
    · cases hz
/-! ### repr, isinstance -/
theorem rep_ok {d : D} {z : D} (hz : repD d = some z) : z = .rep d ∧ ∃ p, toP d = some p ∧ p.showable = true ∧ SeqAt.shaped p = true ∧ p.shown.length ≤ sizeLine := by
  unfold repD at hz
  cases hp : toP d with
  | none => rw [hp] at hz; cases hz
  | some p =>
    rw [hp] at hz
    simp only [Option.bind_some] at hz
    split at hz
    · rename_i hc
      cases hz
      simp only [Bool.and_eq_true] at hc
      obtain ⟨⟨⟨c1, c2⟩, c3⟩, c4⟩ := hc
      refine ⟨rfl, p, rfl, c2, c1, ?_⟩
      have hb := PyData.shown_le_bulk 2000 (by decide) p c3
      have hk : p.bulk ≤ 5000 := Nat.le_of_ble_eq_true c4
      rw [sizeLine_eq]
      omega
    · cases hz
theorem bi_repr (g : Gd K T r G H s) (h : RrL K T r G H ds vs) (hz : reprB ds = some z) (n : Nxt K T Q r G H s z) : rReprD K vs H Q := by
  unfold reprB at hz
  split at hz <;> first | (cases hz; done) | skip
  · rename_i ds
    obtain ⟨v, rfl, h1⟩ := h.one
    obtain ⟨rfl, p, e1, e2, e3, e4⟩ := rep_ok hz
    have hd := dp_rd g e1 h1
    obtain ⟨a, xs, rfl, k1, k1', k2⟩ := rr_tup g h1
    exact ⟨a, p, rfl, hd, e2, e3, e4, n.here g (by unfold Rp; exact ⟨p, e1, rfl⟩)⟩
  · rename_i ds
    obtain ⟨v, rfl, h1⟩ := h.one
    obtain ⟨rfl, p, e1, e2, e3, e4⟩ := rep_ok hz
    have hd := dp_rd g e1 h1
    obtain ⟨a, xs, rfl, k1, k2⟩ := rr_lst h1
    exact ⟨a, p, rfl, hd, e2, e3, e4, n.here g (by unfold Rp; exact ⟨p, e1, rfl⟩)⟩
theorem tyOk_cases {t : String} (h : tyOk t = true) : t = "int" ∨ t = "bool" ∨ t = "str" ∨ t = "tuple" ∨ t = "list" := by
  unfold tyOk at h
  simp only [Bool.or_eq_true, beq_iff_eq] at h
  rcases h with (((h | h) | h) | h) | h
  · exact .inl h
  · exact .inr (.inl h)
  · exact .inr (.inr (.inl h))
  · exact .inr (.inr (.inr (.inl h)))
  · exact .inr (.inr (.inr (.inr h)))
theorem bi_isi (g : Gd K T r G H s) (h : RrL K T r G H ds vs) (hz : isiB ds = some z) (n : Nxt K T Q r G H s z) : rIsi K vs H Q := by
  unfold isiB at hz
  split at hz <;> first | (cases hz; done) | skip
  rename_i d t
  split at hz
  · rename_i ht
    obtain ⟨v, u, rfl, h1, h2⟩ := h.two
    have hu : u = .ty t := by
      have h2 : Rp K T r G (.ty t) u := h2
      unfold Rp at h2
      exact h2
    subst hu
    cases hb : isiD d t with
    | none => rw [hb] at hz; cases hz
    | some b =>
      rw [hb] at hz
      cases hz
      have fin : ∀ {tn : String}, TyX K H v (.type tn) → kitB tn t = some b → rIsi K [v, .ty t] H Q := fun hx hk => ⟨v, .ty t, _, _, b, rfl, .ty t, hx, kit_ty hk, n.here g (of_bl _)⟩
      have cs := tyOk_cases ht
      cases d <;> first | (cases hb; done) | skip
      · have h1 : Rp K T r G .non v := h1
        unfold Rp at h1
        subst h1
        refine fin (.base .non) ?_
        rcases cs with rfl | rfl | rfl | rfl | rfl <;> (cases hb; decide +kernel)
      · have h1 : Rp K T r G (.bl _) v := h1
        cases rp_bl h1
        refine fin (.base (.bl _)) ?_
        rcases cs with rfl | rfl | rfl | rfl | rfl <;> (cases hb; decide +kernel)
      · cases rr_int h1
        refine fin (.base (.int _)) ?_
        rcases cs with rfl | rfl | rfl | rfl | rfl <;> (cases hb; decide +kernel)
      · have h1 : Rp K T r G (.str _) v := h1
        unfold Rp at h1
        subst h1
        refine fin (.base (.str _)) ?_
        rcases cs with rfl | rfl | rfl | rfl | rfl <;> (cases hb; decide +kernel)
      · obtain ⟨a, xs, rfl, k1, k1', k2⟩ := rr_tup g h1
        refine fin (.base (.tup (g.sub _ _ k1'))) ?_
        rcases cs with rfl | rfl | rfl | rfl | rfl <;> (cases hb; decide +kernel)
      · obtain ⟨a, xs, rfl, k1, k2⟩ := rr_lst h1
        refine fin (.base (.lst k1)) ?_
        rcases cs with rfl | rfl | rfl | rfl | rfl <;> (cases hb; decide +kernel)
  · cases hz
end
end T5

set_option Elab.async false
set_option linter.all false
set_option maxRecDepth 100000
set_option maxHeartbeats 1000000
/-! T5: what is walked; targets; list comprehensions. -/
namespace T5
open PySem PySem.Spec L2
open Evl (Ex)

/-- an iterator goes through these items, while what never changes stands -/
def ItR (K : PySem.W.Frag) (T : Tb) (r : List Addr) (G : Hp) (J : It) (items : List D) : Prop :=
  ∀ (r2 : List Addr) (G2 H2 : Hp) (s2 : Sto), Pre r r2 → Ex G G2 → Gd K T r2 G2 H2 s2 → ∀ i : Nat, (i < items.length → J.go i H2) ∧ (i = items.length → J.stop i H2) ∧
    ∀ (x : V) (H' : Hp) (d : D), items[i]? = some d → J.yld i H2 x H' → ∃ G', Le r2 G2 H2 r2 G' H' ∧ Gd K T r2 G' H' s2 ∧ Rp K T r2 G' d x
def OutI (K : PySem.W.Frag) (T : Tb) (W : WX) (σ : St) (Q : It → Hp → Prop) (r : List Addr) (G H : Hp) : R D → Prop
  | .ok d s => ∃ items, seqOf d = some items ∧ ∀ J r' G' H', Le r G H r' G' H' → Gd K T r' G' H' s → ItR K T r' G' J items → Q J H'
  | .err c ds s => ∀ cv dd r' G' H', Le r G H r' G' H' → Gd K T r' G' H' s → ErrR K T r' G' H' cv dd c ds → W cv dd σ H'
  | .bad => False
def tI (K : PySem.W.Frag) (T : Tb) (W : WX) (cl : Calls) (c : CE) : TI := fun σ H Q => ∃ env s r G, Gd K T r G H s ∧ EnvR K T r G σ env ∧ OutI K T W σ Q r G H (evE cl c env s)

section
variable {K : PySem.W.Frag} {T : Tb} {r r' : List Addr} {G G' H H' : Hp} {s : Sto}
theorem Gd.same_le (g : Gd K T r G H s) : Le r G H r G H := Le.refl
theorem it_lst {a : Addr} {xs : List V} {ds : List D} (h : SqL K G a xs) (k : RpL K T r G ds xs) : ItR K T r G (Itl K a) ds := fun r2 G2 H2 s2 p e g i => by
  have hl : SqL K H2 a xs := Evl.ex_l (e.trans g.exH) h
  have hn := k.length
  refine ⟨fun hi => ?_, fun hi => ?_, fun x H' d hd hy => ?_⟩
  · exact ⟨xs, xs[i]'(by omega), hl, List.getElem?_eq_getElem (by omega)⟩
  · exact ⟨xs, hl, by omega⟩
  · obtain ⟨rfl, hx⟩ := hy
    obtain ⟨v, e1, e2⟩ := k.get hd
    have : some x = some v := (hx xs hl).symm.trans e1
    cases this
    exact ⟨G2, Le.refl, g, e2.mono p e⟩
theorem it_tup {a : Addr} {xs : List V} {ds : List D} (h : SqT K G a xs) (k : RpL K T r G ds xs) : ItR K T r G (Itt K a) ds := fun r2 G2 H2 s2 p e g i => by
  have hl : SqT K H2 a xs := Evl.ex_t (e.trans g.exH) h
  have hn := k.length
  refine ⟨fun hi => ?_, fun hi => ?_, fun x H' d hd hy => ?_⟩
  · exact ⟨xs, xs[i]'(by omega), hl, List.getElem?_eq_getElem (by omega)⟩
  · exact ⟨xs, hl, by omega⟩
  · obtain ⟨rfl, hx⟩ := hy
    obtain ⟨v, e1, e2⟩ := k.get hd
    have : some x = some v := (hx xs hl).symm.trans e1
    cases this
    exact ⟨G2, Le.refl, g, e2.mono p e⟩
theorem range_get {lo : Int} {n i : Nat} {d : D} (h : (rangeD lo n)[i]? = some d) : i < n ∧ d = .int (lo + (i : Nat)) := by
  unfold rangeD at h
  rw [List.getElem?_map] at h
  by_cases hi : i < n
  · rw [List.getElem?_range hi] at h
    cases h
    exact ⟨hi, rfl⟩
  · rw [List.getElem?_eq_none (by simpa using hi)] at h
    cases h
theorem range_len (lo : Int) (n : Nat) : (rangeD lo n).length = n := by simp [rangeD]
theorem it_rng (lo : Int) (n : Nat) : ItR K T r G (Itr lo n) (rangeD lo n) := fun r2 G2 H2 s2 p e g i => by
  rw [range_len]
  refine ⟨fun hi => hi, fun hi => ?_, fun x H' d hd hy => ?_⟩
  · show n ≤ i
    omega
  · obtain ⟨rfl, hx⟩ := hy
    obtain ⟨_, rfl⟩ := range_get hd
    subst hx
    exact ⟨G2, Le.refl, g, of_int _⟩
end

section
variable {X : Cx} {T : Tb} {W : WX} {cl : Calls} {a b c e : Expr} {ca cb cc : CE} {pos p : Pos} {tg : Expr}
theorem imp_i {w w' : TI} (h : PI X tg e w) (i : ∀ σ H Q, w' σ H Q → w σ H Q) : PI X tg e w' := ⟨fun pins s σ H Q I q => h.run pins s σ H Q I (i σ H Q q)⟩
theorem or_i {w w' : TI} (h : PI X tg e w) (k : PI X tg e w') : PI X tg e (fun σ H Q => w σ H Q ∨ w' σ H Q) := ⟨fun pins s σ H Q I q => q.elim (h.run pins s σ H Q I) (k.run pins s σ H Q I)⟩
/-- a list or a tuple, as it is -/
theorem gi_seq (h : PE X e (tE X.K T W cl ca)) : PI X tg e (tI X.K T W cl ca) :=
  imp_i (or_i (pi_list h) (pi_tup h)) fun σ H Q ⟨env, s, r, G, g, ee, h⟩ => by
    cases hq : evE cl ca env s with
    | bad => rw [hq] at h; exact h.elim
    | err c ds s1 => rw [hq] at h; exact .inl ⟨env, s, r, G, g, ee, by rw [hq]; exact h⟩
    | ok d s1 =>
      rw [hq] at h
      obtain ⟨items, h1, h2⟩ := h
      cases d <;> first | (cases h1; done) | skip
      · cases h1
        refine .inr ⟨env, s, r, G, g, ee, ?_⟩
        rw [hq]
        intro y r' G' H' l g' hy
        obtain ⟨p, xs, rfl, k1, k2⟩ := rp_tup hy
        exact ⟨p, rfl, ⟨xs, SqT.of (g'.sub _ _ k1)⟩, h2 _ r' G' H' l g' (it_tup (SqT.of k1) k2)⟩
      · cases h1
        refine .inl ⟨env, s, r, G, g, ee, ?_⟩
        rw [hq]
        intro y r' G' H' l g' hy
        obtain ⟨p, xs, rfl, k1, k2⟩ := rr_lst (Rr.of g' hy)
        have hy' := hy
        unfold Rp at hy'
        obtain ⟨p', xs', e0, k1', k2'⟩ := hy'
        cases e0
        exact ⟨p, rfl, ⟨xs, SqL.of k1⟩, h2 _ r' G' H' l g' (it_lst (SqL.of k1') k2')⟩
theorem okR_of {i : Int} (h : okR i = true) : -(2 ^ 60) ≤ i ∧ i ≤ 2 ^ 60 := by
  have h' := Bool.and_eq_true_iff.mp h
  exact ⟨of_decide_eq_true h'.1, of_decide_eq_true h'.2⟩
theorem gi_rng1 (hg : Gl X "range") (hm : X.mg "range" = none) (ha : PE X a (tE X.K T W cl ca)) (hs : starEach [a] X.env = (false, eval a X.env) :: starEach [] X.env) : PI X tg (.Call (.Name "range" p) [a] [] pos) (tI X.K T W cl (.rng1 ca)) :=
  imp_i (pi_range1 hg hm (gl_cons ha gl_nil hs) (hs := hs)) fun σ H Q ⟨env, s, r, G, g, ee, h⟩ => ⟨env, s, r, G, g, ee, by
    simp only [evE] at h
    simp only [evEs]
    cases hq : evE cl ca env s with
    | bad => rw [hq] at h; exact h.elim
    | err c ds s1 => rw [hq] at h; exact h
    | ok d s1 =>
      rw [hq] at h
      cases d <;> first | exact (show False from h).elim | skip
      rename_i n
      show Out X.K T (RpL X.K T) W σ _ r G H (.ok [.int n] s1)
      simp only [R.bind] at h
      split at h
      · rename_i hc
        obtain ⟨items, h1, h2⟩ := h
        cases h1
        intro y r' G' H' l g' hy
        obtain ⟨v, t, rfl, m1, m2⟩ := hy.cons_inv
        have := m2.nil_inv
        subst this
        cases rp_int m1
        have ho := okR_of hc
        exact ⟨n, rfl, by omega, by omega, h2 _ r' G' H' l g' (it_rng 0 n.toNat)⟩
      · exact h.elim⟩
theorem gi_rng2 (hg : Gl X "range") (hm : X.mg "range" = none) (ha : PE X a (tE X.K T W cl ca)) (hb : PE X b (tE X.K T W cl cb)) (hs : starEach [a, b] X.env = (false, eval a X.env) :: starEach [b] X.env) (hs2 : starEach [b] X.env = (false, eval b X.env) :: starEach [] X.env) :
    PI X tg (.Call (.Name "range" p) [a, b] [] pos) (tI X.K T W cl (.rng2 ca cb)) :=
  imp_i (pi_range2 hg hm (gl_cons ha (gl_cons hb gl_nil hs2) hs) (hs := by rw [hs, hs2]; rfl) (hs2 := hs2)) fun σ H Q ⟨env, s, r, G, g, ee, h⟩ => ⟨env, s, r, G, g, ee, by
    simp only [evE] at h
    simp only [evEs]
    cases hq : evE cl ca env s with
    | bad => rw [hq] at h; exact h.elim
    | err c ds s1 => rw [hq] at h; exact h
    | ok d s1 =>
      rw [hq] at h
      simp only [R.bind] at h
      show Out X.K T (RpL X.K T) W σ _ r G H (((evE cl cb env s1).bind fun d2 s2 => .ok [d2] s2).bind fun ds s2 => .ok (d :: ds) s2)
      cases hq2 : evE cl cb env s1 with
      | bad => rw [hq2] at h; exact h.elim
      | err c ds s2 => rw [hq2] at h; exact h
      | ok d2 s2 =>
        rw [hq2] at h
        cases d <;> first | exact (show False from h).elim | skip
        cases d2 <;> first | exact (show False from h).elim | skip
        rename_i i j
        show Out X.K T (RpL X.K T) W σ _ r G H (.ok [.int i, .int j] s2)
        simp only at h
        split at h
        · rename_i hc
          obtain ⟨items, h1, h2⟩ := h
          cases h1
          intro y r' G' H' l g' hy
          obtain ⟨v, t, rfl, m1, m2⟩ := hy.cons_inv
          obtain ⟨v2, t2, rfl, m3, m4⟩ := m2.cons_inv
          have := m4.nil_inv
          subst this
          cases rp_int m1
          cases rp_int m3
          have hc' := Bool.and_eq_true_iff.mp hc
          have h1 := okR_of hc'.1
          have h2' := okR_of hc'.2
          exact ⟨i, j, rfl, ⟨by omega, by omega, by omega, by omega⟩, h2 _ r' G' H' l g' (it_rng i (j - i).toNat)⟩
        · exact h.elim⟩
end

/-! ### targets -/
theorem wipe_get {σ : St} {vs : List Nat} (i : Nat) : (L2.wipe σ vs)[i]? = if i ∈ vs then (if i < σ.length then some none else none) else σ[i]? := by
  induction vs with
  | nil => simp [L2.wipe]
  | cons v vs ih =>
    unfold L2.wipe
    have hl := L2.wipe_length σ vs
    by_cases h : v = i
    · subst h
      rw [if_pos (List.mem_cons_self ..)]
      by_cases hv : v < σ.length
      · rw [if_pos hv, List.getElem?_set_self (by rw [hl]; exact hv)]
      · rw [if_neg hv, List.getElem?_eq_none (by rw [List.length_set, hl]; omega)]
    · rw [List.getElem?_set_ne h, ih]
      by_cases hm : i ∈ vs
      · rw [if_pos hm, if_pos (List.mem_cons_of_mem _ hm)]
      · rw [if_neg hm, if_neg (by simp only [List.mem_cons, not_or]; exact ⟨fun z => h z.symm, hm⟩)]
theorem wipe_set {σ : St} {vs : List Nat} {i : Nat} {x : Option V} (h : i ∈ vs) : L2.wipe (σ.set i x) vs = L2.wipe σ vs := by
  refine List.ext_getElem? fun j => ?_
  rw [wipe_get, wipe_get]
  by_cases hj : j ∈ vs
  · rw [if_pos hj, if_pos hj, List.length_set]
  · have ne : i ≠ j := fun z => hj (by rw [← z]; exact h)
    rw [if_neg hj, if_neg hj, List.getElem?_set_ne ne]
/-- a target and its slots -/
def TgOk (K : PySem.W.Frag) (T : Tb) (g : TG) (tgs : List Nat) : Prop :=
  ∀ (r : List Addr) (G H : Hp) (σ : St) (env env2 : Env) (d : D) (x : V) (Q : St → Hp → Prop), EnvR K T r G σ env → Ex G H → Rp K T r G d x → setTg env tgs d = some env2 →
    (∀ σ2, EnvR K T r G σ2 env2 → (∀ vs : List Nat, (∀ i ∈ tgs, i ∈ vs) → L2.wipe σ2 vs = L2.wipe σ vs) → Q σ2 H) → g x σ H Q
theorem tg_name {K : PySem.W.Frag} {T : Tb} (i : Nat) : TgOk K T (gName i) [i] := fun r G H σ env env2 d x Q e ex hx hs k => by
  cases hs
  exact k _ (e.set i hx) fun vs hv => wipe_set (hv i (List.mem_singleton.mpr rfl))
/-- names one behind another -/
def gNs : List Nat → TGs
  | [] => gNil
  | i :: is => gCons (gName i) (gNs is)
theorem gNs_ok {K : PySem.W.Frag} {T : Tb} {r : List Addr} {G : Hp} {H : Hp} : ∀ (is : List Nat) (ds : List D) (xs : List V) (σ : St) (env : Env) (Q : St → Hp → Prop), EnvR K T r G σ env → RpL K T r G ds xs → ds.length = is.length →
    (∀ σ2, EnvR K T r G σ2 ((is.zip ds).foldl (fun e p => e.set p.1 (some p.2)) env) → (∀ vs : List Nat, (∀ i ∈ is, i ∈ vs) → L2.wipe σ2 vs = L2.wipe σ vs) → Q σ2 H) → gNs is xs σ H Q
  | [], ds, xs, σ, env, Q, e, h, hl, k => by
    have : ds = [] := List.eq_nil_of_length_eq_zero hl
    subst this
    exact ⟨h.nil_inv, k σ e fun _ _ => rfl⟩
  | i :: is, ds, xs, σ, env, Q, e, h, hl, k => by
    cases ds with
    | nil => cases hl
    | cons d ds =>
      obtain ⟨v, t, rfl, h1, h2⟩ := h.cons_inv
      refine ⟨v, t, rfl, ?_⟩
      show gNs is t (σ.set i (some v)) H Q
      refine gNs_ok is ds t _ (env.set i (some d)) Q (e.set i h1) h2 (Nat.succ.inj hl) fun σ2 e2 w2 => k σ2 e2 fun vs hv => ?_
      rw [w2 vs fun j hj => hv j (List.mem_cons_of_mem _ hj)]
      exact wipe_set (hv i (List.mem_cons_self ..))
theorem tg_tup {K : PySem.W.Frag} {T : Tb} (is : List Nat) (h2 : 2 ≤ is.length) : TgOk K T (gTup K is.length (gNs is)) is := fun r G H σ env env2 d x Q e ex hx hs k => by
  unfold setTg at hs
  split at hs
  · simp at h2
  · cases d <;> first | (cases hs; done) | skip
    rename_i ds
    simp only at hs
    split at hs
    · rename_i hl
      cases hs
      have hl' : ds.length = is.length := Nat.eq_of_beq_eq_true hl
      obtain ⟨a, xs, rfl, k1, k2⟩ := rp_tup hx
      exact ⟨a, xs, rfl, SqT.of (ex _ _ k1), by rw [k2.length, hl'], gNs_ok is ds xs σ env Q e k2 hl' fun σ2 e2 w2 => k σ2 e2 w2⟩
    · cases hs
end T5

set_option Elab.async false
set_option linter.all false
set_option maxRecDepth 100000
set_option maxHeartbeats 1000000
/-! T5: list comprehensions. -/
namespace T5
open PySem PySem.Spec L2
open Evl (Ex)

abbrev W0 : WX := fun _ _ _ _ => False
section
variable {X : Cx} {T : Tb} {W : WX} {cl : Calls} {c : Expr} {cc : CE}
theorem gs_nil : PTs X [] (tQ X.K T W cl (.con (.bl true))) := ⟨fun pins s σ H Q I h => (pts_nil (X := X)).run pins s σ H Q I (by
  obtain ⟨env, s, r, G, g, e, h⟩ := h
  simp only [evE] at h
  obtain ⟨b, hb, q⟩ := h.here g (of_bl _)
  cases hb
  exact q)⟩
theorem gs_one (h : PT X c (tQ X.K T W cl cc)) : PTs X [c] (tQ X.K T W cl cc) := pts_one h
end

section
variable {K : PySem.W.Frag} {T : Tb} {r : List Addr} {G H : Hp} {s : Sto} {p : Addr}
/-- a new object that is neither of the store nor fixed -/
theorem le_tmp (g : Gd K T r G H s) (hp : H p = none) (o : HO) : Le r G H r G (upd H p o) where
  pre := .refl
  fr := fun _ h => .inl h
  ex := fun _ _ h => h
  kp := fun a o' ha h => by
    rw [upd_ne (ne_of_none h hp)]
    exact h
  st := fun a h => by
    by_cases e : a = p
    · rw [e]; exact hp
    · rw [upd_ne e] at h; exact h
  nw := fun a o' h => .inl h
theorem Gd.tmp (g : Gd K T r G H s) (h1 : p ∉ r) (h2 : G p = none) (o : HO) : Gd K T r G (upd H p o) s where
  sub := fun a o' h => by
    have e : a ≠ p := fun z => by rw [z, h2] at h; cases h
    rw [upd_ne e]
    exact g.sub a o' h
  off := g.off
  len := g.len
  nd := g.nd
  obj := fun n a so k1 k2 => by
    have e : a ≠ p := fun z => h1 (z ▸ List.mem_of_getElem? k1)
    rw [upd_ne e]
    exact g.obj n a so k1 k2
def del (H : Hp) (p : Addr) : Hp := fun b => if b = p then none else H b
theorem del_ne {a : Addr} (h : a ≠ p) : del H p a = H a := if_neg h
theorem del_at : del H p p = none := if_pos rfl
theorem upd_del {o : HO} (h : H p = some o) : upd (del H p) p o = H := by
  funext b
  by_cases e : b = p
  · subst e
    rw [upd_same, h]
  · rw [upd_ne e, del_ne e]
theorem Gd.del (g : Gd K T r G H s) (h1 : p ∉ r) (h2 : G p = none) : Gd K T r G (del H p) s where
  sub := fun a o' h => by
    have e : a ≠ p := fun z => by rw [z, h2] at h; cases h
    rw [del_ne e]
    exact g.sub a o' h
  off := g.off
  len := g.len
  nd := g.nd
  obj := fun n a so k1 k2 => by
    have e : a ≠ p := fun z => h1 (z ▸ List.mem_of_getElem? k1)
    rw [del_ne e]
    exact g.obj n a so k1 k2
theorem Le.del {r' : List Addr} {G' H' : Hp} (l : Le r G H r' G' H') (hp : H p = none) : Le r G H r' G' (T5.del H' p) where
  pre := l.pre
  fr := l.fr
  ex := l.ex
  kp := fun a o ha h => by
    have e : a ≠ p := ne_of_none h hp
    rw [del_ne e]
    exact l.kp a o ha h
  st := fun a h => by
    by_cases e : a = p
    · rw [e]; exact hp
    · rw [del_ne e] at h
      exact l.st a h
  nw := l.nw
theorem Le.updTmp {r' : List Addr} {G' H' : Hp} (l : Le r G H r' G' H') (hp : H p = none) (o : HO) : Le r G H r' G' (upd H' p o) where
  pre := l.pre
  fr := l.fr
  ex := l.ex
  kp := fun a o' ha h => by
    rw [upd_ne (ne_of_none h hp)]
    exact l.kp a o' ha h
  st := fun a h => by
    by_cases e : a = p
    · rw [e]; exact hp
    · rw [upd_ne e] at h
      exact l.st a h
  nw := l.nw
end

/-- the turn of a comprehension -/
def turn (cl : Calls) (env : Env) (own tgs : List Nat) (ce cc : CE) (y : D) (s2 : Sto) : R (Option D) :=
  match setTg (wipeE env own) tgs y with
  | some env2 => (evE cl cc env2 s2).bind fun b s3 => (match b with
    | .bl true => (evE cl ce env2 s3).bind fun d s4 => .ok (some d) s4
    | .bl false => .ok none s3
    | _ => .bad)
  | none => .bad
section
variable {X : Cx} {T : Tb} {W : WX} {cl : Calls} {elt tg iter : Expr} {ifs : List Expr} {scope : Scope} {own : List (Str × Nat)} {pos : Pos} {g : TG} {tgs : List Nat} {ce ci cc : CE}
theorem lc_reads (hT : TgOk X.K T g tgs) (hsub : ∀ i ∈ tgs, i ∈ own.map (·.2)) : ∀ σ H Q, tF X.K T W cl (.lc (own.map (·.2)) tgs ce ci cc) σ H Q → tLc (tI X.K T W cl ci) g (tQ X.K T W0 cl cc) (tE X.K T W0 cl ce) (own.map (·.2)) σ H Q := by
  rintro σ H Q ⟨env, s, r, G, gd, ee, h⟩
  generalize hvs : own.map (·.2) = vs at *
  simp only [evE] at h
  refine ⟨env, s, r, G, gd, ee, ?_⟩
  cases hq : evE cl ci env s with
  | bad => rw [hq] at h; exact h.elim
  | err c ds s1 => rw [hq] at h; exact h
  | ok d s1 =>
    rw [hq] at h
    simp only [R.bind] at h
    cases hi : seqOf d with
    | none => rw [hi] at h; exact h.elim
    | some items =>
      rw [hi] at h
      refine ⟨items, hi, fun J r1 G1 H1 l1 g1 hJ Dl hD => ?_⟩
      have h : OutF X.K T W σ Q r G H ((lcL (turn cl env vs tgs ce cc) items [] s1).calm.bind fun ds s5 => .ok (.lst ds) s5) := h
      cases hr : lcL (turn cl env vs tgs ce cc) items [] s1 with
      | bad => rw [hr] at h; exact h.elim
      | err c ds s5 => rw [hr] at h; exact h.elim
      | ok ds s5 =>
        rw [hr] at h
        have h : OutF X.K T W σ Q r G H (.ok (.lst ds) s5) := h
        have ee1 := ee.le l1
        refine ⟨fun i m Hi => m = items.length - i ∧ i ≤ items.length ∧ ∃ ri Gi si accD accV, Gd X.K T ri Gi Hi si ∧ Le r1 G1 H1 ri Gi Hi ∧ Hi Dl = some (.lst accV) ∧ Gi Dl = none ∧ Dl ∉ ri ∧ RpL X.K T ri Gi accD accV ∧
          lcL (turn cl env vs tgs ce cc) (items.drop i) accD.reverse si = .ok ds s5, ⟨items.length, by omega, by omega, r1, G1, s1, [], [], g1.tmp (g1.not_in hD) (g1.g_none hD) _, le_tmp g1 hD _, upd_same, g1.g_none hD, g1.not_in hD, .nil, hr⟩, ?_⟩
        rintro i m Hi ⟨rfl, hile, ri, Gi, si, accD, accV, gi, li, hDl, hGD, hDr, hacc, hrun⟩
        have hJi := hJ ri Gi Hi si li.pre li.ex gi i
        by_cases hlt : i < items.length
        · refine .inr ⟨hJi.1 hlt, fun H' => items.length - (i + 1) = items.length - (i + 1) ∧ i + 1 ≤ items.length ∧ ∃ ri Gi si accD accV, Gd X.K T ri Gi H' si ∧ Le r1 G1 H1 ri Gi H' ∧ H' Dl = some (.lst accV) ∧ Gi Dl = none ∧ Dl ∉ ri ∧ RpL X.K T ri Gi accD accV ∧
            lcL (turn cl env vs tgs ce cc) (items.drop (i + 1)) accD.reverse si = .ok ds s5, fun H' hN => ⟨items.length - (i + 1), by omega, rfl, hN.2.1, hN.2.2⟩, fun x H' hy => ?_⟩
          have hdi : items[i]? = some items[i] := List.getElem?_eq_getElem hlt
          obtain ⟨G', l2, g2, hx⟩ := hJi.2.2 x H' items[i] hdi hy
          rw [List.drop_eq_getElem_cons hlt] at hrun
          unfold lcL at hrun
          -- the turn is through
          cases ht : turn cl env vs tgs ce cc items[i] si with
          | bad => rw [ht] at hrun; cases hrun
          | err c ds' s' => rw [ht] at hrun; cases hrun
          | ok o s3 =>
            rw [ht] at hrun
            unfold turn at ht
            cases hset : setTg (wipeE env vs) tgs items[i] with
            | none => rw [hset] at ht; cases ht
            | some env2 =>
              rw [hset] at ht
              simp only at ht
              have hG'D : G' Dl = none := by
                cases q : G' Dl with
                | none => rfl
                | some o' =>
                  rcases l2.nw Dl o' q with z | z
                  · rw [hGD] at z; cases z
                  · rw [hDl] at z; cases z
              have hH'D : H' Dl = some (.lst accV) := l2.kp Dl _ hDr hDl
              have eeW : EnvR X.K T ri G' (L2.wipe σ vs) (wipeE env vs) := (((ee1.le li).le l2).wipe vs)
              refine hT ri G' H' (L2.wipe σ vs) (wipeE env vs) env2 items[i] x _ eeW g2.exH hx hset fun σ2 e2 hw => ⟨?_, ?_⟩
              · rw [hw vs hsub]
                refine List.ext_getElem? fun j => ?_
                rw [wipe_get, wipe_get, L2.wipe_length]
                by_cases hj : j ∈ vs
                · rw [if_pos hj, if_pos hj]
                · rw [if_neg hj, if_neg hj]
              · -- the test
                refine ⟨env2, si, ri, G', g2, e2, ?_⟩
                cases hc : evE cl cc env2 si with
                | bad => rw [hc] at ht; cases ht
                | err c ds' s' => rw [hc] at ht; cases ht
                | ok b s2 =>
                  rw [hc] at ht
                  simp only [R.bind] at ht
                  intro y r3 G3 H3 l3 g3 hb
                  have hl3 : Le r1 G1 H1 r3 G3 H3 := (li.trans l2).trans l3
                  have hD3 : H3 Dl = some (.lst accV) := l3.kp Dl _ hDr hH'D
                  have hr3 : Dl ∉ r3 := l3.out hDr hH'D
                  have hG3 : G3 Dl = none := by
                    cases q : G3 Dl with
                    | none => rfl
                    | some o' =>
                      rcases l3.nw Dl o' q with z | z
                      · rw [hG'D] at z; cases z
                      · rw [hH'D] at z; cases z
                  cases b <;> first | (cases ht; done) | skip
                  rename_i b
                  cases rp_bl hb
                  refine ⟨b, rfl, ?_⟩
                  cases b with
                  | false =>
                    cases ht
                    refine ⟨rfl, by omega, r3, G3, _, accD, accV, g3, hl3, hD3, hG3, hr3, (hacc.mono l2.pre l2.ex).mono l3.pre l3.ex, hrun⟩
                  | true =>
                    show tE X.K T W0 cl ce σ2 H3 _
                    refine ⟨env2, s2, r3, G3, g3, e2.le l3, ?_⟩
                    simp only at ht
                    cases hce : evE cl ce env2 s2 with
                    | bad => rw [hce] at ht; cases ht
                    | err c ds' s' => rw [hce] at ht; cases ht
                    | ok z s4 =>
                      rw [hce] at ht
                      cases ht
                      intro y r4 G4 H4 l4 g4 hz
                      have hD4 : H4 Dl = some (.lst accV) := l4.kp Dl _ hr3 hD3
                      have hr4 : Dl ∉ r4 := l4.out hr3 hD3
                      have hG4 : G4 Dl = none := by
                        cases q : G4 Dl with
                        | none => rfl
                        | some o' =>
                          rcases l4.nw Dl o' q with z' | z'
                          · rw [hG3] at z'; cases z'
                          · rw [hD3] at z'; cases z'
                      have hacc4 : RpL X.K T r4 G4 accD accV := (((hacc.mono l2.pre l2.ex).mono l3.pre l3.ex).mono l4.pre l4.ex)
                      simp only [R.bind] at hrun
                      split at hrun
                      · rename_i hcap
                        refine ⟨accV, hD4, by rw [hacc4.length, ← List.length_reverse]; exact cap_lt hcap, rfl, by omega, r4, G4, s3, accD ++ [z], accV ++ [y], g4.tmp hr4 hG4 _, (hl3.trans l4).updTmp hD _, upd_same, hG4, hr4, hacc4.snoc hz, ?_⟩
                        rw [List.reverse_append]
                        exact hrun
                      · cases hrun
        · have e : i = items.length := by omega
          subst e
          refine .inl ⟨hJi.2.1 rfl, ?_⟩
          rw [List.drop_length] at hrun
          unfold lcL at hrun
          rw [List.reverse_reverse] at hrun
          cases hrun
          have hfin := h Dl accV ri Gi (T5.del Hi Dl) ((l1.trans li).del (l1.st _ hD)) (gi.del hDr hGD) hacc del_at
          rw [upd_del hDl] at hfin
          exact hfin
end
end T5

set_option Elab.async false
set_option linter.all false
set_option maxRecDepth 100000
set_option maxHeartbeats 1000000
/-! T5: statements. -/
namespace T5
open PySem PySem.Spec L2
open Evl (Ex)

section
variable (K : PySem.W.Frag) (T : Tb)
def OutS (W : WX) (E : Ends) (r : List Addr) (G H : Hp) : SR → Prop
  | .nx env s => ∀ σ' r' G' H', Le r G H r' G' H' → Gd K T r' G' H' s → EnvR K T r' G' σ' env → E.nx σ' H'
  | .bk env s => ∀ σ' r' G' H', Le r G H r' G' H' → Gd K T r' G' H' s → EnvR K T r' G' σ' env → E.bk σ' H'
  | .ct env s => ∀ σ' r' G' H', Le r G H r' G' H' → Gd K T r' G' H' s → EnvR K T r' G' σ' env → E.ct σ' H'
  | .rt d s => ∀ v r' G' H', Le r G H r' G' H' → Gd K T r' G' H' s → Rp K T r' G' d v → E.rt v H'
  | .err c ds env s => ∀ cv dd σ' r' G' H', Le r G H r' G' H' → Gd K T r' G' H' s → EnvR K T r' G' σ' env → ErrR K T r' G' H' cv dd c ds → W cv dd σ' H'
  | .bad => False
def tSt (W : WX) (cl : Calls) (c : CS) : TS := fun E σ H => ∃ env s r G, Gd K T r G H s ∧ EnvR K T r G σ env ∧ OutS K T W E r G H (evS cl c env s)
def tSs (W : WX) (cl : Calls) (c : CSs) : TS := fun E σ H => ∃ env s r G, Gd K T r G H s ∧ EnvR K T r G σ env ∧ OutS K T W E r G H (evSs cl c env s)
end
section
variable {K : PySem.W.Frag} {T : Tb} {W : WX} {E : Ends} {r r' : List Addr} {G G' H H' : Hp} {σ : St}
theorem OutS.le {o : SR} (l : Le r G H r' G' H') (h : OutS K T W E r G H o) : OutS K T W E r' G' H' o := by
  cases o with
  | nx env s => exact fun σ' r2 G2 H2 l2 g e => h σ' r2 G2 H2 (l.trans l2) g e
  | bk env s => exact fun σ' r2 G2 H2 l2 g e => h σ' r2 G2 H2 (l.trans l2) g e
  | ct env s => exact fun σ' r2 G2 H2 l2 g e => h σ' r2 G2 H2 (l.trans l2) g e
  | rt d s => exact fun v r2 G2 H2 l2 g e => h v r2 G2 H2 (l.trans l2) g e
  | err c ds env s => exact fun cv dd σ' r2 G2 H2 l2 g e q => h cv dd σ' r2 G2 H2 (l.trans l2) g e q
  | bad => exact h
/-- an expression, then what a statement does with its value -/
theorem rdgS_bind {γ δ : Type} {RS : List Addr → Hp → γ → δ → Prop} {env : Env} {s : Sto} {ev : Env → Sto → R γ} {f : γ → Sto → SR} {Q1 : δ → Hp → Prop} (g : Gd K T r G H s) (e : EnvR K T r G σ env) (h : OutS K T W E r G H ((ev env s).thn env f))
    (k : ∀ x y r' G' H' s', ev env s = .ok x s' → Le r G H r' G' H' → Gd K T r' G' H' s' → EnvR K T r' G' σ env → RS r' G' x y → OutS K T W E r' G' H' (f x s') → Q1 y H') : Rdg K T RS W ev σ H Q1 := by
  refine ⟨env, s, r, G, g, e, ?_⟩
  cases hq : ev env s with
  | ok x s1 =>
    rw [hq] at h
    exact fun y r2 G2 H2 l2 g2 q => k x y r2 G2 H2 s1 hq l2 g2 (e.le l2) q (OutS.le l2 h)
  | err c ds s1 =>
    rw [hq] at h
    exact fun cv dd r2 G2 H2 l2 g2 q => h cv dd σ r2 G2 H2 l2 g2 (e.le l2) q
  | bad =>
    rw [hq] at h
    exact h.elim
theorem OutS.nxt {env : Env} {s : Sto} (h : OutS K T W E r G H (.nx env s)) (g : Gd K T r G H s) (e : EnvR K T r G σ env) : E.nx σ H := h σ r G H Le.refl g e
end

section
variable {X : Cx} {T : Tb} {W : WX} {cl : Calls} {a b c e : Expr} {ca cb cc ce : CE} {pos pos' : Pos} {st : Stmt} {rest : List Stmt} {cs : CS} {css : CSs} {ces : CEs}
theorem gst_bad : PS X st (tSt X.K T W cl .bad) := imp_s false_s fun E σ H ⟨_, _, _, _, _, _, h⟩ => by
  simp only [evS] at h
  exact h
theorem gss_nil : PSs X [] (tSs X.K T W cl .nil) := imp_ss pss_nil fun E σ H ⟨env, s, r, G, g, e, h⟩ => by
  simp only [evSs] at h
  exact h.nxt g e
theorem gss_cons (h1 : PS X st (tSt X.K T W cl cs)) (h2 : PSs X rest (tSs X.K T W cl css)) : PSs X (st :: rest) (tSs X.K T W cl (.cons cs css)) :=
  imp_ss (pss_cons h1 h2) fun E σ H ⟨env, s, r, G, g, e, h⟩ => ⟨env, s, r, G, g, e, by
    simp only [evSs] at h
    cases hq : evS cl cs env s with
    | nx env1 s1 =>
      rw [hq] at h
      exact fun σ' r' G' H' l g' e' => ⟨env1, s1, r', G', g', e', OutS.le l h⟩
    | bk env1 s1 => rw [hq] at h; exact h
    | ct env1 s1 => rw [hq] at h; exact h
    | rt d s1 => rw [hq] at h; exact h
    | err c ds env1 s1 => rw [hq] at h; exact h
    | bad => rw [hq] at h; exact h⟩
theorem gst_pass : PS X (.Pass pos) (tSt X.K T W cl .pass) := imp_s ps_pass fun E σ H ⟨env, s, r, G, g, e, h⟩ => by
  simp only [evS] at h
  exact h.nxt g e
theorem gst_brk : PS X (.Break pos) (tSt X.K T W cl .brk) := imp_s ps_break fun E σ H ⟨env, s, r, G, g, e, h⟩ => by
  simp only [evS] at h
  exact h σ r G H Le.refl g e
theorem gst_cnt : PS X (.Continue pos) (tSt X.K T W cl .cnt) := imp_s ps_continue fun E σ H ⟨env, s, r, G, g, e, h⟩ => by
  simp only [evS] at h
  exact h σ r G H Le.refl g e
theorem gst_ret (h : PE X e (tE X.K T W cl ce)) : PS X (.Return (some e) pos) (tSt X.K T W cl (.ret ce)) :=
  imp_s (ps_ret h) fun E σ H ⟨env, s, r, G, g, e, h⟩ => by
    simp only [evS] at h
    exact rdgS_bind g e h fun x y r1 G1 H1 s1 _ l1 g1 e1 hx h1 => h1 y r1 G1 H1 Le.refl g1 hx
theorem gst_expr (h : PE X e (tE X.K T W cl ce)) (hs : PS X (.Expr e pos) (tDrop (tE X.K T W cl ce))) : PS X (.Expr e pos) (tSt X.K T W cl (.expr ce)) :=
  imp_s hs fun E σ H ⟨env, s, r, G, g, e, h⟩ => by
    simp only [evS] at h
    exact rdgS_bind g e h fun x y r1 G1 H1 s1 _ l1 g1 e1 hx h1 => h1.nxt g1 e1
theorem gst_if {t u : List Stmt} {ct cu : CSs} (hc : PT X c (tQ X.K T W cl cc)) (ht : PSs X t (tSs X.K T W cl ct)) (hu : PSs X u (tSs X.K T W cl cu)) : PS X (.If c t u pos) (tSt X.K T W cl (.iff cc ct cu)) :=
  imp_s (ps_if hc ht hu) fun E σ H ⟨env, s, r, G, g, e, h⟩ => by
    simp only [evS] at h
    refine rdgS_bind g e h fun x y r1 G1 H1 s1 ex l1 g1 e1 hx h1 => ?_
    clear ex
    cases x <;> first | exact h1.elim | skip
    rename_i i
    cases rp_bl hx
    refine ⟨i, rfl, ?_⟩
    cases i with
    | true => exact ⟨env, s1, r1, G1, g1, e1, h1⟩
    | false => exact ⟨env, s1, r1, G1, g1, e1, h1⟩
/-- x = e, a, b = e -/
theorem gst_asg {te : TE} {g0 : TG} {tgs : List Nat} (h : PS X st (tAsg te g0)) (hi : ∀ σ H Q, tE X.K T W cl ce σ H Q → te σ H Q) (hT : TgOk X.K T g0 tgs) : PS X st (tSt X.K T W cl (.asg tgs ce)) :=
  imp_s h fun E σ H ⟨env, s, r, G, g, e, h⟩ => by
    simp only [evS] at h
    refine hi σ H _ (rdgS_bind g e h fun x y r1 G1 H1 s1 _ l1 g1 e1 hx h1 => ?_)
    cases hs : setTg env tgs x with
    | none => rw [hs] at h1; exact h1.elim
    | some env2 =>
      rw [hs] at h1
      exact hT r1 G1 H1 σ env env2 x y _ e1 g1.exH hx hs fun σ2 e2 _ => h1 σ2 r1 G1 H1 Le.refl g1 e2
theorem setAll2 {env env1 : Env} {i j : Nat} {ds : List D} (h : setAll env [i, j] ds = some env1) : ∃ d1 d2, ds = [d1, d2] ∧ env1 = (env.set i (some d1)).set j (some d2) := by
  cases ds with
  | nil => cases h
  | cons d1 t =>
    cases t with
    | nil => cases h
    | cons d2 t2 =>
      cases t2 with
      | nil => cases h; exact ⟨d1, d2, rfl, rfl⟩
      | cons d3 t3 => cases h
theorem setAll3 {env env1 : Env} {i j l : Nat} {ds : List D} (h : setAll env [i, j, l] ds = some env1) : ∃ d1 d2 d3, ds = [d1, d2, d3] ∧ env1 = ((env.set i (some d1)).set j (some d2)).set l (some d3) := by
  cases ds with
  | nil => cases h
  | cons d1 t =>
    obtain ⟨d2, d3, rfl, e⟩ := setAll2 (show setAll (env.set i (some d1)) [j, l] t = some env1 from h)
    exact ⟨d1, d2, d3, rfl, e⟩
theorem gst_par {i j : Nat} (h : PS X st (tPar i j (tL X.K T W cl ces))) : PS X st (tSt X.K T W cl (.par [i, j] ces)) :=
  imp_s h fun E σ H ⟨env, s, r, G, g, e, h⟩ => by
    simp only [evS] at h
    refine rdgS_bind g e h fun ds vs r1 G1 H1 s1 _ l1 g1 e1 hx h1 => ?_
    cases hs : setAll env [i, j] ds with
    | none => rw [hs] at h1; exact h1.elim
    | some env1 =>
      rw [hs] at h1
      obtain ⟨d1, d2, rfl, rfl⟩ := setAll2 hs
      obtain ⟨v, t, rfl, k1, k2⟩ := hx.cons_inv
      obtain ⟨u, t2, rfl, k3, k4⟩ := k2.cons_inv
      have := k4.nil_inv
      subst this
      exact ⟨v, u, rfl, h1.nxt g1 ((e1.set i k1).set j k3)⟩
theorem gst_par3 {i j l : Nat} (h : PS X st (tPar3 i j l (tL X.K T W cl ces))) : PS X st (tSt X.K T W cl (.par [i, j, l] ces)) :=
  imp_s h fun E σ H ⟨env, s, r, G, g, e, h⟩ => by
    simp only [evS] at h
    refine rdgS_bind g e h fun ds vs r1 G1 H1 s1 _ l1 g1 e1 hx h1 => ?_
    cases hs : setAll env [i, j, l] ds with
    | none => rw [hs] at h1; exact h1.elim
    | some env1 =>
      rw [hs] at h1
      obtain ⟨d1, d2, d3, rfl, rfl⟩ := setAll3 hs
      obtain ⟨v, t, rfl, k1, k2⟩ := hx.cons_inv
      obtain ⟨u, t2, rfl, k3, k4⟩ := k2.cons_inv
      obtain ⟨w, t3, rfl, k5, k6⟩ := k4.cons_inv
      have := k6.nil_inv
      subst this
      exact ⟨v, u, w, rfl, h1.nxt g1 (((e1.set i k1).set j k3).set l k5)⟩
theorem isLL_inv {s : Sto} {x : D} (h : isLL s x = true) : ∃ n ds, x = .loc n ∧ s[n]? = some (.lst ds) := by
  cases x <;> first | (cases h; done) | skip
  rename_i n
  unfold isLL at h
  simp only at h
  split at h
  · rename_i ds hds
    exact ⟨n, ds, rfl, hds⟩
  · cases h
theorem appD_inv {x v : D} {s2 s3 : Sto} (h : appD s2 x v = some s3) : ∃ n ds, x = .loc n ∧ s2[n]? = some (.lst ds) ∧ Nat.blt ds.length cap = true ∧ s3 = s2.set n (.lst (ds ++ [v])) := by
  cases x <;> first | (cases h; done) | skip
  rename_i n
  unfold appD at h
  simp only at h
  split at h
  · rename_i ds hds
    split at h
    · rename_i hc
      cases h
      exact ⟨n, ds, rfl, hds, hc, rfl⟩
    · cases h
  · cases h
theorem rp_loc {K : PySem.W.Frag} {r : List Addr} {G : Hp} {n : Nat} {v : V} (h : Rp K T r G (.loc n) v) : ∃ a, v = .ref a ∧ r[n]? = some a := by unfold Rp at h; exact h
/-- o.append(e) -/
theorem gst_app (h : PS X st (tDrop (tBM X.K "list" rAppend (tE X.K T W cl ca) (tL X.K T W cl (.cons cb .nil))))) : PS X st (tSt X.K T W cl (.app ca cb)) :=
  imp_s h fun E σ H ⟨env, s, r, G, g, e, h⟩ => by
    simp only [evS] at h
    show tE X.K T W cl ca σ H _
    refine rdgS_bind g e h fun x y r1 G1 H1 s1 ex l1 g1 e1 hx h1 => ?_
    split at h1
    · rename_i hc
      obtain ⟨n, ds, rfl, hs⟩ := isLL_inv hc
      obtain ⟨a, rfl, ha⟩ := rp_loc hx
      obtain ⟨xs, k1, k2⟩ := g1.obj n a _ ha hs
      refine ⟨.inl ⟨rfl, xs, SqL.of k1⟩, ?_⟩
      -- the argument
      refine ⟨env, s1, r1, G1, g1, e1, ?_⟩
      simp only [evEs]
      cases hqb : evE cl cb env s1 with
      | bad => rw [hqb] at h1; exact h1.elim
      | err c ds' s2 =>
        rw [hqb] at h1
        exact fun cv dd r2 G2 H2 l2 g2 q => h1 cv dd σ r2 G2 H2 l2 g2 (e1.le l2) q
      | ok v s2 =>
        rw [hqb] at h1
        intro vs r2 G2 H2 l2 g2 hvs
        obtain ⟨u, t, rfl, m1, m2⟩ := hvs.cons_inv
        have := m2.nil_inv
        subst this
        have h1 : OutS X.K T W E r1 G1 H1 (match appD s2 (.loc n) v with | some s3 => .nx env s3 | none => .bad) := h1
        cases hap : appD s2 (.loc n) v with
        | none => rw [hap] at h1; exact h1.elim
        | some s3 =>
          rw [hap] at h1
          obtain ⟨n', ds2, e0, hs2, hcap, rfl⟩ := appD_inv hap
          cases e0
          have ha2 := l2.pre n a ha
          obtain ⟨ys, j1, j2⟩ := g2.obj n a _ ha2 hs2
          refine ⟨a, ys, u, rfl, rfl, j1, by rw [j2.length]; exact cap_lt hcap, ?_⟩
          exact h1 σ r2 G2 _ (l2.trans (le_put g2 (List.mem_of_getElem? ha2) _)) (g2.put ha2 ⟨_, rfl, j2.snoc m1⟩) (e1.le l2)
    · exact h1.elim
theorem setD_inv {s s' : Sto} {x i v : D} (h : setD s x i v = some s') : ∃ n, x = .loc n ∧ ((∃ ds j k, s[n]? = some (.lst ds) ∧ i = .int j ∧ ixN ds.length j = some k ∧ s' = s.set n (.lst (ds.set k v))) ∨
    ∃ kvs k, s[n]? = some (.dic kvs) ∧ keyOf i = some k ∧ Nat.blt kvs.length cap = true ∧ s' = s.set n (.dic (put k v kvs))) := by
  cases x <;> first | (cases h; done) | skip
  rename_i n
  refine ⟨n, rfl, ?_⟩
  unfold setD at h
  simp only at h
  split at h
  · rename_i ds hds
    cases i <;> first | (cases h; done) | skip
    rename_i j
    simp only at h
    cases hk : ixN ds.length j with
    | none => rw [hk] at h; cases h
    | some k =>
      rw [hk] at h
      cases h
      exact .inl ⟨ds, j, k, hds, rfl, hk, rfl⟩
  · rename_i kvs hds
    cases hk : keyOf i with
    | none => rw [hk] at h; cases h
    | some k =>
      rw [hk] at h
      simp only [Option.bind_some] at h
      split at h
      · rename_i hc
        cases h
        exact .inr ⟨kvs, k, hds, rfl, hc, rfl⟩
      · cases h
  · cases h
theorem put_ok {K : PySem.W.Frag} {r : List Addr} {G : Hp} {k : L2.Key} {v : D} {u : V} (hv : Rp K T r G v u) : ∀ {kvs : List (L2.Key × D)} {ws : List (L2.Key × V)}, (ws.map (·.1)).Nodup → KvR K T r G kvs ws → KvR K T r G (put k v kvs) (putK ws k u)
  | [], ws, _, h => by
    have h : ws = [] := h
    subst h
    exact ⟨(k, u), [], rfl, rfl, hv, rfl⟩
  | p :: kvs, ws, nd, h => by
    obtain ⟨q, t, rfl, e1, e2, e3⟩ := h
    have nd' := List.nodup_cons.mp (show (q.1 :: t.map (·.1)).Nodup from nd)
    unfold put
    by_cases hk : p.1 = k
    · rw [if_pos (decide_eq_true hk)]
      have hq : q.1 = k := e1.trans hk
      have : putK (q :: t) k u = (k, u) :: t := by
        unfold putK
        rw [if_pos (by rw [List.any_cons, decide_eq_true hq]; rfl), List.map_cons, if_pos hq, hq]
        congr 1
        have : ∀ z ∈ t, (if z.1 = k then (z.1, u) else z) = id z := fun z hz => if_neg fun hz2 => nd'.1 (List.mem_map.mpr ⟨z, hz, by rw [hz2, hq]⟩)
        rw [List.map_congr_left this, List.map_id]
      rw [this]
      exact ⟨(k, u), t, rfl, rfl, hv, e3⟩
    · rw [if_neg (by rw [decide_eq_false hk]; decide)]
      have hq : q.1 ≠ k := fun z => hk (e1.symm.trans z)
      have ih := put_ok (k := k) (kvs := kvs) (ws := t) hv nd'.2 e3
      have : putK (q :: t) k u = q :: putK t k u := by
        unfold putK
        rw [List.any_cons, decide_eq_false hq, Bool.false_or]
        split
        · rw [List.map_cons, if_neg hq]
        · rfl
      rw [this]
      exact ⟨q, putK t k u, rfl, e1, e2, ih⟩
theorem put_keys (k : L2.Key) (v : D) : ∀ kvs : List (L2.Key × D), (kvs.map (·.1)).Nodup → ((put k v kvs).map (·.1)).Nodup ∧ ∀ x ∈ (put k v kvs).map (·.1), x = k ∨ x ∈ kvs.map (·.1)
  | [], _ => ⟨by simp [put], fun x hx => .inl (by simpa [put] using hx)⟩
  | p :: kvs, nd => by
    have nd' := List.nodup_cons.mp (show (p.1 :: kvs.map (·.1)).Nodup from nd)
    unfold put
    by_cases hk : p.1 = k
    · rw [if_pos (decide_eq_true hk)]
      subst hk
      exact ⟨nd, fun x hx => .inr hx⟩
    · rw [if_neg (by rw [decide_eq_false hk]; decide)]
      obtain ⟨i1, i2⟩ := put_keys k v kvs nd'.2
      refine ⟨List.nodup_cons.mpr ⟨fun hm => ?_, i1⟩, fun x hx => ?_⟩
      · rcases i2 p.1 hm with z | z
        · exact hk z
        · exact nd'.1 z
      · rcases List.mem_cons.mp hx with z | z
        · exact .inr (z ▸ List.mem_cons_self ..)
        · rcases i2 x z with z | z
          · exact .inl z
          · exact .inr (List.mem_cons_of_mem _ z)
theorem kvr_len {K : PySem.W.Frag} {r : List Addr} {G : Hp} {kvs : List (L2.Key × D)} {ws : List (L2.Key × V)} (h : KvR K T r G kvs ws) : ws.length = kvs.length := by
  have := congrArg List.length h.keys
  simpa using this
/-- o[i] = e -/
theorem gst_setI (h1 : PS X st (tAsg (tE X.K T W cl ce) (gSub (tE X.K T W cl ca) (tE X.K T W cl cb) rSetL))) (h2 : PS X st (sDPut (tE X.K T W cl ca) (tE X.K T W cl cb) (tE X.K T W cl ce))) : PS X st (tSt X.K T W cl (.setI ca cb ce)) :=
  imp_s (or_s h1 h2) fun E σ H ⟨env, s, r, G, g, e, h⟩ => by
    simp only [evS] at h
    -- which of both: by what stands behind all three
    by_cases hl : ∃ v s1 x s2 y s3 n kvs, evE cl ce env s = .ok v s1 ∧ evE cl ca env s1 = .ok x s2 ∧ evE cl cb env s2 = .ok y s3 ∧ x = .loc n ∧ s3[n]? = some (.dic kvs)
    · obtain ⟨v, s1, x, s2, y, s3, n, kvs, q1, q2, q3, rfl, q4⟩ := hl
      refine .inr (rdgS_bind g e h fun v' u r1 G1 H1 s1' x1 l1 g1 e1 hv h1 => rdgS_bind g1 e1 h1 fun x' a' r2 G2 H2 s2' x2 l2 g2 e2 hx h2 => rdgS_bind g2 e2 h2 fun y' k' r3 G3 H3 s3' x3 l3 g3 e3 hy h3 => ?_)
      rw [q1] at x1; cases x1
      rw [q2] at x2; cases x2
      rw [q3] at x3; cases x3
      cases hset : setD s3 (.loc n) y v with
      | none => rw [hset] at h3; exact h3.elim
      | some s4 =>
        rw [hset] at h3
        obtain ⟨n', e0, hcase⟩ := setD_inv hset
        cases e0
        rcases hcase with ⟨ds, j, k, z1, _⟩ | ⟨kvs', k, z1, z2, z3, rfl⟩
        · rw [q4] at z1; cases z1
        · rw [q4] at z1
          cases z1
          obtain ⟨a, rfl, ha⟩ := rp_loc (hx.le l3)
          obtain ⟨ws, j1, j2, j3⟩ := g3.obj n a _ ha q4
          have hkv : k' = kV k := by
            unfold keyOf at z2
            split at z2 <;> first | (cases z2; done) | skip
            · cases z2; exact rp_int hy
            · cases z2; unfold Rp at hy; exact hy
          refine ⟨a, _, rfl, .inl ⟨ws, k, j1, hkv, by rw [kvr_len j2]; exact cap_lt z3, rfl⟩, ?_⟩
          exact h3 σ r3 G3 _ (le_put g3 (List.mem_of_getElem? ha) _) (g3.put ha ⟨_, rfl, put_ok ((hv.le l2).le l3) (by rw [j2.keys]; exact j3) j2, (put_keys k v kvs j3).1⟩) e3
    · refine .inl (rdgS_bind g e h fun v u r1 G1 H1 s1 x1 l1 g1 e1 hv h1 => rdgS_bind g1 e1 h1 fun x a' r2 G2 H2 s2 x2 l2 g2 e2 hx h2 => rdgS_bind g2 e2 h2 fun y k' r3 G3 H3 s3 x3 l3 g3 e3 hy h3 => ?_)
      cases hset : setD s3 x y v with
      | none => rw [hset] at h3; exact h3.elim
      | some s4 =>
        rw [hset] at h3
        obtain ⟨n, rfl, hcase⟩ := setD_inv hset
        rcases hcase with ⟨ds, j, k, z1, rfl, z2, rfl⟩ | ⟨kvs', k, z1, z2, z3, rfl⟩
        · obtain ⟨a, rfl, ha⟩ := rp_loc (hx.le l3)
          obtain ⟨xs, j1, j2⟩ := g3.obj n a _ ha z1
          cases rp_int hy
          refine ⟨a, xs, j, k, rfl, rfl, j1, by rw [j2.length]; exact z2, ?_⟩
          exact h3 σ r3 G3 _ (le_put g3 (List.mem_of_getElem? ha) _) (g3.put ha ⟨_, rfl, j2.set k ((hv.le l2).le l3)⟩) e3
        · exact absurd ⟨v, s1, _, s2, y, s3, n, kvs', x1, x2, x3, rfl, z1⟩ hl
end
end T5

set_option Elab.async false
set_option linter.all false
set_option maxRecDepth 100000
set_option maxHeartbeats 1000000
/-! T5: loops, displayed dicts. -/
namespace T5
open PySem PySem.Spec L2
open Evl (Ex)
section
variable {X : Cx} {T : Tb} {W : WX} {cl : Calls} {st : Stmt} {ci cc : CE} {cb : CSs} {g0 : TG} {tgs : List Nat}
/-- for target in iter: body -/
theorem gst_for (h : PS X st (tFor (tI X.K T W cl ci) g0 (tSs X.K T W cl cb))) (hT : TgOk X.K T g0 tgs) : PS X st (tSt X.K T W cl (.loop tgs ci cb)) :=
  imp_s h fun E σ H ⟨env, s, r, G, g, e, h⟩ => by
    simp only [evS] at h
    refine ⟨env, s, r, G, g, e, ?_⟩
    cases hq : evE cl ci env s with
    | bad => rw [hq] at h; exact h.elim
    | err c ds s1 =>
      rw [hq] at h
      exact fun cv dd r2 G2 H2 l2 g2 q => h cv dd σ r2 G2 H2 l2 g2 (e.le l2) q
    | ok d s1 =>
      rw [hq] at h
      simp only [R.thn] at h
      cases hi : seqOf d with
      | none => rw [hi] at h; exact h.elim
      | some items =>
        rw [hi] at h
        simp only at h
        generalize hf : (fun (y : D) (env1 : Env) (s2 : Sto) => (match setTg env1 tgs y with | some env2 => evSs cl cb env2 s2 | none => SR.bad)) = f at h
        refine ⟨items, hi, fun J r1 G1 H1 l1 g1 hJ => ?_⟩
        refine ⟨fun i m σi Hi => m = items.length - i ∧ i ≤ items.length ∧ ∃ ri Gi si envi, Gd X.K T ri Gi Hi si ∧ Le r1 G1 H1 ri Gi Hi ∧ EnvR X.K T ri Gi σi envi ∧ OutS X.K T W E ri Gi Hi (forL f (items.drop i) envi si),
          ⟨items.length, by omega, by omega, r1, G1, s1, env, g1, Le.refl, e.le l1, OutS.le l1 h⟩, ?_⟩
        rintro i m σi Hi ⟨rfl, hile, ri, Gi, si, envi, gi, li, ei, ho⟩
        have hJi := hJ ri Gi Hi si li.pre li.ex gi i
        by_cases hlt : i < items.length
        · refine .inr ⟨hJi.1 hlt, fun σ' H' => i + 1 ≤ items.length ∧ ∃ ri Gi si envi, Gd X.K T ri Gi H' si ∧ Le r1 G1 H1 ri Gi H' ∧ EnvR X.K T ri Gi σ' envi ∧ OutS X.K T W E ri Gi H' (forL f (items.drop (i + 1)) envi si),
            fun σ' H' hN => ⟨items.length - (i + 1), by omega, rfl, hN.1, hN.2⟩, fun x H' hy => ?_⟩
          have hdi : items[i]? = some items[i] := List.getElem?_eq_getElem hlt
          obtain ⟨G', l2, g2, hx⟩ := hJi.2.2 x H' items[i] hdi hy
          rw [List.drop_eq_getElem_cons hlt] at ho
          unfold forL at ho
          have hfi : f items[i] envi si = (match setTg envi tgs items[i] with | some env2 => evSs cl cb env2 si | none => SR.bad) := by rw [← hf]
          cases hset : setTg envi tgs items[i] with
          | none =>
            rw [hset] at hfi
            rw [hfi] at ho
            exact ho.elim
          | some env2 =>
            rw [hset] at hfi
            simp only at hfi
            refine hT ri G' H' σi envi env2 items[i] x _ (ei.le l2) g2.exH hx hset fun σ2 e2 _ => ⟨env2, si, ri, G', g2, e2, ?_⟩
            cases hb : evSs cl cb env2 si with
            | nx env3 s3 =>
              rw [hfi, hb] at ho
              exact fun σ' r3 G3 H3 l3 g3 e3 => ⟨by omega, r3, G3, s3, env3, g3, (li.trans l2).trans l3, e3, OutS.le (l2.trans l3) ho⟩
            | ct env3 s3 =>
              rw [hfi, hb] at ho
              exact fun σ' r3 G3 H3 l3 g3 e3 => ⟨by omega, r3, G3, s3, env3, g3, (li.trans l2).trans l3, e3, OutS.le (l2.trans l3) ho⟩
            | bk env3 s3 =>
              rw [hfi, hb] at ho
              exact fun σ' r3 G3 H3 l3 g3 e3 => ho σ' r3 G3 H3 (l2.trans l3) g3 e3
            | rt d' s3 =>
              rw [hfi, hb] at ho
              exact fun v r3 G3 H3 l3 g3 e3 => ho v r3 G3 H3 (l2.trans l3) g3 e3
            | err c ds env3 s3 =>
              rw [hfi, hb] at ho
              exact fun cv dd σ' r3 G3 H3 l3 g3 e3 q => ho cv dd σ' r3 G3 H3 (l2.trans l3) g3 e3 q
            | bad =>
              rw [hfi, hb] at ho
              exact ho
        · have e' : i = items.length := by omega
          subst e'
          refine .inl ⟨hJi.2.1 rfl, ?_⟩
          rw [List.drop_length] at ho
          unfold forL at ho
          exact ho.nxt gi ei
theorem gst_while (h : PS X st (tWhile (tQ X.K T W cl cc) (tSs X.K T W cl cb))) : PS X st (tSt X.K T W cl (.whl cc cb)) :=
  imp_s h fun E σ H ⟨env, s, r, G, g, e, h⟩ => by
    simp only [evS] at h
    refine ⟨fun m σ H => ∃ env s r G, Gd X.K T r G H s ∧ EnvR X.K T r G σ env ∧ OutS X.K T W E r G H (whlL (evE cl cc) (evSs cl cb) m env s), ⟨100000, env, s, r, G, g, e, h⟩, ?_⟩
    rintro m σ H ⟨env, s, r, G, g, e, h⟩
    cases m with
    | zero => exact h.elim
    | succ n =>
      unfold whlL at h
      refine rdgS_bind g e h fun x y r1 G1 H1 s1 ex l1 g1 e1 hx h1 => ?_
      clear ex
      cases x <;> first | exact h1.elim | skip
      rename_i i
      cases rp_bl hx
      refine ⟨i, rfl, ?_⟩
      cases i with
      | false => exact h1.nxt g1 e1
      | true =>
        show ∃ N : St → Hp → Prop, (∀ σ' H', N σ' H' → ∃ m', m' < n + 1 ∧ _) ∧ tSs X.K T W cl cb { nx := N, rt := E.rt, bk := E.nx, ct := N } σ H1
        refine ⟨fun σ' H' => ∃ env s r G, Gd X.K T r G H' s ∧ EnvR X.K T r G σ' env ∧ OutS X.K T W E r G H' (whlL (evE cl cc) (evSs cl cb) n env s), fun σ' H' hN => ⟨n, Nat.lt_succ_self n, hN⟩, env, s1, r1, G1, g1, e1, ?_⟩
        simp only at h1
        cases hb : evSs cl cb env s1 with
        | nx env3 s3 =>
          rw [hb] at h1
          exact fun σ' r3 G3 H3 l3 g3 e3 => ⟨env3, s3, r3, G3, g3, e3, OutS.le l3 h1⟩
        | ct env3 s3 =>
          rw [hb] at h1
          exact fun σ' r3 G3 H3 l3 g3 e3 => ⟨env3, s3, r3, G3, g3, e3, OutS.le l3 h1⟩
        | bk env3 s3 => rw [hb] at h1; exact h1
        | rt d' s3 => rw [hb] at h1; exact h1
        | err c ds env3 s3 => rw [hb] at h1; exact h1
        | bad => rw [hb] at h1; exact h1
end

/-! ### {k: e, ..} -/
def trsOf (K : PySem.W.Frag) (T : Tb) (W : WX) (cl : Calls) : List L2.Key → CEs → List (TE × TE)
  | k :: ks, .cons c cs => (tC (kV k), tE K T W cl c) :: trsOf K T W cl ks cs
  | _, _ => []
def CEs.len : CEs → Nat
  | .nil => 0
  | .cons _ cs => cs.len + 1
section
variable {X : Cx} {T : Tb} {W : WX} {cl : Calls} {pos : Pos}
theorem pairs_run {K : PySem.W.Frag} {σ : St} {env : Env} : ∀ (ks : List L2.Key) (cs : CEs) (r : List Addr) (G H : Hp) (s : Sto) (Q : List (V × V) → Hp → Prop), ks.length = cs.len → Gd K T r G H s → EnvR K T r G σ env →
    Out K T (RpL K T) W σ (fun vs H' => Q ((ks.map kV).zip vs) H') r G H (evEs cl cs env s) → tPairs (trsOf K T W cl ks cs) σ H Q
  | ks, .nil, r, G, H, s, Q, hl, g, e, h => by
    simp only [evEs] at h
    have hk : ks = [] := List.eq_nil_of_length_eq_zero hl
    subst hk
    exact h [] r G H Le.refl g .nil
  | [], .cons c cs, r, G, H, s, Q, hl, g, e, h => by cases hl
  | k :: ks, .cons c cs, r, G, H, s, Q, hl, g, e, h => by
    simp only [evEs] at h
    show tE K T W cl c σ H fun y H2 => tPairs (trsOf K T W cl ks cs) σ H2 fun ps H3 => Q ((kV k, y) :: ps) H3
    refine rdg_bind g e h fun x v r1 G1 H1 s1 l1 g1 e1 hx h1 => ?_
    refine pairs_run ks cs r1 G1 H1 s1 _ (Nat.succ.inj hl) g1 e1 ?_
    cases hq : evEs cl cs env s1 with
    | bad => rw [hq] at h1; exact h1
    | err c' ds s2 => rw [hq] at h1; exact h1
    | ok ds s2 =>
      rw [hq] at h1
      intro vs r2 G2 H2 l2 g2 hvs
      exact h1 (v :: vs) r2 G2 H2 l2 g2 (.cons (hx.le l2) hvs)
/-- the values one by one -/
inductive Each (X : Cx) (T : Tb) (W : WX) (cl : Calls) : List (Option Expr) → List Expr → List L2.Key → CEs → Prop
  | nil : Each X T W cl [] [] [] .nil
  | cons {k v : Expr} {ks : List (Option Expr)} {vs : List Expr} {key : L2.Key} {keys : List L2.Key} {c : CE} {cs : CEs} : PE X k (tC (kV key)) → PE X v (tE X.K T W cl c) → Each X T W cl ks vs keys cs → Each X T W cl (some k :: ks) (v :: vs) (key :: keys) (.cons c cs)
theorem Each.pps {keys : List (Option Expr)} {values : List Expr} {ks : List L2.Key} {cs : CEs} (h : Each X T W cl keys values ks cs) : PPs X pos keys values (trsOf X.K T W cl ks cs) ∧ ks.length = cs.len ∧ (keys.all fun x => x.isSome) = true ∧ keys.length = values.length ∧ keys.length = ks.length := by
  induction h with
  | nil => exact ⟨pps_nil, rfl, rfl, rfl, rfl⟩
  | cons h1 h2 h3 ih =>
    obtain ⟨i1, i2, i3, i4, i5⟩ := ih
    refine ⟨pps_cons h1 h2 i1, congrArg Nat.succ i2, by simpa using i3, congrArg Nat.succ i4, congrArg Nat.succ i5⟩
/-- what a display comes to -/
theorem fold_put {K : PySem.W.Frag} {r : List Addr} {G : Hp} : ∀ (ks : List L2.Key) (ds : List D) (vs : List V) (m : List (L2.Key × D)) (ws : List (L2.Key × V)), RpL K T r G ds vs → KvR K T r G m ws → (m.map (·.1)).Nodup →
    KvR K T r G ((ks.zip ds).foldl (fun m p => put p.1 p.2 m) m) ((ks.zip vs).foldl (fun acc kv => putK acc kv.1 kv.2) ws) ∧ (((ks.zip ds).foldl (fun m p => put p.1 p.2 m) m).map (·.1)).Nodup
  | [], ds, vs, m, ws, _, h, nd => ⟨h, nd⟩
  | k :: ks, [], vs, m, ws, hv, h, nd => by
    rw [hv.nil_inv]
    exact ⟨h, nd⟩
  | k :: ks, d :: ds, vs, m, ws, hv, h, nd => by
    obtain ⟨v, t, rfl, h1, h2⟩ := hv.cons_inv
    exact fold_put ks ds t (put k d m) (putK ws k v) h2 (put_ok h1 (by rw [h.keys]; exact nd) h) (put_keys k d m nd).1
theorem zip_kv : ∀ (ks : List L2.Key) (vs : List V), (ks.map kV).zip vs = (ks.zip vs).map fun kv => (kV kv.1, kv.2)
  | [], _ => rfl
  | _ :: _, [] => rfl
  | k :: ks, v :: vs => by
    rw [List.map_cons, List.zip_cons_cons, List.zip_cons_cons, List.map_cons, zip_kv ks vs]
theorem ge_dic {keys : List (Option Expr)} {values : List Expr} {ks : List L2.Key} {cs : CEs} (h : Each X T W cl keys values ks cs) (hne : keys ≠ []) (h15 : keys.length ≤ 15) : PE X (.Dict keys values pos) (tE X.K T W cl (.dic ks cs)) := by
  obtain ⟨i1, i2, i3, i4, i5⟩ := h.pps (pos := pos)
  refine imp_e (pe_disp i1 i3 i4 hne h15) fun σ H Q ⟨env, s, r, G, g, e, h⟩ p hp => ?_
  simp only [evE] at h
  have g1 := g.tmp (g.not_in hp) (g.g_none hp) (.dK [])
  have l1 := le_tmp g hp (.dK [])
  refine pairs_run ks cs r G _ s _ i2 g1 e ?_
  cases hq : evEs cl cs env s with
  | bad => rw [hq] at h; exact h
  | err c ds s1 =>
    rw [hq] at h
    exact fun cv dd r2 G2 H2 l2 g2 q => h cv dd r2 G2 H2 (l1.trans l2) g2 q
  | ok ds s1 =>
    rw [hq] at h
    simp only [R.bind] at h
    intro vs r2 G2 H2 l2 g2 hvs
    split at h
    · rename_i hc
      have hc' := Bool.and_eq_true_iff.mp hc
      have hlen : ks.length = ds.length := Nat.eq_of_beq_eq_true hc'.1
      have hpH : H2 p = some (.dK []) := l2.kp p _ (g.not_in hp) upd_same
      have hpr : p ∉ r2 := l2.out (g.not_in hp) (upd_same (H := H) (a := p) (o := .dK []))
      have hpG : G2 p = none := by
        cases q : G2 p with
        | none => rfl
        | some o' =>
          rcases l2.nw p o' q with z | z
          · rw [g.g_none hp] at z; cases z
          · rw [upd_same] at z; cases z
      refine ⟨hpH, ks.zip vs, zip_kv ks vs, ?_, ?_⟩
      · rw [List.length_zip]
        omega
      · obtain ⟨f1, f2⟩ := fold_put ks ds vs [] [] hvs rfl List.nodup_nil
        have hd := g2.del hpr hpG
        have hll : Le r G H r2 G2 (T5.del H2 p) := (l1.trans l2).del hp
        have hb := hd.box (p := p) del_at (o := .dK (mergeK [] (ks.zip vs))) (so := .dic ((ks.zip ds).foldl (fun m p => put p.1 p.2 m) [])) ⟨_, rfl, f1, f2⟩
        have hbl := le_box hd (p := p) del_at (.dK (mergeK [] (ks.zip vs)))
        have eu : upd (T5.del H2 p) p (.dK (mergeK [] (ks.zip vs))) = upd H2 p (.dK (mergeK [] (ks.zip vs))) := by
          funext b
          by_cases eb : b = p
          · subst eb; rw [upd_same, upd_same]
          · rw [upd_ne eb, upd_ne eb, del_ne eb]
        rw [eu] at hb hbl
        refine h (.ref p) (r2 ++ [p]) G2 _ (hll.trans hbl) hb ?_
        unfold Rp
        exact ⟨p, rfl, by rw [← hd.len]; simp⟩
    · exact h.elim
end
end T5

set_option Elab.async false
set_option linter.all false
set_option maxRecDepth 100000
set_option maxHeartbeats 1000000
/-! T5: defs, their calls. -/
namespace T5
open PySem PySem.Spec L2
open Evl (Ex)

/-- a def's promise where no repr runs around -/
structure FnG (P : Program) (w : World) (K : PySem.W.Frag) (mg : Str → Option Value) (base : Heap) (k : Nat) (f : Addr) (fd : FuncData) (ps : List Str) (sp : Sp) : Prop where
  len : ∀ vs H Q E, sp vs H Q E → vs.length = ps.length
  run : ∀ (A : Around) (outer : List PySem.Env) (s : Shared) (H : Hp) (args : Args) (us : List Value) (vs : List V) (Q : VK) (E : XK), A.guards = some [] → Room k A → Env0 P w K mg base A outer s H → BindsTo s fd args (ps.zip us) → Vals vs us → sp vs H Q E →
    codeAny (model P w) A (.call (.ref f) args) (CR (L2.CX P w) outer P w H s Q E) s
theorem FnG.up {P : Program} {w : World} {K : PySem.W.Frag} {mg : Str → Option Value} {base : Heap} {j k : Nat} {f : Addr} {fd : FuncData} {ps : List Str} {sp : Sp} (h : FnG P w K mg base j f fd ps sp) (hj : j ≤ k) : FnG P w K mg base k f fd ps sp :=
  ⟨h.len, fun A outer s H args us vs Q E hg hr => h.run A outer s H args us vs Q E hg (hr.mono hj)⟩
/-- by the body -/
theorem fnG_of {P : Program} {w : World} {K : PySem.W.Frag} {mg : Str → Option Value} {base : Heap} {k : Nat} {f : Addr} {name qual : Str} {params : Arguments} {body : List Stmt} {scope : Scope} {dV kV doc pm cdv ct oc : Value} {an od : Option Addr}
    {osl : Array (Option Value)} {N ps : List Str} {sp : Sp} (lk : K.lookup f = some ⟨oc, od, .func (PySem.W.fnOf name qual params body scope dV kV doc pm an cdv ct), osl⟩) (hcd : PySem.W.codeIn K cdv qual = true) (S : FnScope N ps scope)
    (len : ∀ vs H Q E, sp vs H Q E → vs.length = ps.length)
    (hb : ∀ (A : Around) (outer : List PySem.Env) (s : Shared) (H : Hp) (vs : List V) (Q : VK) (E : XK), A.guards = some [] → Room k (A.deeper (PyProof.Rows.envOfC qual scope s.heap.objs.size f cdv)) → sp vs H Q E →
      ∃ t, PSs (cxOf (L2.CX P w) P w K mg base N qual scope f cdv A outer s H E) body t ∧ t { nx := fun _ H' => Q .non H', rt := Q } (start N vs) H) :
    FnG P w K mg base (k + 1) f (PySem.W.fnOf name qual params body scope dV kV doc pm an cdv ct) ps sp := by
  refine ⟨len, fun A outer s H args us vs Q E hg hr e0 hbi rel hsp => ?_⟩
  have keep := fun b o e => (e0.bs b o e).1
  have KX : K.In s.heap := e0.mod.kin.keeps keep
  have lim : s.heap.NoLimit := e0.mod.nolimit.keeps keep
  have hl := len _ _ _ _ hsp
  refine codeAny_call_function hr.depth (KX _ _ lk) rfl S.co S.gen rfl (PySem.W.codeRec_of KX hcd) (hbi _ _ _ _ ?_)
  have hkind : ∀ y ∈ ps.zip us, scope.names.lookup y.1 = some .local ∨ (scope.names.lookup y.1 = some .cell ∧ ((cellsFrom (s.heap.objs.size + 1) scope.names []).lookup y.1).isSome = true) := by
    rintro ⟨n, v⟩ hy
    exact (S.par n (List.of_mem_zip hy).1).imp id fun q => ⟨q, PySem.W.cellsFrom_some _ _ _ (.inl q)⟩
  refine wpAny_newFunctionEnv_cells S.kind hkind fun env he s1 x => ?_
  subst he
  obtain ⟨t, ht, hq⟩ := hb A outer s H vs Q E hg (hr.deeper _) hsp
  refine ⟨lim.keeps x.toInCall.keep, codeAny_func (wpAny_mono (ht.run [] s1 (start N vs) H _ (inv_start S hr.hd e0 hl rel x) hq) (fun fl s' hs => ?_) fun e s' hs => hs)⟩
  cases fl with
  | ret u =>
    obtain ⟨v, σ', H', J, rv, q⟩ := hs
    exact ⟨v, H', J.os, J.bare, J.base, J.hok, rv, q⟩
  | next =>
    obtain ⟨σ', H', J, q⟩ := hs
    exact ⟨V.non, H', J.os, J.bare, J.base, J.hok, rfl, q⟩
  | brk =>
    obtain ⟨_, _, _, q⟩ := hs
    exact q.elim
  | cont =>
    obtain ⟨_, _, _, q⟩ := hs
    exact q.elim

/-! ### how arguments come to parameters -/
/-- a datum without a place in the heap -/
def Scal (d : D) (u : Value) : Prop := ∃ v, (∀ K T r G, Rp K T r G d v) ∧ RelV v u
def SrcV (uw : List Value) : List (Nat ⊕ D) → List Value → Prop
  | [], zs => zs = []
  | .inl j :: t, zs => ∃ u q, zs = u :: q ∧ uw[j]? = some u ∧ SrcV uw t q
  | .inr d :: t, zs => ∃ u q, zs = u :: q ∧ Scal d u ∧ SrcV uw t q
theorem arr_ok {K : PySem.W.Frag} {T : Tb} {r : List Addr} {G : Hp} {ds : List D} {vs : List V} {uw : List Value} (h : RpL K T r G ds vs) (hv : Vals vs uw) : ∀ {src : List (Nat ⊕ D)} {as : List D} {zs : List Value}, arr src ds = some as → SrcV uw src zs → ∃ vs', RpL K T r G as vs' ∧ Vals vs' zs
  | [], as, zs, ha, hz => by
    unfold arr at ha
    cases ha
    have hz : zs = [] := hz
    subst hz
    exact ⟨[], .nil, .nil⟩
  | .inl j :: t, as, zs, ha, hz => by
    unfold arr at ha
    obtain ⟨u, q, rfl, e1, e2⟩ := hz
    cases hd : ds[j]? with
    | none => rw [hd] at ha; cases ha
    | some d =>
      rw [hd] at ha
      simp only [Option.bind_some] at ha
      cases hr : arr t ds with
      | none => rw [hr] at ha; cases ha
      | some as' =>
        rw [hr] at ha
        cases ha
        obtain ⟨vs', i1, i2⟩ := arr_ok h hv hr e2
        obtain ⟨v, k1, k2⟩ := h.get hd
        obtain ⟨u', k3, k4⟩ := hv.get k1
        rw [e1] at k3
        cases k3
        exact ⟨v :: vs', .cons k2 i1, .cons k4 i2⟩
  | .inr d :: t, as, zs, ha, hz => by
    unfold arr at ha
    obtain ⟨u, q, rfl, ⟨v, e0, e1⟩, e2⟩ := hz
    cases hr : arr t ds with
    | none => rw [hr] at ha; cases ha
    | some as' =>
      rw [hr] at ha
      cases ha
      obtain ⟨vs', i1, i2⟩ := arr_ok h hv hr e2
      exact ⟨v :: vs', .cons (e0 K T r G) i1, .cons e1 i2⟩
/-- a call's form: n positional values, keywords ks -/
def Bnd (K : PySem.W.Frag) (fd : FuncData) (ps : List Str) (n : Nat) (ks : List Str) (src : List (Nat ⊕ D)) : Prop :=
  ∀ (s : Shared) (us ws : List Value), K.In s.heap → us.length = n → ws.length = ks.length → ∃ zs, zs.length = ps.length ∧ SrcV (us ++ ws) src zs ∧ BindsTo s fd ⟨us, ks.zip ws⟩ (ps.zip zs)

/-- what the def i promises, k calls deep -/
def SpD (K : PySem.W.Frag) (T : Tb) (F : List Fd) (k i n : Nat) : Sp := fun vs H Q E => vs.length = n ∧ ∃ ds s r G, Gd K T r G H s ∧ RpL K T r G ds vs ∧ Out K T (Rp K T) (fun cv dd _ H' => E cv dd H') [] Q r G H (run F k i ds s)
section
variable {X : Cx} {T : Tb} {W : WX} {F : List Fd} {k i : Nat} {f : Addr} {fd : FuncData} {ps : List Str} {x : Str} {p pos kpos : Pos} {a : Expr} {es : List Expr} {kws : List Keyword} {ca : CE} {ces cks : CEs} {src : List (Nat ⊕ D)} {n : Nat} {ks : List Str} {nm : Option Str}
theorem gk_nil {cl : Calls} : PK X [] (tL X.K T W cl .nil) := ⟨fun pos pins s σ H Q I h => pk_nil.run pos pins s σ H Q I (by
  obtain ⟨env, s, r, G, g, e, h⟩ := h
  simp only [evEs] at h
  exact h.here g .nil)⟩
theorem gk_cons {cl : Calls} (ha : PE X a (tE X.K T W cl ca)) (hr : PK X kws (tL X.K T W cl cks)) : PK X (⟨nm, a, kpos⟩ :: kws) (tL X.K T W cl (.cons ca cks)) := ⟨fun pos pins s σ H Q I h => (pk_cons ha hr).run pos pins s σ H Q I (by
  obtain ⟨env, s, r, G, g, e, h⟩ := h
  simp only [evEs] at h
  refine rdg_bind g e h fun x v r1 G1 H1 s1 l1 g1 e1 hx h1 => rdg_bind g1 e1 h1 fun ds vs r2 G2 H2 s2 l2 g2 e2 hds h2 => ?_
  exact h2.here g2 (.cons (hx.le l2) hds))⟩
/-- the callee runs -/
theorem run_G {pins : List (Addr × Obj)} {σ : St} {H : Hp} {s : Shared} {Q : VK} {us ws : List Value} {vs zs : List V} {r : List Addr} {G : Hp} {st : Sto} {ds ds2 : List D} (hF : FnG X.prog X.w X.K X.mg X.base k f fd ps (SpD X.K T F k i ps.length)) (hr : Room k X.A) (hg : X.A.guards = some []) (tk : Takes X W) (hb : Bnd X.K fd ps n ks src)
    (I : L2.Inv X pins σ H s) (g : Gd X.K T r G H st) (h1 : RpL X.K T r G ds vs) (h2 : RpL X.K T r G ds2 zs) (rv : Vals vs us) (rz : Vals zs ws) (l1 : us.length = n) (l2 : ws.length = ks.length)
    (h : Out X.K T (Rp X.K T) W σ Q r G H (match arr src (ds ++ ds2) with | some as => run F k i as st | none => .bad)) : wpAny (model X.prog X.w) X.A (call (.ref f) us (ks.zip ws)) (EP X pins σ Q) X.xe s := by
  cases ha : arr src (ds ++ ds2) with
  | none => rw [ha] at h; exact h.elim
  | some as =>
    rw [ha] at h
    obtain ⟨qs, z1, z2, z3⟩ := hb s us ws I.kIn l1 l2
    obtain ⟨vs', k1, k2⟩ := arr_ok (h1.append h2) (rv.append rz) ha z2
    simp only at h
    have hsp : SpD X.K T F k i ps.length vs' H Q (fun cv dd H' => W cv dd σ H') := by
      refine ⟨by rw [k2.length, z1], as, st, r, G, g, k1, ?_⟩
      cases hq : run F k i as st with
      | ok d s' => rw [hq] at h; exact h
      | err c e s' => rw [hq] at h; exact h
      | bad => rw [hq] at h; exact h
    refine wpAny_call (codeAny_mono (hF.run X.A X.stack s H ⟨us, ks.zip ws⟩ qs vs' Q _ hg hr I.env0 z3 k2 hsp) fun res s' hq => ?_)
    cases res with
    | error e => exact tk e s' (XE.of_call I (fun cls d H' q => q) hq)
    | ok fl =>
      cases fl with
      | ret u => exact I.after hq
      | next => exact hq.elim
      | brk => exact hq.elim
      | cont => exact hq.elim
/-- f(e, .., k = v, ..) -/
theorem ge_call (hF : FnG X.prog X.w X.K X.mg X.base k f fd ps (SpD X.K T F k i ps.length)) (hr : Room k X.A) (hg : X.A.guards = some []) (tk : Takes X W) (hgl : Gl X x) (hm : X.mg x = some (.ref f)) (hk : PySem.W.keepIn X.K (.ref f) = true)
    (hb : Bnd X.K fd ps es.length ks src) (ha : PA X es (tL X.K T W (run F k) ces)) (hkw : PK X kws (tL X.K T W (run F k) cks)) (hall : (backToKw pos (keywordEach kws X.env)).all (·.1.isSome) = true) (hks : (backToKw pos (keywordEach kws X.env)).filterMap (·.1) = ks)
    (hkl : kws.length = ks.length) (hdb : (x == ("__debug__" : Str)) = false) (hst : ∀ e t, es = e :: t → starEach (e :: t) X.env = (false, eval e X.env) :: starEach t X.env)
    (hnil : es = [] → ces = .nil) (hlen : ∀ env st ds st', evEs (run F k) ces env st = .ok ds st' → ds.length = es.length) (hlen2 : ∀ env st ds st', evEs (run F k) cks env st = .ok ds st' → ds.length = kws.length)
    (hpl : ((backTo pos (starEach es X.env)).any (·.1) || (backToKw pos (keywordEach kws X.env)).any (·.1.isNone)) = false) :
    PE X (.Call (.Name x p) es kws pos) (tE X.K T W (run F k) (.call i src ces cks)) := by
  refine ⟨fun pins s σ H Q I ⟨env, st, r, G, g, e, h⟩ => wpAny_Call_Name_kw (ld_glob I hgl hm ?_ hdb)⟩
  simp only [evE] at h
  -- positional values, then the keywords'
  have fin : ∀ (vs : List V) (us : List Value) (H1 : Hp) (s1 : Shared), L2.Inv X pins σ H1 s1 → Vals vs us → us.length = es.length →
      (∃ r1 G1 st1 ds, Gd X.K T r1 G1 H1 st1 ∧ EnvR X.K T r1 G1 σ env ∧ RpL X.K T r1 G1 ds vs ∧ Out X.K T (Rp X.K T) W σ Q r1 G1 H1 ((evEs (run F k) cks env st1).bind fun ds2 s2 => match arr src (ds ++ ds2) with | some as => run F k i as s2 | none => .bad)) →
      wpAny (model X.prog X.w) X.A (evalAll ((backToKw pos (keywordEach kws X.env)).map (·.2))) (fun ws s2 => X.K.In s2.heap ∧ wpAny (model X.prog X.w) X.A (call (.ref f) ([] ++ us) (((backToKw pos (keywordEach kws X.env)).filterMap (·.1)).zip ws)) (EP X pins σ Q) X.xe s2) X.xe s1 := by
    rintro vs us H1 s1 I1 rv hl ⟨r1, G1, st1, ds, g1, e1, hds, h1⟩
    have hrd : tL X.K T W (run F k) cks σ H1 (fun zs H2 => ∃ r2 G2 st2 ds2, zs.length = kws.length ∧ Gd X.K T r2 G2 H2 st2 ∧ RpL X.K T r2 G2 ds vs ∧ RpL X.K T r2 G2 ds2 zs ∧ Out X.K T (Rp X.K T) W σ Q r2 G2 H2 (match arr src (ds ++ ds2) with | some as => run F k i as st2 | none => .bad)) :=
      rdg_bindE g1 e1 h1 fun ds2 zs r2 G2 H2 st2 ex l2 g2 e2 hz h2 => ⟨r2, G2, st2, ds2, by rw [hz.length]; exact hlen2 _ _ _ _ ex, g2, hds.le l2, hz, h2⟩
    refine thn (hkw.run pos pins s1 σ H1 _ I1 hrd) fun ws s2 ⟨zs, H2, I2, rz, r2, G2, st2, ds2, hzl, g2, hd1, hd2, h2⟩ => ⟨I2.kIn, ?_⟩
    rw [hks, List.nil_append]
    exact run_G hF hr hg tk hb I2 g2 hd1 hd2 rv rz hl (by rw [← rz.length, hzl, hkl]) h2
  have hrd0 : tL X.K T W (run F k) ces σ H (fun vs H1 => vs.length = es.length ∧ ∃ r1 G1 st1 ds, Gd X.K T r1 G1 H1 st1 ∧ EnvR X.K T r1 G1 σ env ∧ RpL X.K T r1 G1 ds vs ∧ Out X.K T (Rp X.K T) W σ Q r1 G1 H1 ((evEs (run F k) cks env st1).bind fun ds2 s2 => match arr src (ds ++ ds2) with | some as => run F k i as s2 | none => .bad)) :=
    rdg_bindE g e h fun ds vs r1 G1 H1 st1 ex l1 g1 e1 hds h1 => ⟨by rw [hds.length]; exact hlen _ _ _ _ ex, r1, G1, st1, ds, g1, e1, hds, h1⟩
  cases es with
  | nil =>
    refine PySem.W.callWith_KW0 (h₀ := X.base) I.ok.mod.kin hk hall ?_ hpl
    have hc := hnil rfl
    subst hc
    simp only [evEs] at h
    exact fin [] [] H s I .nil rfl ⟨r, G, st, [], g, e, .nil, h⟩
  | cons e0 t =>
    refine PySem.W.callWith_KW (h₀ := X.base) I.ok.mod.kin hk hall (thn (ha.run pos pins s σ H _ I hrd0) fun us s1 ⟨vs, H1, I1, rv, hvl, hx⟩ => ?_) hpl (hst e0 t rfl)
    exact fin vs us H1 s1 I1 rv (by rw [← rv.length, hvl]) hx
end
end T5

set_option Elab.async false
set_option linter.all false
set_option maxRecDepth 100000
set_option maxHeartbeats 1000000
/-! T5: a def's body keeps the def's promise. -/
namespace T5
open PySem PySem.Spec L2
open Evl (Ex)
section
variable {K : PySem.W.Frag} {T : Tb} {r r' : List Addr} {G G' H H' : Hp} {s s' : Sto}
theorem cleanS_at {n : Nat} : ∀ {l : List SO} {m : Nat} {o : SO}, cleanS n l = true → l[m]? = some o → cleanO n o = true
  | [], _, _, _, h => by simp at h
  | x :: l, 0, o, c, h => by
    simp at h
    subst h
    exact (Bool.and_eq_true_iff.mp (show (_ && _) = true from c)).1
  | x :: l, m + 1, o, c, h => cleanS_at (l := l) (m := m) (Bool.and_eq_true_iff.mp (show (_ && _) = true from c)).2 (by simpa using h)
theorem Pre.lt (p : Pre r r') {m : Nat} {a : Addr} (hm : m < r.length) (h : r'[m]? = some a) : r[m]? = some a := by
  have h1 := p m _ (List.getElem?_eq_getElem hm)
  rw [h1] at h
  rw [List.getElem?_eq_getElem hm]
  exact h
/-- the store cut off -/
theorem Gd.trunc (g' : Gd K T r' G' H' s') (p : Pre r r') (nd : r.Nodup) (hc : cleanS r.length (s'.take r.length) = true) (hl : r.length ≤ s'.length) : Gd K T r G' H' (s'.take r.length) where
  sub := g'.sub
  off := fun a ha => by
    obtain ⟨n, hn⟩ := List.getElem?_of_mem ha
    exact g'.off a (List.mem_of_getElem? (p n a hn))
  len := by rw [List.length_take]; omega
  nd := nd
  obj := fun n a so h1 h2 => by
    have hn := (List.getElem?_eq_some_iff.mp h1).1
    have hco := cleanS_at hc h2
    rw [List.getElem?_take_of_lt hn] at h2
    exact (g'.obj n a so (p n a h1) h2).cut (fun m b hm hb => p.lt hm hb) hco
theorem Le.trunc (l : Le r G H r' G' H') : Le r G H r G' H' := ⟨.refl, fun _ h => .inl h, l.ex, l.kp, l.st, l.nw⟩
theorem len_le (l : Le r G H r' G' H') (g : Gd K T r G H s) (g' : Gd K T r' G' H' s') : r.length ≤ s'.length := by
  rw [← g'.len]
  by_cases h0 : r.length = 0
  · omega
  · have h1 := l.pre (r.length - 1) _ (List.getElem?_eq_getElem (by omega))
    have := (List.getElem?_eq_some_iff.mp h1).1
    omega
/-- a list of the store frozen, the rest cut off -/
theorem Gd.freeze (g' : Gd K T r' G' H' s') (l : Le r G H r' G' H') (g : Gd K T r G H s) (hc : cleanS r.length (s'.take r.length) = true) {m : Nat} {a : Addr} {xs : List V} (hm : r.length ≤ m) (ha : r'[m]? = some a) (hx : H' a = some (.lst xs)) :
    Gd K T r (upd G' a (.lst xs)) H' (s'.take r.length) ∧ Le r G H r (upd G' a (.lst xs)) H' := by
  have hl := len_le l g g'
  have t := g'.trunc l.pre g.nd hc hl
  have har : a ∉ r := fun z => by
    obtain ⟨n, hn⟩ := List.getElem?_of_mem z
    have := nodup_at g'.nd (l.pre n a hn) ha
    have h2 := (List.getElem?_eq_some_iff.mp hn).1
    omega
  have haG : G' a = none := g'.off a (List.mem_of_getElem? ha)
  have hex : Ex G' (upd G' a (.lst xs)) := ex_upd haG
  refine ⟨⟨fun b o h => ?_, fun b hb => ?_, t.len, t.nd, fun n b so h1 h2 => (t.obj n b so h1 h2).mono .refl hex⟩, ⟨.refl, fun _ h => .inl h, l.ex.trans hex, l.kp, l.st, fun b o h => ?_⟩⟩
  · by_cases e : b = a
    · subst e
      rw [upd_same] at h
      rw [← h]
      exact hx
    · rw [upd_ne e] at h
      exact t.sub b o h
  · have e : b ≠ a := fun z => har (z ▸ hb)
    rw [upd_ne e]
    exact t.off b hb
  · by_cases e : b = a
    · subst e
      rcases l.fr b (List.mem_of_getElem? ha) with z | z
      · exact absurd z har
      · exact .inr z
    · rw [upd_ne e] at h
      exact l.nw b o h
/-- what fz hands on -/
theorem fz_ok {Q : VK} {W : WX} {d : D} {v : V} (g : Gd K T r G H s) (h : Out K T (Rp K T) W [] Q r G H (fz r.length s' d)) (l : Le r G H r' G' H') (g' : Gd K T r' G' H' s') (hd : Rp K T r' G' d v) : Q v H' := by
  have hl := len_le l g g'
  unfold fz at h
  split at h
  · rename_i hc
    have t := g'.trunc l.pre g.nd hc hl
    have cutR : ∀ {d : D} {v : V}, clean r.length d = true → Rp K T r' G' d v → Rp K T r G' d v := fun hcl q => q.cut (fun m b hm hb => l.pre.lt hm hb) hcl
    have plain : clean r.length d = true → Out K T (Rp K T) W [] Q r G H (.ok d (s'.take r.length)) → Q v H' := fun hcl hh => hh v r G' H' l.trunc t (cutR hcl hd)
    cases d with
    | loc m =>
      simp only at h
      split at h
      · rename_i hm
        exact plain hm h
      · rename_i hm
        obtain ⟨a, rfl, ha⟩ := rp_loc hd
        split at h
        · rename_i ds hs
          split at h
          · rename_i hcl
            obtain ⟨xs, j1, j2⟩ := g'.obj m a _ ha hs
            have hm' : r.length ≤ m := by
              have : ¬ m < r.length := fun z => hm (Nat.ble_eq.mpr z)
              omega
            obtain ⟨f1, f2⟩ := g'.freeze l g hc hm' ha j1
            refine h (.ref a) r _ H' f2 f1 (of_lst upd_same ((j2.cut (fun m b hm hb => l.pre.lt hm hb) hcl).mono .refl (ex_upd (g'.off a (List.mem_of_getElem? ha)))))
          · exact h.elim
        · exact h.elim
    | _ =>
      simp only at h
      split at h
      · rename_i hcl
        exact plain hcl h
      · exact h.elim
  · exact h.elim
end

section
variable {T : Tb} {P : Program} {w : World} {K : PySem.W.Frag} {mg : Str → Option Value} {base : Heap} {F : List Fd} {k i : Nat} {N ps : List Str}
theorem start_env {r : List Addr} {G : Hp} {ds : List D} {vs : List V} (h : RpL K T r G ds vs) (hl : vs.length = ps.length) (n : Nat) (hn : n = N.length) : EnvR K T r G (L2.start N vs) (ds.map some ++ List.replicate (n - ps.length) none) := by
  have hd := h.length
  refine ⟨by unfold L2.start; simp [hn]; omega, fun j d e => ?_⟩
  by_cases hj : j < ds.length
  · rw [List.getElem?_append_left (by simpa using hj), List.getElem?_map] at e
    cases hq : ds[j]? with
    | none => rw [hq] at e; cases e
    | some d' =>
      rw [hq] at e
      cases e
      obtain ⟨v, e1, e2⟩ := h.get hq
      refine ⟨v, ?_, e2⟩
      unfold L2.start
      rw [List.getElem?_append_left (by rw [List.length_map]; omega), List.getElem?_map, e1]
      rfl
  · rw [List.getElem?_append_right (by simpa using hj)] at e
    rw [List.getElem?_replicate] at e
    split at e <;> cases e
/-- the promise, from the body's reading -/
theorem body_reads {fb : Fd} {vs : List V} {H : Hp} {Q : VK} {E : XK} (hf : F[i]? = some fb) (hp : fb.par = ps.length) (hs : fb.slots = N.length) (h : SpD K T F (k + 1) i ps.length vs H Q E) :
    tSs K T (fun cv dd _ H' => E cv dd H') (run F k) fb.body { nx := fun _ H' => Q .non H', rt := Q } (L2.start N vs) H := by
  obtain ⟨hl, ds, s, r, G, g, hds, h⟩ := h
  have hdl : ds.length = fb.par := by rw [← hds.length, hl, hp]
  unfold run at h
  rw [hf] at h
  simp only at h
  rw [if_pos (by rw [hdl]; exact Nat.beq_refl _)] at h
  refine ⟨_, s, r, G, g, start_env hds hl fb.slots hs, ?_⟩
  rw [hp] at h
  rw [← g.len] at h
  cases hq : evSs (run F k) fb.body (ds.map some ++ List.replicate (fb.slots - ps.length) none) s with
  | bad => rw [hq] at h; exact h.elim
  | bk env s1 => rw [hq] at h; exact h.elim
  | ct env s1 => rw [hq] at h; exact h.elim
  | nx env s1 =>
    rw [hq] at h
    unfold endF at h
    simp only at h
    intro σ' r' G' H' l g' _
    have hn : Rp K T r' G' .non .non := by unfold Rp; rfl
    by_cases hk : fb.keep = true
    · rw [if_pos hk] at h
      exact h .non r' G' H' l g' hn
    · rw [if_neg hk] at h
      exact fz_ok g h l g' hn
  | rt d s1 =>
    rw [hq] at h
    unfold endF at h
    simp only at h
    intro v r' G' H' l g' hv
    by_cases hk : fb.keep = true
    · rw [if_pos hk] at h
      exact h v r' G' H' l g' hv
    · rw [if_neg hk] at h
      exact fz_ok g h l g' hv
  | err c es env s1 =>
    rw [hq] at h
    unfold endF at h
    intro cv dd σ' r' G' H' l g' _ hE
    simp only at h
    split at h
    · rename_i hc
      have hc' := Bool.and_eq_true_iff.mp hc
      have hlen := len_le l g g'
      refine h cv dd r G' H' l.trunc (g'.trunc l.pre g.nd hc'.1 hlen) ?_
      obtain ⟨e1, a, fs, vs', e2, e3, e4, e5, e6⟩ := hE
      exact ⟨e1, a, fs, vs', e2, e3, e4.cut (fun m b hm hb => l.pre.lt hm hb) hc'.2, e5, e6⟩
    · exact h.elim
end
end T5

set_option Elab.async false
set_option linter.all false
set_option maxRecDepth 100000
set_option maxHeartbeats 1000000
/-! T5: side conditions of the rules by the syntax; the last forms. -/
namespace T5
open PySem PySem.Spec L2
open Evl (Ex)

def isStar : Expr → Bool
  | .Starred .. => true
  | _ => false
theorem star_no {e : Expr} {es : List Expr} {env : PySem.Env} (h : isStar e = false) : starEach (e :: es) env = (false, eval e env) :: starEach es env := by
  cases e <;> first | rfl | cases h
def isSl : Expr → Bool
  | .Slice .. => true
  | _ => false
theorem plain_ix {b : Expr} (h : isSl b = false) : PlainIx b := by
  intro o i
  cases b <;> first | rfl | cases h
/-- a test that is read by its value -/
def plainT : Expr → Bool
  | .UnaryOp .Not _ _ => false
  | .BoolOp .. => false
  | .IfExp .. => false
  | .Compare .. => false
  | _ => true
theorem plain_t {e : Expr} {env : PySem.Env} (h : plainT e = true) : ∀ whole, isTrue e env whole = (do let v ← whole; standAt e.pos; holding [v] (truthy v)) := by
  intro whole
  cases e with
  | UnaryOp op a p => cases op <;> first | rfl | cases h
  | BoolOp _ _ _ => cases h
  | IfExp _ _ _ _ => cases h
  | Compare _ _ _ _ => cases h
  | _ => rfl
def isSet : Expr → Bool
  | .Set .. => true
  | _ => false
theorem folded_no {e : Expr} {env : PySem.Env} (h : isSet e = false) : ∀ x, foldedSetIterable e env x = pure x := by
  intro x
  cases e <;> first | rfl | cases h
theorem marks_no {op : CmpOp} {b : Expr} (h : isSet b = false) : behindInMarks op b = false := by
  cases b <;> first | rfl | cases h
/-- no star among them -/
def noStars : List Expr → Bool
  | [] => true
  | e :: es => !isStar e && noStars es
theorem star_any {pos : Pos} {env : PySem.Env} : ∀ {es : List Expr}, noStars es = true → (backTo pos (starEach es env)).any (·.1) = false
  | [], _ => rfl
  | e :: es, h => by
    have h' := Bool.and_eq_true_iff.mp (show (!isStar e && noStars es) = true from h)
    have h1 : isStar e = false := by simpa using h'.1
    rw [star_no h1]
    show (false || _) = false
    rw [Bool.false_or]
    exact star_any h'.2
/-- all keywords are named -/
def kwNames : List Keyword → Option (List Str)
  | [] => some []
  | ⟨some n, _, _⟩ :: r => (kwNames r).map (n :: ·)
  | _ => none
theorem kw_ok {pos : Pos} {env : PySem.Env} : ∀ {kws : List Keyword} {ks : List Str}, kwNames kws = some ks → (backToKw pos (keywordEach kws env)).all (·.1.isSome) = true ∧ (backToKw pos (keywordEach kws env)).filterMap (·.1) = ks ∧ (backToKw pos (keywordEach kws env)).any (·.1.isNone) = false ∧ kws.length = ks.length
  | [], ks, h => by
    cases h
    exact ⟨rfl, rfl, rfl, rfl⟩
  | ⟨none, e, p⟩ :: r, ks, h => by cases h
  | ⟨some n, e, p⟩ :: r, ks, h => by
    unfold kwNames at h
    cases hr : kwNames r with
    | none => rw [hr] at h; cases h
    | some t =>
      rw [hr] at h
      cases h
      obtain ⟨i1, i2, i3, i4⟩ := kw_ok (pos := pos) (env := env) hr
      refine ⟨?_, ?_, ?_, congrArg Nat.succ i4⟩
      · show (true && _) = true
        rw [Bool.true_and]
        exact i1
      · show n :: _ = n :: t
        rw [← i2]
        rfl
      · show (false || _) = false
        rw [Bool.false_or]
        exact i3

section
variable {X : Cx} {T : Tb} {W : WX} {cl : Calls} {a b c e : Expr} {ca cb cc : CE} {pos p p2 q : Pos}
theorem gt_ite (hc : PT X c (tQ X.K T W cl cc)) (ha : PT X a (tQ X.K T W cl ca)) (hb : PT X b (tQ X.K T W cl cb)) : PT X (.IfExp c a b pos) (tQ X.K T W cl (.ite cc ca cb)) := ⟨fun pins s σ H Q I h => by
  have hr : tQ X.K T W cl cc σ H (fun d H1 => if d = true then tQ X.K T W cl ca σ H1 Q else tQ X.K T W cl cb σ H1 Q) := by
    obtain ⟨env, st, r, G, g, e, h⟩ := h
    simp only [evE] at h
    refine rdg_bind g e h fun x v r1 G1 H1 s1 l1 g1 e1 hx h1 => ?_
    cases x <;> first | exact h1.elim | skip
    rename_i i
    cases rp_bl hx
    refine ⟨i, rfl, ?_⟩
    cases i with
    | true => exact ⟨env, s1, r1, G1, g1, e1, h1⟩
    | false => exact ⟨env, s1, r1, G1, g1, e1, h1⟩
  show wpAny _ _ (do if ← isTrue c X.env (eval c X.env) then isTrue a X.env (eval a X.env) else isTrue b X.env (eval b X.env)) _ _ _
  refine wpAny_bind (thn (hc.run pins s σ H _ I hr) fun d s1 ⟨H1, I1, q1⟩ => ?_)
  cases d with
  | true => exact ha.run pins s1 σ H1 Q I1 q1
  | false => exact hb.run pins s1 σ H1 Q I1 q1⟩
/-- list(range(a)), list(range(a, b)) -/
theorem rg_vals {K : PySem.W.Frag} {r : List Addr} {G : Hp} (lo : Int) (n : Nat) : RpL K T r G (rangeD lo n) ((List.range n).map fun i => V.int (lo + (i : Nat))) := by
  unfold rangeD
  generalize List.range n = l
  induction l with
  | nil => exact .nil
  | cons i l ih => exact .cons (of_int _) ih
theorem gf_lr1 (hc : X.calm = true) (hg : Gl X "list") (hm : X.mg "list" = none) (hg2 : Gl X "range") (hm2 : X.mg "range" = none) (ha : PE X a (tE X.K T W cl ca)) (hs : isStar a = false) :
    PE X (.Call (.Name "list" p) [.Call (.Name "range" p2) [a] [] q] [] pos) (tF X.K T W cl (.lr1 ca)) :=
  imp_e (pe_listRg hc hg hm (prg_1 hg2 hm2 ha (star_no hs))) fun σ H Q ⟨env, s, r, G, g, e, h⟩ => by
    simp only [evE] at h
    refine rdgF_bind g e h fun x v r1 G1 H1 s1 ex l1 g1 e1 hx h1 => ?_
    clear ex
    cases x <;> first | exact h1.elim | skip
    rename_i n
    cases rp_int hx
    simp only at h1
    split at h1
    · rename_i hcc
      have hc' := Bool.and_eq_true_iff.mp hcc
      have b1 : n ≤ 100000 := of_decide_eq_true hc'.1
      have b2 : -100000 ≤ n := of_decide_eq_true hc'.2
      refine ⟨n, rfl, ⟨by omega, by omega, by omega, by omega, by omega⟩, fun w hw => ?_⟩
      have he : rgV 0 n = (List.range n.toNat).map fun i => V.int (0 + (i : Nat)) := by
        unfold rgV
        rw [Int.sub_zero]
      rw [he]
      exact h1 w _ r1 G1 H1 Le.refl g1 (rg_vals 0 n.toNat) hw
    · exact h1.elim
theorem gf_lr2 (hc : X.calm = true) (hg : Gl X "list") (hm : X.mg "list" = none) (hg2 : Gl X "range") (hm2 : X.mg "range" = none) (ha : PE X a (tE X.K T W cl ca)) (hb : PE X b (tE X.K T W cl cb)) (hs : isStar a = false) (hs2 : isStar b = false) :
    PE X (.Call (.Name "list" p) [.Call (.Name "range" p2) [a, b] [] q] [] pos) (tF X.K T W cl (.lr2 ca cb)) :=
  imp_e (pe_listRg hc hg hm (prg_2 hg2 hm2 ha hb (star_no hs) (star_no hs2) (star_any (by simp [noStars, hs2])))) fun σ H Q ⟨env, s, r, G, g, e, h⟩ => by
    simp only [evE] at h
    refine rdgF_bind g e h fun x v r1 G1 H1 s1 ex l1 g1 e1 hx h1 => rdgF_bind g1 e1 h1 fun y u r2 G2 H2 s2 ey l2 g2 e2 hy h2 => ?_
    clear ex ey h1
    cases x <;> first | exact h2.elim | skip
    cases y <;> first | exact h2.elim | skip
    rename_i i j
    cases rp_int hx
    cases rp_int hy
    simp only at h2
    split at h2
    · rename_i hcc
      simp only [Bool.and_eq_true, decide_eq_true_eq] at hcc
      obtain ⟨⟨b1, b2⟩, b3, b4⟩ := hcc
      exact ⟨i, j, rfl, rfl, ⟨by omega, by omega, by omega, by omega, by omega⟩, fun w hw => h2 w _ r2 G2 H2 Le.refl g2 (rg_vals i _) hw⟩
    · exact h2.elim
/-- len(set(x)) -/
theorem ge_lenset (hc : X.calm = true) (hg : Gl X "len") (hm : X.mg "len" = none) (hg2 : Gl X "set") (hm2 : X.mg "set" = none) (ha : PE X a (tE X.K T W cl ca)) (hs : isStar a = false) :
    PE X (.Call (.Name "len" p) [.Call (.Name "set" p2) [a] [] q] [] pos) (tE X.K T W cl (.bi .lenset (.cons ca .nil))) :=
  imp_e (pe_lenSetA hg hm hg2 hm2 ha hc (star_no hs)) fun σ H Q ⟨env, s, r, G, g, e, h⟩ => by
    simp only [evE, evEs] at h
    refine ⟨env, s, r, G, g, e, ?_⟩
    cases hq : evE cl ca env s with
    | bad => rw [hq] at h; exact h.elim
    | err c ds s1 => rw [hq] at h; exact h
    | ok d s1 =>
      rw [hq] at h
      intro v r1 G1 H1 l1 g1 hv
      have h : Out X.K T (Rp X.K T) W σ Q r G H (lift (lensetB [rd s1 d]) s1) := h
      obtain ⟨z, hz, h3⟩ := out_lift (Out.le l1 h)
      have hr := Rr.rd g1 hv
      generalize rd s1 d = d' at hz hr
      unfold lensetB at hz
      split at hz <;> first | (cases hz; done) | skip
      rename_i ds heq
      cases heq
      cases hn : intsOf ds with
      | none => rw [hn] at hz; cases hz
      | some ns =>
        rw [hn] at hz
        simp only [Option.bind_some] at hz
        split at hz
        · rename_i hcap
          cases hz
          obtain ⟨l, xs, rfl, k1, k2⟩ := rr_lst hr
          have hx := ints_ok hn k2
          subst hx
          exact ⟨l, ns, rfl, SqL.of k1, Nat.le_of_ble_eq_true hcap, h3.here g1 (of_int _)⟩
        · cases hz
end
end T5

set_option Elab.async false
set_option linter.all false
set_option maxRecDepth 100000
set_option maxHeartbeats 2000000
/-! T5: from the text to the core language, expressions. -/
namespace T5
open PySem PySem.Spec L2
open Evl (Ex)

structure Cc where
  N : List Str
  sc : Scope
structure Gt where
  fns : List (Str × Nat)
  bnd : List ((Nat × Nat × List Str) × List (Nat ⊕ D))
  box : List (Nat × Nat)
  blt : List Str

def ixOf (x : Str) : List Str → Nat → Option Nat
  | [], _ => none
  | y :: r, i => if decide (x = y) then some i else ixOf x r (i + 1)
def dbg (x : Str) : Bool := decide (x = "__debug__") || decide (x = "__classdict__")
def Cc.kind (cc : Cc) (x : Str) : Option NameKind := cc.sc.names.lookup x
def Cc.var (cc : Cc) (x : Str) : Option Nat :=
  if dbg x then none else (match cc.kind x with
    | some .local => ixOf x cc.N 0
    | some .cell => ixOf x cc.N 0
    | some .free => ixOf x cc.N 0
    | _ => none)
def Cc.glob (cc : Cc) (x : Str) : Bool :=
  match cc.kind x with
  | some .globalImplicit => !dbg x
  | _ => false
/-- a built-in's name -/
def isB (gt : Gt) (cc : Cc) (x : Str) (y : String) : Bool := decide (x = Str.ofString y) && cc.glob x && gt.blt.contains x
def bx (gt : Gt) (pos : Pos) (c : CE) : CE := if gt.box.contains (pos.line, pos.col) then .box c else c
def cL (f : Expr → CE) : List Expr → CEs
  | [] => .nil
  | e :: es => .cons (f e) (cL f es)
def cK (f : Expr → CE) : List Keyword → CEs
  | [] => .nil
  | k :: ks => .cons (f k.value) (cK f ks)
def cB (f : Expr → CE) (isAnd : Bool) : List Expr → CE
  | [] => .bad
  | [a] => f a
  | a :: b :: r => if isAnd then .and (f a) (cB f isAnd (b :: r)) else .or (f a) (cB f isAnd (b :: r))
def cP (f : Expr → CE) : Option Expr → CE
  | none => .con .non
  | some e => .asInt (f e)
def cop : CmpOp → Option COp
  | .Lt => some .lt
  | .LtE => some .le
  | .Gt => some .gt
  | .GtE => some .ge
  | .Eq => some .eq
  | .NotEq => some .ne
  | _ => none
def keysOf : List (Option Expr) → Option (List L2.Key)
  | [] => some []
  | some (.Constant (.str x) _ _) :: r => (keysOf r).map (.inr x :: ·)
  | some (.Constant (.int i) _ _) :: r => (keysOf r).map (.inl i :: ·)
  | _ => none
def tyName (gt : Gt) (cc : Cc) (x : Str) : Option String :=
  if isB gt cc x "int" then some "int" else if isB gt cc x "bool" then some "bool" else if isB gt cc x "str" then some "str" else if isB gt cc x "tuple" then some "tuple" else if isB gt cc x "list" then some "list" else none
/-- a target's slots; fnb: names whose cells are of this frame -/
def tg1 (N : List Str) (sc : Scope) (fnb : Str → Bool) : Expr → Option Nat
  | .Name x _ => (match sc.names.lookup x with
    | some .local => ixOf x N 0
    | some .cell => if fnb x then ixOf x N 0 else none
    | _ => none)
  | _ => none
def tgL (N : List Str) (sc : Scope) (fnb : Str → Bool) : List Expr → Option (List Nat)
  | [] => some []
  | e :: es => (tg1 N sc fnb e).bind fun i => (tgL N sc fnb es).map (i :: ·)
def tgOf (N : List Str) (sc : Scope) (fnb : Str → Bool) : Expr → Option (List Nat)
  | .Tuple es _ _ => if Nat.ble 2 es.length then tgL N sc fnb es else none
  | e => (tg1 N sc fnb e).map ([·])
def ownOf (scope : Scope) (N : List Str) : List (Str × Nat) := scope.names.filterMap fun y => match y.2 with
  | .local => (ixOf y.1 N 0).map (y.1, ·)
  | .cell => (ixOf y.1 N 0).map (y.1, ·)
  | _ => none
/-- what a for walks -/
def cI (gt : Gt) (cc : Cc) (f : Expr → CE) : Expr → CE
  | .Call (.Name y p) [a] [] q => if isB gt cc y "range" && !isStar a then .rng1 (f a) else f (.Call (.Name y p) [a] [] q)
  | .Call (.Name y p) [a, b] [] q => if isB gt cc y "range" && !isStar a && !isStar b then .rng2 (f a) (f b) else f (.Call (.Name y p) [a, b] [] q)
  | e => f e
def cLen (gt : Gt) (cc : Cc) (f : Expr → CE) : List Expr → CE
  | [.Call (.Name y _) [a] [] _] => if isB gt cc y "set" && !isStar a then .bi .lenset (.cons (f a) .nil) else .bad
  | [a] => if isStar a then .bad else .bi .len (.cons (f a) .nil)
  | _ => .bad
def c1 (f : Expr → CE) (b : Bi) : List Expr → CE
  | [a] => if isStar a then .bad else .bi b (.cons (f a) .nil)
  | _ => .bad
def cList (gt : Gt) (cc : Cc) (f : Expr → CE) (pos : Pos) : List Expr → CE
  | [.Call (.Name y p) [a] [] q] => if isB gt cc y "range" && !isStar a then bx gt pos (.lr1 (f a)) else bx gt pos (.bi .list (.cons (f (.Call (.Name y p) [a] [] q)) .nil))
  | [.Call (.Name y p) [a, b] [] q] => if isB gt cc y "range" && !isStar a && !isStar b then bx gt pos (.lr2 (f a) (f b)) else bx gt pos (.bi .list (.cons (f (.Call (.Name y p) [a, b] [] q)) .nil))
  | [a] => if isStar a then .bad else bx gt pos (.bi .list (.cons (f a) .nil))
  | _ => .bad
def cIsi (gt : Gt) (cc : Cc) (f : Expr → CE) : List Expr → CE
  | [a, .Name t _] => (match tyName gt cc t with
    | some n => if isStar a then .bad else .bi .isi (.cons (f a) (.cons (.con (.ty n)) .nil))
    | none => .bad)
  | _ => .bad
def cBi (gt : Gt) (cc : Cc) (f : Expr → CE) (x : Str) (args : List Expr) (pos : Pos) : CE :=
  if isB gt cc x "len" then cLen gt cc f args
  else if isB gt cc x "list" then cList gt cc f pos args
  else if isB gt cc x "isinstance" then cIsi gt cc f args
  else if isB gt cc x "sum" then c1 f .sum args
  else if isB gt cc x "int" then c1 f .int args
  else if isB gt cc x "tuple" then c1 f .tuple args
  else if isB gt cc x "sorted" then c1 f .sorted args
  else if isB gt cc x "repr" then c1 f .repr args
  else .bad
def cCall (gt : Gt) (cc : Cc) (f : Expr → CE) (x : Str) (args : List Expr) (kws : List Keyword) (pos : Pos) : CE :=
  match gt.fns.lookup x with
  | some i => if cc.glob x && noStars args then (match kwNames kws with
    | some ks => (match gt.bnd.lookup (i, args.length, ks) with
      | some src => .call i src (cL f args) (cK f kws)
      | none => .bad)
    | none => .bad) else .bad
  | none => (match kws with
    | [] => cBi gt cc f x args pos
    | _ => .bad)
def cE (gt : Gt) : Nat → Cc → Expr → CE
  | 0, _, _ => .bad
  | n + 1, cc, e => (match e with
    | .Name x _ => (match cc.var x with
      | some i => .var i
      | none => .bad)
    | .Constant (.int i) _ _ => .con (.int i)
    | .Constant (.bool b) _ _ => .con (.bl b)
    | .Constant (.str x) _ _ => .con (.str x)
    | .Constant .none _ _ => .con .non
    | .BinOp a .Add b pos => bx gt pos (.bin .add (cE gt n cc a) (cE gt n cc b))
    | .BinOp a .Sub b _ => .bin .sub (cE gt n cc a) (cE gt n cc b)
    | .BinOp a .Mult b _ => .bin .mul (cE gt n cc a) (cE gt n cc b)
    | .BinOp a .FloorDiv b _ => .bin .fdiv (cE gt n cc a) (cE gt n cc b)
    | .BinOp a .Mod b _ => .bin .mod (cE gt n cc a) (cE gt n cc b)
    | .BinOp a .Pow b _ => .bin .pow (cE gt n cc a) (cE gt n cc b)
    | .UnaryOp .USub a _ => .neg (cE gt n cc a)
    | .UnaryOp .Not a _ => .not (cE gt n cc a)
    | .BoolOp .And es _ => cB (cE gt n cc) true es
    | .BoolOp .Or es _ => cB (cE gt n cc) false es
    | .IfExp c a b _ => .ite (cE gt n cc c) (cE gt n cc a) (cE gt n cc b)
    | .Compare a [op] [b] _ => if isSet b then .bad else (match cop op with
      | some o => .cmp o (cE gt n cc a) (cE gt n cc b)
      | none => .bad)
    | .Tuple es _ _ => if noStars es then .tup (cL (cE gt n cc) es) else .bad
    | .List es pos => if noStars es then bx gt pos (.lst (cL (cE gt n cc) es)) else .bad
    | .Dict keys values _ => (match keysOf keys with
      | some ks => if Nat.beq keys.length values.length && Nat.ble keys.length 15 && Nat.ble 1 keys.length then .dic ks (cL (cE gt n cc) values) else .bad
      | none => .bad)
    | .Subscript a (.Slice lo hi none _) _ => .slc (cE gt n cc a) (cP (cE gt n cc) lo) (cP (cE gt n cc) hi)
    | .Subscript a b _ => if isSl b then .bad else .idx (cE gt n cc a) (cE gt n cc b)
    | .ListComp elt [⟨tg, it, ifs, 0⟩] scope pos =>
      if L2.blkC cc.N cc.sc scope (ownOf scope cc.N) && !isSet it then
        (match tgOf cc.N (relS scope cc.sc) (fun x => scope.names.lookup x == some .cell) tg with
        | some tgs => if tgs.all fun i => ((ownOf scope cc.N).map (·.2)).contains i then (match ifs with
          | [] => bx gt pos (.lc ((ownOf scope cc.N).map (·.2)) tgs (cE gt n ⟨cc.N, relS scope cc.sc⟩ elt) (cI gt cc (cE gt n cc) it) (.con (.bl true)))
          | [c] => bx gt pos (.lc ((ownOf scope cc.N).map (·.2)) tgs (cE gt n ⟨cc.N, relS scope cc.sc⟩ elt) (cI gt cc (cE gt n cc) it) (cE gt n ⟨cc.N, relS scope cc.sc⟩ c))
          | _ => .bad) else .bad
        | none => .bad)
      else .bad
    | .Call (.Name x _) args kws pos => cCall gt cc (cE gt n cc) x args kws pos
    | _ => .bad)

/-! ### what the context holds -/
structure Xok (X : Cx) (T : Tb) (F : List Fd) (k : Nat) (gt : Gt) (W : WX) (cc : Cc) : Prop where
  hN : X.N = cc.N
  nd : X.N.Nodup
  sc : X.env.scope = cc.sc
  kd : cc.sc.kind = .function
  calm : X.calm = true
  tk : Takes X W
  room : Room k X.A
  gd : X.A.guards = some []
  own : PassesOwn (model X.prog X.w) X.A X.env X.xe
  fns : ∀ x i, gt.fns.lookup x = some i → ∃ f fd ps, X.mg x = some (.ref f) ∧ PySem.W.keepIn X.K (.ref f) = true ∧ FnG X.prog X.w X.K X.mg X.base k f fd ps (SpD X.K T F k i ps.length) ∧ ∀ n ks src, gt.bnd.lookup (i, n, ks) = some src → Bnd X.K fd ps n ks src
  blt : ∀ x, gt.blt.contains x = true → X.mg x = none
theorem ixOf_get {x : Str} : ∀ {l : List Str} {j i : Nat}, ixOf x l j = some i → j ≤ i ∧ l[i - j]? = some x
  | [], _, _, h => by cases h
  | y :: l, j, i, h => by
    unfold ixOf at h
    split at h
    · rename_i hd
      cases h
      have : x = y := of_decide_eq_true hd
      subst this
      exact ⟨Nat.le_refl _, by simp⟩
    · obtain ⟨h1, h2⟩ := ixOf_get h
      refine ⟨by omega, ?_⟩
      have : i - j = (i - (j + 1)) + 1 := by omega
      rw [this, List.getElem?_cons_succ]
      exact h2
theorem ixOf0 {x : Str} {l : List Str} {i : Nat} (h : ixOf x l 0 = some i) : l[i]? = some x := by
  have := (ixOf_get h).2
  simpa using this
section
variable {X : Cx} {T : Tb} {F : List Fd} {k : Nat} {gt : Gt} {W : WX} {cc : Cc}
theorem dbg_no {x : Str} (h : dbg x = false) : (x == ("__debug__" : Str)) = false ∧ (x == ("__classdict__" : Str)) = false := by
  unfold dbg at h
  simp only [Bool.or_eq_false_iff, decide_eq_false_iff_not] at h
  exact ⟨beq_eq_false_iff_ne.mpr h.1, beq_eq_false_iff_ne.mpr h.2⟩
theorem var_ok (o : Xok X T F k gt W cc) {x : Str} {i : Nat} (h : cc.var x = some i) : X.N[i]? = some x ∧ Vis X.env.scope x ∧ (x == ("__debug__" : Str)) = false ∧ (x == ("__classdict__" : Str)) = false := by
  unfold Cc.var at h
  split at h
  · cases h
  · rename_i hd
    have hd' := dbg_no (by simpa using hd)
    refine ⟨?_, ?_, hd'.1, hd'.2⟩
    · rw [o.hN]
      split at h <;> first | exact ixOf0 h | cases h
    · unfold Vis
      rw [o.sc]
      unfold Cc.kind at h
      split at h
      · rename_i hk; exact .inl hk
      · rename_i hk; exact .inr (.inl hk)
      · rename_i hk; exact .inr (.inr hk)
      · cases h
theorem glob_ok (o : Xok X T F k gt W cc) {x : Str} (h : cc.glob x = true) : Gl X x ∧ (x == ("__debug__" : Str)) = false := by
  unfold Cc.glob Cc.kind at h
  split at h
  · rename_i hk
    refine ⟨?_, (dbg_no (by simpa using h)).1⟩
    show X.env.scope.names.lookup x = _
    rw [o.sc]
    exact hk
  · cases h
theorem isB_ok (o : Xok X T F k gt W cc) {x : Str} {y : String} (h : isB gt cc x y = true) : x = Str.ofString y ∧ Gl X (Str.ofString y) ∧ X.mg (Str.ofString y) = none := by
  unfold isB at h
  simp only [Bool.and_eq_true, decide_eq_true_eq] at h
  obtain ⟨⟨rfl, h2⟩, h3⟩ := h
  exact ⟨rfl, (glob_ok o h2).1, o.blt _ h3⟩
end
end T5

set_option Elab.async false
set_option linter.all false
set_option maxRecDepth 100000
set_option maxHeartbeats 2000000
/-! T5: the core language's text does what the program's text does: expressions. -/
namespace T5
open PySem PySem.Spec L2
open Evl (Ex)

/-! ### targets -/
def gOf (K : PySem.W.Frag) : List Nat → TG
  | [i] => gName i
  | is => gTup K is.length (gNs is)
theorem tgOk_of {K : PySem.W.Frag} {T : Tb} : ∀ {is : List Nat}, is ≠ [] → TgOk K T (gOf K is) is
  | [], h => absurd rfl h
  | [i], _ => tg_name i
  | i :: j :: r, _ => tg_tup (i :: j :: r) (by simp)
section
variable {X : Cx} {N : List Str} {sc : Scope} {fnb : Str → Bool}
theorem tg1_ok (h1 : X.N = N) (h2 : X.N.Nodup) (h3 : X.env.scope = sc) (h4 : ∀ x, fnb x = true → X.fn x = true) {e : Expr} {i : Nat} (h : tg1 N sc fnb e = some i) : (∃ x p, e = .Name x p) ∧ PG X e (gName i) := by
  unfold tg1 at h
  split at h
  · rename_i x p
    refine ⟨⟨x, p, rfl⟩, ?_⟩
    split at h
    · rename_i hk
      exact pg_name h2 (by rw [h1]; exact ixOf0 h) (.inl (by rw [h3]; exact hk)) (.inr (by rw [h3]; exact hk))
    · rename_i hk
      split at h
      · rename_i hf
        exact pg_name h2 (by rw [h1]; exact ixOf0 h) (.inr (by rw [h3]; exact hk)) (.inl (h4 x hf))
      · cases h
    · cases h
  · cases h
theorem tgL_ok (h1 : X.N = N) (h2 : X.N.Nodup) (h3 : X.env.scope = sc) (h4 : ∀ x, fnb x = true → X.fn x = true) : ∀ {es : List Expr} {is : List Nat}, tgL N sc fnb es = some is → is.length = es.length ∧ PGs X es (gNs is) ∧ (assignEach es X.env).length = es.length ∧ (assignEach es X.env).findIdx? (·.1) = none
  | [], is, h => by
    unfold tgL at h
    cases h
    exact ⟨rfl, pgs_nil, rfl, rfl⟩
  | e :: es, is, h => by
    unfold tgL at h
    cases he : tg1 N sc fnb e with
    | none => rw [he] at h; cases h
    | some i =>
      rw [he] at h
      simp only [Option.bind_some] at h
      cases hr : tgL N sc fnb es with
      | none => rw [hr] at h; cases h
      | some t =>
        rw [hr] at h
        cases h
        obtain ⟨⟨x, p, rfl⟩, hg⟩ := tg1_ok h1 h2 h3 h4 he
        obtain ⟨i1, i2, i3, i4⟩ := tgL_ok h1 h2 h3 h4 hr
        have ea : assignEach (.Name x p :: es) X.env = (false, assign (.Name x p) X.env) :: assignEach es X.env := rfl
        refine ⟨congrArg Nat.succ i1, pgs_cons hg i2 (by rw [ea]; rfl), by rw [ea]; exact congrArg Nat.succ i3, ?_⟩
        rw [ea, List.findIdx?_cons]
        simp [i4]
theorem tgOf_ok (h1 : X.N = N) (h2 : X.N.Nodup) (h3 : X.env.scope = sc) (h4 : ∀ x, fnb x = true → X.fn x = true) (hc : X.calm = true) {e : Expr} {is : List Nat} (h : tgOf N sc fnb e = some is) : is ≠ [] ∧ PG X e (gOf X.K is) := by
  unfold tgOf at h
  split at h
  · rename_i es kk p
    split at h
    · rename_i h2l
      obtain ⟨i1, i2, i3, i4⟩ := tgL_ok h1 h2 h3 h4 h
      have hl : 2 ≤ is.length := by rw [i1]; exact Nat.le_of_ble_eq_true h2l
      refine ⟨fun e => by rw [e] at hl; simp at hl, ?_⟩
      have : gOf X.K is = gTup X.K is.length (gNs is) := by
        cases is with
        | nil => simp at hl
        | cons i t =>
          cases t with
          | nil => simp at hl
          | cons j t => rfl
      rw [this]
      exact pg_tup hc i2 (by rw [i3, i1]) i4
    · cases h
  · cases he : tg1 N sc fnb e with
    | none => rw [he] at h; cases h
    | some i =>
      rw [he] at h
      cases h
      exact ⟨fun e => (by cases e), (tg1_ok h1 h2 h3 h4 he).2⟩
end

/-! ### expressions -/
section
variable {T : Tb} {F : List Fd} {k : Nat} {gt : Gt}
/-- as a value and as a test -/
def EOK (X : Cx) (T : Tb) (F : List Fd) (k : Nat) (W : WX) (c : CE) (e : Expr) : Prop := PE X e (tE X.K T W (run F k) c) ∧ PT X e (tQ X.K T W (run F k) c)
theorem EOK.val {X : Cx} {W : WX} {c : CE} {e : Expr} (h : PE X e (tE X.K T W (run F k) c)) (hp : plainT e = true := by rfl) : EOK X T F k W c e := ⟨h, gt_val h (plain_t hp)⟩
theorem EOK.bad {X : Cx} {W : WX} {e : Expr} : EOK X T F k W .bad e := ⟨ge_bad, gt_bad⟩
section
variable {X : Cx} {W : WX} {f : Expr → CE}
theorem bx_ok {e : Expr} {c : CE} {pos : Pos} (h1 : PE X e (tF X.K T W (run F k) c)) (h2 : PE X e (tE X.K T W (run F k) c)) : PE X e (tE X.K T W (run F k) (bx gt pos c)) := by
  unfold bx
  split
  · exact ge_box h1
  · exact h2
theorem bx_fresh {e : Expr} {c : CE} {pos : Pos} (h1 : PE X e (tF X.K T W (run F k) c)) (hl : Lists (run F k) c) : PE X e (tE X.K T W (run F k) (bx gt pos c)) := bx_ok h1 (ge_fresh h1 hl)
theorem cL_ok (ih : ∀ e, EOK X T F k W (f e) e) : ∀ {es : List Expr}, noStars es = true → PA X es (tL X.K T W (run F k) (cL f es))
  | [], _ => gl_nil
  | e :: es, h => by
    have h' := Bool.and_eq_true_iff.mp (show (!isStar e && noStars es) = true from h)
    exact gl_cons (ih e).1 (cL_ok ih h'.2) (star_no (by simpa using h'.1))
theorem cK_ok (ih : ∀ e, EOK X T F k W (f e) e) : ∀ {ks : List Keyword}, PK X ks (tL X.K T W (run F k) (cK f ks))
  | [] => gk_nil
  | ⟨nm, e, p⟩ :: ks => gk_cons (ih e).1 (cK_ok ih)
theorem cL_len {cl : Calls} : ∀ {es : List Expr} {env : Env} {s : Sto} {ds : List D} {s' : Sto}, evEs cl (cL f es) env s = .ok ds s' → ds.length = es.length
  | [], env, s, ds, s', h => by
    simp only [cL, evEs] at h
    cases h
    rfl
  | e :: es, env, s, ds, s', h => by
    simp only [cL, evEs] at h
    cases h1 : evE cl (f e) env s with
    | bad => rw [h1] at h; cases h
    | err c d s1 => rw [h1] at h; cases h
    | ok d s1 =>
      rw [h1] at h
      simp only [R.bind] at h
      cases h2 : evEs cl (cL f es) env s1 with
      | bad => rw [h2] at h; cases h
      | err c d s1 => rw [h2] at h; cases h
      | ok t s2 =>
        rw [h2] at h
        cases h
        rw [List.length_cons, List.length_cons, cL_len h2]
theorem cK_len {cl : Calls} : ∀ {es : List Keyword} {env : Env} {s : Sto} {ds : List D} {s' : Sto}, evEs cl (cK f es) env s = .ok ds s' → ds.length = es.length
  | [], env, s, ds, s', h => by
    simp only [cK, evEs] at h
    cases h
    rfl
  | e :: es, env, s, ds, s', h => by
    simp only [cK, evEs] at h
    cases h1 : evE cl (f e.value) env s with
    | bad => rw [h1] at h; cases h
    | err c d s1 => rw [h1] at h; cases h
    | ok d s1 =>
      rw [h1] at h
      simp only [R.bind] at h
      cases h2 : evEs cl (cK f es) env s1 with
      | bad => rw [h2] at h; cases h
      | err c d s1 => rw [h2] at h; cases h
      | ok t s2 =>
        rw [h2] at h
        cases h
        rw [List.length_cons, List.length_cons, cK_len h2]
theorem cB_and (ih : ∀ e, EOK X T F k W (f e) e) {pos : Pos} : ∀ {es : List Expr}, es ≠ [] → PE X (.BoolOp .And es pos) (tE X.K T W (run F k) (cB f true es)) ∧ PW X (.BoolOp .And es pos) (tQ X.K T W (run F k) (cB f true es))
  | [], h => absurd rfl h
  | [a], _ => ⟨pe_one (ih a).1, pw_and1 (ih a).2⟩
  | a :: b :: r, _ => ⟨ge_and (ih a).1 (cB_and ih (by simp)).1, gw_and (ih a).2 (cB_and ih (by simp)).2⟩
theorem cB_or (ih : ∀ e, EOK X T F k W (f e) e) {pos : Pos} : ∀ {es : List Expr}, es ≠ [] → PE X (.BoolOp .Or es pos) (tE X.K T W (run F k) (cB f false es)) ∧ PW X (.BoolOp .Or es pos) (tQ X.K T W (run F k) (cB f false es))
  | [], h => absurd rfl h
  | [a], _ => ⟨pe_one (ih a).1, pw_or1 (ih a).2⟩
  | a :: b :: r, _ => ⟨ge_or (ih a).1 (cB_or ih (by simp)).1, gw_or (ih a).2 (cB_or ih (by simp)).2⟩
theorem cP_ok (ih : ∀ e, EOK X T F k W (f e) e) : ∀ (o : Option Expr), PO X o (tP X.K T W (run F k) (cP f o))
  | none => gp_none
  | some e => gp_some (ih e).1
theorem cmp_ok {cc : Cc} (o : Xok X T F k gt W cc) {a b : Expr} {ca cb : CE} {pos : Pos} {op : CmpOp} {q : COp} (hq : cop op = some q) (hs : isSet b = false) (ha : PE X a (tE X.K T W (run F k) ca)) (hb : PE X b (tE X.K T W (run F k) cb)) : EOK X T F k W (.cmp q ca cb) (.Compare a [op] [b] pos) := by
  have hu : X.A.units + 64 < cLine := o.room.units
  cases op <;> (unfold cop at hq; first | (cases hq; done) | skip)
  · cases hq; exact ge_cmp (op_eqA hu) (marks_no hs) cmp_eq ha hb
  · cases hq; exact ge_cmp (op_neA hu) (marks_no hs) cmp_ne ha hb
  · cases hq; exact ge_cmp op_lt (marks_no hs) ord_ok ha hb
  · cases hq; exact ge_cmp op_le (marks_no hs) ord_ok ha hb
  · cases hq; exact ge_cmp op_gt (marks_no hs) ord_ok ha hb
  · cases hq; exact ge_cmp op_ge (marks_no hs) ord_ok ha hb
theorem keys_each (ih : ∀ e, EOK X T F k W (f e) e) : ∀ {keys : List (Option Expr)} {values : List Expr} {ks : List L2.Key}, keysOf keys = some ks → keys.length = values.length → Each X T W (run F k) keys values ks (cL f values)
  | [], values, ks, h, hl => by
    unfold keysOf at h
    cases h
    have : values = [] := List.eq_nil_of_length_eq_zero hl.symm
    subst this
    exact .nil
  | key :: keys, [], ks, h, hl => by cases hl
  | key :: keys, v :: values, ks, h, hl => by
    unfold keysOf at h
    split at h
    · rename_i heq; cases heq
    · rename_i x i p r heq
      cases heq
      cases hr : keysOf keys with
      | none => rw [hr] at h; cases h
      | some t =>
        rw [hr] at h
        cases h
        exact .cons pe_str (ih v).1 (keys_each ih hr (Nat.succ.inj hl))
    · rename_i x i p r heq
      cases heq
      cases hr : keysOf keys with
      | none => rw [hr] at h; cases h
      | some t =>
        rw [hr] at h
        cases h
        exact .cons pe_int (ih v).1 (keys_each ih hr (Nat.succ.inj hl))
    · cases h
/-! lists come of these -/
theorem lists_lst {cl : Calls} {es : CEs} : Lists cl (.lst es) := fun env s d s' h => by
  simp only [evE] at h
  cases h1 : evEs cl es env s with
  | bad => rw [h1] at h; cases h
  | err c d s1 => rw [h1] at h; cases h
  | ok ds s1 =>
    rw [h1] at h
    simp only [R.bind] at h
    split at h
    · cases h; exact ⟨ds, rfl⟩
    · cases h
theorem lists_lr1 {cl : Calls} {a : CE} : Lists cl (.lr1 a) := fun env s d s' h => by
  simp only [evE] at h
  cases h1 : evE cl a env s with
  | bad => rw [h1] at h; cases h
  | err c d s1 => rw [h1] at h; cases h
  | ok x s1 =>
    rw [h1] at h
    simp only [R.bind] at h
    cases x <;> first | (cases h; done) | skip
    simp only at h
    split at h
    · cases h; exact ⟨_, rfl⟩
    · cases h
theorem lists_lr2 {cl : Calls} {a b : CE} : Lists cl (.lr2 a b) := fun env s d s' h => by
  simp only [evE] at h
  cases h1 : evE cl a env s with
  | bad => rw [h1] at h; cases h
  | err c d s1 => rw [h1] at h; cases h
  | ok x s1 =>
    rw [h1] at h
    simp only [R.bind] at h
    cases h2 : evE cl b env s1 with
    | bad => rw [h2] at h; cases h
    | err c d s1 => rw [h2] at h; cases h
    | ok y s2 =>
      rw [h2] at h
      cases x <;> first | (cases h; done) | skip
      cases y <;> first | (cases h; done) | skip
      simp only at h
      split at h
      · cases h; exact ⟨_, rfl⟩
      · cases h
theorem lists_lc {cl : Calls} {own tg : List Nat} {e it c : CE} : Lists cl (.lc own tg e it c) := fun env s d s' h => by
  simp only [evE] at h
  cases h1 : evE cl it env s with
  | bad => rw [h1] at h; cases h
  | err c d s1 => rw [h1] at h; cases h
  | ok x s1 =>
    rw [h1] at h
    simp only [R.bind] at h
    cases h2 : seqOf x with
    | none => rw [h2] at h; cases h
    | some items =>
      rw [h2] at h
      simp only at h
      split at h
      · cases h; exact ⟨_, rfl⟩
      · cases h
      · cases h
theorem lists_listB {cl : Calls} {a : CE} : Lists cl (.bi .list (.cons a .nil)) := fun env s d s' h => by
  simp only [evE, evEs] at h
  cases h1 : evE cl a env s with
  | bad => rw [h1] at h; cases h
  | err c d s1 => rw [h1] at h; cases h
  | ok x s1 =>
    rw [h1] at h
    have h : lift (listB [rd s1 x]) s1 = .ok d s' := h
    generalize rd s1 x = y at h
    cases y <;> first | (cases h; done) | (cases h; exact ⟨_, rfl⟩)
/-- list(x) -/
theorem gf_list {a : Expr} {ca : CE} {e : Expr} (h : PE X e (tCB (rListB X.K) (tL X.K T W (run F k) (.cons ca .nil)))) : PE X e (tF X.K T W (run F k) (.bi .list (.cons ca .nil))) :=
  imp_e h fun σ H Q ⟨env, s, r, G, g, e, h⟩ => by
    simp only [evE] at h
    refine rdgF_bind g e h fun ds vs r1 G1 H1 s1 _ l1 g1 e1 hx h1 => ?_
    obtain ⟨zs, hz, h3⟩ := outF_lift h1
    have hr := RrL.of g1 hx
    have hz : listB (ds.map (rd s1)) = some (.lst zs) := hz
    generalize ds.map (rd s1) = ds' at hz hr
    unfold listB at hz
    split at hz <;> first | (cases hz; done) | skip
    · cases hz
      obtain ⟨v, rfl, h1⟩ := hr.one
      obtain ⟨p, xs, rfl, e1, e2⟩ := rr_lst h1
      exact ⟨p, xs, rfl, .inl (SqL.of e1), fun l hl => h3 l xs r1 G1 H1 Le.refl g1 e2 hl⟩
    · cases hz
      obtain ⟨v, rfl, h1⟩ := hr.one
      obtain ⟨p, xs, rfl, e1, e1', e2⟩ := rr_tup g1 h1
      exact ⟨p, xs, rfl, .inr e1, fun l hl => h3 l xs r1 G1 H1 Le.refl g1 e2 hl⟩
    · cases hz
      obtain ⟨v, rfl, h1⟩ := hr.one
      obtain ⟨p, xs, rfl, e1, e2⟩ := rr_scr g1 h1
      exact ⟨p, xs, rfl, .inl e1, fun l hl => h3 l xs r1 G1 H1 Le.refl g1 e2 hl⟩
end
end
end T5

set_option Elab.async false
set_option linter.all false
set_option maxRecDepth 100000
set_option maxHeartbeats 2000000
/-! T5: calls, comprehensions; all expressions. -/
namespace T5
open PySem PySem.Spec L2
open Evl (Ex)
section
variable {T : Tb} {F : List Fd} {k : Nat} {gt : Gt} {X : Cx} {W : WX} {cc : Cc} {f : Expr → CE}
theorem hpl1 {a : Expr} {pos : Pos} : (backTo pos (starEach ([] : List Expr) X.env)).any (·.1) = false := rfl
/-- T(a), f(a) of a built-in -/
theorem gb1 (o : Xok X T F k gt W cc) (ih : ∀ e, EOK X T F k W (f e) e) {id : String} {y : String} {x : Str} {q : List V → Hp → VK → Prop} (hx : isB gt cc x y = true) (hq : CallR X (.builtin id) q) (hv : bootBuiltins (Str.ofString y) = some (.builtin id)) (hn : Str.ofString y ≠ "__name__") (hdb : (Str.ofString y == ("__debug__" : Str)) = false)
    {a : Expr} {p pos : Pos} (hs : isStar a = false) : PE X (.Call (.Name x p) [a] [] pos) (tCB q (tL X.K T W (run F k) (.cons (f a) .nil))) := by
  obtain ⟨rfl, h1, h2⟩ := isB_ok o hx
  exact pe_callB hq h1 h2 hv (gl_cons (ih a).1 gl_nil (star_no hs)) hn hdb (star_no hs) rfl
theorem gb1T (o : Xok X T F k gt W cc) (ih : ∀ e, EOK X T F k W (f e) e) {id : String} {y : String} {x : Str} {q : List V → Hp → VK → Prop} (hx : isB gt cc x y = true) (hq : CallR X (.type id) q) (hv : bootBuiltins (Str.ofString y) = some (.type id)) (hn : Str.ofString y ≠ "__name__") (hdb : (Str.ofString y == ("__debug__" : Str)) = false)
    {a : Expr} {p pos : Pos} (hs : isStar a = false) : PE X (.Call (.Name x p) [a] [] pos) (tCB q (tL X.K T W (run F k) (.cons (f a) .nil))) := by
  obtain ⟨rfl, h1, h2⟩ := isB_ok o hx
  exact pe_callTy hq h1 h2 hv (gl_cons (ih a).1 gl_nil (star_no hs)) hn hdb (star_no hs) rfl
theorem c1_ok {b : Bi} {q : List V → Hp → VK → Prop} {x : Str} {p pos : Pos} (h : ∀ a, isStar a = false → PE X (.Call (.Name x p) [a] [] pos) (tCB q (tL X.K T W (run F k) (.cons (f a) .nil))))
    (kk : ∀ {r : List Addr} {G H : Hp} {s : Sto} {ds : List D} {vs : List V} {z : D} {Q : VK}, Gd X.K T r G H s → RrL X.K T r G H ds vs → biD b ds = some z → Nxt X.K T Q r G H s z → q vs H Q) : ∀ args : List Expr, PE X (.Call (.Name x p) args [] pos) (tE X.K T W (run F k) (c1 f b args))
  | [] => ge_bad
  | [a] => by
    show PE X _ (tE X.K T W (run F k) (if isStar a then .bad else .bi b (.cons (f a) .nil)))
    split
    · exact ge_bad
    · rename_i hs
      exact ge_bi (h a (by simpa using hs)) kk
  | _ :: _ :: _ => ge_bad
theorem cLen_ok (o : Xok X T F k gt W cc) (ih : ∀ e, EOK X T F k W (f e) e) {x : Str} {p pos : Pos} (hx : isB gt cc x "len" = true) (args : List Expr) : PE X (.Call (.Name x p) args [] pos) (tE X.K T W (run F k) (cLen gt cc f args)) := by
  unfold cLen
  split
  · rename_i y p2 a q2
    split
    · rename_i hc
      have hc' := Bool.and_eq_true_iff.mp hc
      obtain ⟨rfl, h1, h2⟩ := isB_ok o hx
      obtain ⟨rfl, h3, h4⟩ := isB_ok o hc'.1
      exact ge_lenset o.calm h1 h2 h3 h4 (ih a).1 (by simpa using hc'.2)
    · exact ge_bad
  · rename_i a _
    split
    · exact ge_bad
    · rename_i hs
      exact ge_bi (gb1 o ih hx call_len_seq (by decide +kernel) (by decide +kernel) (by decide +kernel) (by simpa using hs)) bi_len
  · exact ge_bad
theorem gfl (o : Xok X T F k gt W cc) (ih : ∀ e, EOK X T F k W (f e) e) {x : Str} {p pos bp : Pos} (hx : isB gt cc x "list" = true) (a : Expr) (hs : isStar a = false) : PE X (.Call (.Name x p) [a] [] pos) (tE X.K T W (run F k) (bx gt bp (.bi .list (.cons (f a) .nil)))) :=
  bx_fresh (gf_list (a := a) (gb1T o ih hx call_list_of (by decide +kernel) (by decide +kernel) (by decide +kernel) hs)) lists_listB
theorem cList_ok (o : Xok X T F k gt W cc) (ih : ∀ e, EOK X T F k W (f e) e) {x : Str} {p pos : Pos} (hx : isB gt cc x "list" = true) (args : List Expr) : PE X (.Call (.Name x p) args [] pos) (tE X.K T W (run F k) (cList gt cc f pos args)) := by
  unfold cList
  split
  · rename_i y p2 a q2
    split
    · rename_i hc
      have hc' := Bool.and_eq_true_iff.mp hc
      obtain ⟨rfl, h1, h2⟩ := isB_ok o hx
      obtain ⟨rfl, h3, h4⟩ := isB_ok o hc'.1
      exact bx_fresh (gf_lr1 o.calm h1 h2 h3 h4 (ih a).1 (by simpa using hc'.2)) lists_lr1
    · exact gfl o ih hx _ rfl
  · rename_i y p2 a b q2
    split
    · rename_i hc
      simp only [Bool.and_eq_true, Bool.not_eq_true'] at hc
      obtain ⟨⟨c1, c2⟩, c3⟩ := hc
      obtain ⟨rfl, h1, h2⟩ := isB_ok o hx
      obtain ⟨rfl, h3, h4⟩ := isB_ok o c1
      exact bx_fresh (gf_lr2 o.calm h1 h2 h3 h4 (ih a).1 (ih b).1 c2 c3) lists_lr2
    · exact gfl o ih hx _ rfl
  · rename_i a _ _
    split
    · exact ge_bad
    · rename_i hs
      exact gfl o ih hx a (by simpa using hs)
  · exact ge_bad
theorem tyName_ok (o : Xok X T F k gt W cc) {t : Str} {n : String} {pos : Pos} (h : tyName gt cc t = some n) : PE X (.Name t pos) (tE X.K T W (run F k) (.con (.ty n))) ∧ isStar (.Name t pos) = false := by
  refine ⟨?_, rfl⟩
  have fin : ∀ {y : String}, isB gt cc t y = true → bootBuiltins (Str.ofString y) = some (.type y) → Str.ofString y ≠ "__name__" → (Str.ofString y == ("__debug__" : Str)) = false → PE X (.Name t pos) (tE X.K T W (run F k) (.con (.ty y))) := fun hy hv hn hd => by
    obtain ⟨rfl, h1, h2⟩ := isB_ok o hy
    exact ge_con (pe_bltn (v := .ty _) h1 h2 hv rfl hn hd) fun _ _ => by unfold Rp; rfl
  unfold tyName at h
  split at h
  · cases h; exact fin ‹_› (by decide +kernel) (by decide +kernel) (by decide +kernel)
  · split at h
    · cases h; exact fin ‹_› (by decide +kernel) (by decide +kernel) (by decide +kernel)
    · split at h
      · cases h; exact fin ‹_› (by decide +kernel) (by decide +kernel) (by decide +kernel)
      · split at h
        · cases h; exact fin ‹_› (by decide +kernel) (by decide +kernel) (by decide +kernel)
        · split at h
          · cases h; exact fin ‹_› (by decide +kernel) (by decide +kernel) (by decide +kernel)
          · cases h
theorem cIsi_ok (o : Xok X T F k gt W cc) (ih : ∀ e, EOK X T F k W (f e) e) {x : Str} {p pos : Pos} (hx : isB gt cc x "isinstance" = true) (args : List Expr) : PE X (.Call (.Name x p) args [] pos) (tE X.K T W (run F k) (cIsi gt cc f args)) := by
  unfold cIsi
  split
  · rename_i a t q
    split
    · rename_i n hn
      split
      · exact ge_bad
      · rename_i hs
        have hs' : isStar a = false := by simpa using hs
        obtain ⟨rfl, h1, h2⟩ := isB_ok o hx
        obtain ⟨h3, h4⟩ := tyName_ok (pos := q) o hn
        exact ge_bi (pe_callB call_isi h1 h2 (by decide +kernel) (gl_cons (ih a).1 (gl_cons h3 gl_nil (star_no h4)) (star_no hs')) (by decide +kernel) (by decide +kernel) (star_no hs') (star_any (by simp [noStars, h4]))) bi_isi
    · exact ge_bad
  · exact ge_bad
theorem cBi_ok (o : Xok X T F k gt W cc) (ih : ∀ e, EOK X T F k W (f e) e) {x : Str} {p pos : Pos} (args : List Expr) : PE X (.Call (.Name x p) args [] pos) (tE X.K T W (run F k) (cBi gt cc f x args pos)) := by
  have hr := o.room.un
  unfold cBi
  split
  · exact cLen_ok o ih ‹_› args
  · split
    · exact cList_ok o ih ‹_› args
    · split
      · exact cIsi_ok o ih ‹_› args
      · split
        · exact c1_ok (q := rSumA X.K) (fun a hs => gb1 o ih ‹_› (or_c (cr_sum o.calm) (call_sumT o.calm)) (by decide +kernel) (by decide +kernel) (by decide +kernel) hs) bi_sum args
        · split
          · exact c1_ok (fun a hs => gb1T o ih ‹_› call_int1 (by decide +kernel) (by decide +kernel) (by decide +kernel) hs) bi_int args
          · split
            · exact c1_ok (fun a hs => gb1T o ih ‹_› call_tuple_of (by decide +kernel) (by decide +kernel) (by decide +kernel) hs) bi_tup args
            · split
              · exact c1_ok (q := rSortA X.K) (fun a hs => gb1 o ih ‹_› (or_c cr_sortedI cr_sortedPO) (by decide +kernel) (by decide +kernel) (by decide +kernel) hs) bi_sorted args
              · split
                · exact c1_ok (fun a hs => gb1 o ih ‹_› (call_reprD o.gd (by omega)) (by decide +kernel) (by decide +kernel) (by decide +kernel) hs) bi_repr args
                · exact ge_bad
theorem cCall_ok (o : Xok X T F k gt W cc) (ih : ∀ e, EOK X T F k W (f e) e) {x : Str} {p pos : Pos} (args : List Expr) (kws : List Keyword) : PE X (.Call (.Name x p) args kws pos) (tE X.K T W (run F k) (cCall gt cc f x args kws pos)) := by
  unfold cCall
  split
  · rename_i i hi
    split
    · rename_i hc
      have hc' := Bool.and_eq_true_iff.mp hc
      split
      · rename_i ks hks
        split
        · rename_i src hsrc
          obtain ⟨g1, g2⟩ := glob_ok o hc'.1
          obtain ⟨fa, fd, ps, m1, m2, m3, m4⟩ := o.fns x i hi
          obtain ⟨k1, k2, k3, k4⟩ := kw_ok (pos := pos) (env := X.env) hks
          refine ge_call m3 o.room o.gd o.tk g1 m1 m2 (m4 _ _ _ hsrc) (cL_ok ih hc'.2) (cK_ok ih) k1 k2 k4 g2 (fun e t he => ?_) (fun he => by rw [he]; rfl) (fun _ _ _ _ h => cL_len h) (fun _ _ _ _ h => cK_len h) ?_
          · subst he
            have := Bool.and_eq_true_iff.mp (show (!isStar e && noStars t) = true from hc'.2)
            exact star_no (by simpa using this.1)
          · rw [star_any hc'.2, k3]
            rfl
        · exact ge_bad
      · exact ge_bad
    · exact ge_bad
  · split
    · exact cBi_ok o ih args
    · exact ge_bad
theorem cI_ok (o : Xok X T F k gt W cc) (ih : ∀ e, EOK X T F k W (f e) e) {tg : Expr} (e : Expr) : PI X tg e (tI X.K T W (run F k) (cI gt cc f e)) := by
  unfold cI
  split
  · rename_i y p a q
    split
    · rename_i hc
      have hc' := Bool.and_eq_true_iff.mp hc
      obtain ⟨rfl, h1, h2⟩ := isB_ok o hc'.1
      exact gi_rng1 h1 h2 (ih a).1 (star_no (by simpa using hc'.2))
    · exact gi_seq (ih _).1
  · rename_i y p a b q
    split
    · rename_i hc
      simp only [Bool.and_eq_true, Bool.not_eq_true'] at hc
      obtain ⟨⟨c1, c2⟩, c3⟩ := hc
      obtain ⟨rfl, h1, h2⟩ := isB_ok o c1
      exact gi_rng2 h1 h2 (ih a).1 (ih b).1 (star_no c2) (star_no c3)
    · exact gi_seq (ih _).1
  · exact gi_seq (ih e).1
/-- a comprehension's block -/
theorem blk_ok (o : Xok X T F k gt W cc) {scope : Scope} (hk : scope.kind = .function) (s : Shared) (H : Hp) (C : Addr) (cl : List (Str × Addr)) (fp : List Addr) : Xok (X.blk s H scope (compEnvC scope cl C X.env) fp) T F k gt W0 ⟨cc.N, relS scope cc.sc⟩ where
  hN := o.hN
  nd := o.nd
  sc := by
    have : (compEnvC scope cl C X.env).scope = relS scope X.env.scope := rfl
    show (compEnvC scope cl C X.env).scope = _
    rw [this, o.sc]
  kd := hk
  calm := o.calm
  tk := takes0
  room := o.room
  gd := o.gd
  own := PassesOwn.never
  fns := o.fns
  blt := o.blt
theorem tgOf_ne {N : List Str} {sc : Scope} {fnb : Str → Bool} {e : Expr} {is : List Nat} (h : tgOf N sc fnb e = some is) : is ≠ [] := by
  unfold tgOf at h
  split at h
  · rename_i es kk p
    split at h
    · rename_i h2l
      have h2 : 2 ≤ es.length := Nat.le_of_ble_eq_true h2l
      cases es with
      | nil => simp at h2
      | cons a r =>
        unfold tgL at h
        cases h1 : tg1 N sc fnb a with
        | none => rw [h1] at h; cases h
        | some i =>
          rw [h1] at h
          cases hr : tgL N sc fnb r with
          | none => rw [hr] at h; cases h
          | some t =>
            rw [hr] at h
            cases h
            exact fun z => (by cases z)
    · cases h
  · cases h1 : tg1 N sc fnb e with
    | none => rw [h1] at h; cases h
    | some i =>
      rw [h1] at h
      cases h
      exact fun z => (by cases z)
/-- the whole reading of a comprehension, for a value and for a store -/
theorem lc_all (o : Xok X T F k gt W cc) (n : Nat) (ih : ∀ (cc : Cc) (X : Cx) (W : WX) (e : Expr), Xok X T F k gt W cc → EOK X T F k W (cE gt n cc e) e) {tg it : Expr} {scope : Scope} {tgs : List Nat}
    (hb : L2.blkC cc.N cc.sc scope (ownOf scope cc.N) = true) (ht : tgOf cc.N (relS scope cc.sc) (fun x => scope.names.lookup x == some .cell) tg = some tgs) :
    PI X tg it (tI X.K T W (run F k) (cI gt cc (cE gt n cc) it)) ∧ BlkOk X.N X.env.scope scope (ownOf scope cc.N) ∧
    (∀ (s : Shared) (H : Hp) (C : Addr) (cl : List (Str × Addr)) (fp : List Addr), PG (X.blk s H scope (compEnvC scope cl C X.env) fp) tg (gOf X.K tgs)) ∧
    (∀ (c : Expr) (s : Shared) (H : Hp) (C : Addr) (cl : List (Str × Addr)) (fp : List Addr), EOK (X.blk s H scope (compEnvC scope cl C X.env) fp) T F k W0 (cE gt n ⟨cc.N, relS scope cc.sc⟩ c) c) ∧ TgOk X.K T (gOf X.K tgs) tgs := by
  have hB : BlkOk cc.N cc.sc scope (ownOf scope cc.N) := blkOk_by hb
  refine ⟨cI_ok o (fun e => ih cc X W e o) it, by rw [o.hN, o.sc]; exact hB, fun s H C cl fp => ?_, fun c s H C cl fp => ih _ _ _ c (blk_ok o hB.kind s H C cl fp), tgOk_of (tgOf_ne ht)⟩
  have b := blk_ok o hB.kind s H C cl fp
  exact (tgOf_ok (X := X.blk s H scope (compEnvC scope cl C X.env) fp) b.hN b.nd b.sc (fun x hx => hx) b.calm ht).2
theorem sub_of {own : List (Str × Nat)} {tgs : List Nat} (h : (tgs.all fun i => (own.map (·.2)).contains i) = true) : ∀ i ∈ tgs, i ∈ own.map (·.2) := fun i hi => by
  have := List.all_eq_true.mp h i hi
  simpa using this
/-- all expressions -/
theorem cE_ok : ∀ (n : Nat) (cc : Cc) (X : Cx) (W : WX) (e : Expr), Xok X T F k gt W cc → EOK X T F k W (cE gt n cc e) e
  | 0, cc, X, W, e, o => .bad
  | n + 1, cc, X, W, e, o => by
    have ih := cE_ok n
    have ihx : ∀ e, EOK X T F k W (cE gt n cc e) e := fun e => ih cc X W e o
    have hu := o.room.un
    unfold cE
    split
    · -- a name
      rename_i x p
      split
      · rename_i i hi
        obtain ⟨h1, h2, h3, h4⟩ := var_ok o hi
        exact .val (ge_var h1 h2 h3 h4)
      · exact .bad
    · exact .val ge_int
    · exact .val ge_bl
    · exact .val ge_str
    · exact .val ge_non
    · exact .val (bx_ok (gf_add (ihx _).1 (ihx _).1) (ge_add (ihx _).1 (ihx _).1))
    · exact .val (ge_sub (ihx _).1 (ihx _).1)
    · exact .val (ge_mul (ihx _).1 (ihx _).1)
    · exact .val (ge_fdiv (ihx _).1 (ihx _).1)
    · exact .val (ge_mod (ihx _).1 (ihx _).1)
    · exact .val (ge_pow (ihx _).1 (ihx _).1)
    · exact .val (ge_neg (ihx _).1)
    · exact ⟨ge_not (ihx _).1, gt_not (ihx _).2⟩
    · rename_i es p
      cases es with
      | nil => exact .bad
      | cons a r => exact ⟨(cB_and ihx (by simp)).1, (cB_and ihx (by simp)).2.pt⟩
    · rename_i es p
      cases es with
      | nil => exact .bad
      | cons a r => exact ⟨(cB_or ihx (by simp)).1, (cB_or ihx (by simp)).2.pt⟩
    · exact ⟨ge_ite (ihx _).2 (ihx _).1 (ihx _).1, gt_ite (ihx _).2 (ihx _).2 (ihx _).2⟩
    · split
      · exact .bad
      · rename_i hs
        split
        · rename_i q hq
          exact cmp_ok o hq (by simpa using hs) (ihx _).1 (ihx _).1
        · exact .bad
    · split
      · rename_i hs
        exact .val (ge_tup (cL_ok ihx hs))
      · exact .bad
    · split
      · rename_i hs
        exact .val (bx_fresh (gf_lst (cL_ok ihx hs)) lists_lst)
      · exact .bad
    · rename_i keys values p
      split
      · rename_i ks hk
        split
        · rename_i hc
          simp only [Bool.and_eq_true] at hc
          obtain ⟨⟨c1, c2⟩, c3⟩ := hc
          refine .val (ge_dic (keys_each ihx hk (Nat.eq_of_beq_eq_true c1)) (fun z => ?_) (Nat.le_of_ble_eq_true c2))
          rw [z] at c3
          cases c3
        · exact .bad
      · exact .bad
    · exact .val (ge_slc (ihx _).1 (cP_ok ihx _) (cP_ok ihx _))
    · split
      · exact .bad
      · rename_i hs
        exact .val (ge_idx (by omega) (ihx _).1 (ihx _).1 (plain_ix (by simpa using hs)))
    · rename_i elt tg it ifs scope pos
      split
      · rename_i hc
        have hc' := Bool.and_eq_true_iff.mp hc
        have hs : isSet it = false := by simpa using hc'.2
        split
        · rename_i tgs ht
          split
          · rename_i hsub
            obtain ⟨a1, a2, a3, a4, a5⟩ := lc_all (it := it) o n ih hc'.1 ht
            split
            · refine .val (bx_fresh (imp_e (pe_lc o.calm o.nd a1 a2 a3 (fun s H C cl fp => gs_nil (T := T) (W := W0) (cl := run F k)) (fun s H C cl fp => (a4 elt s H C cl fp).1) (folded_no hs)) (lc_reads a5 (sub_of hsub))) lists_lc)
            · rename_i c
              refine .val (bx_fresh (imp_e (pe_lc o.calm o.nd a1 a2 a3 (fun s H C cl fp => gs_one (a4 c s H C cl fp).2) (fun s H C cl fp => (a4 elt s H C cl fp).1) (folded_no hs)) (lc_reads a5 (sub_of hsub))) lists_lc)
            · exact .bad
          · exact .bad
        · exact .bad
      · exact .bad
    · exact .val (cCall_ok o ihx _ _)
    · exact .bad
end
end T5

set_option Elab.async false
set_option linter.all false
set_option maxRecDepth 100000
set_option maxHeartbeats 2000000
/-! T5: from the text to the core language, statements. -/
namespace T5
open PySem PySem.Spec L2
open Evl (Ex)

def isComp : Expr → Bool
  | .ListComp .. => true
  | .SetComp .. => true
  | .DictComp .. => true
  | _ => false
theorem sw_no {e : Expr} {t : Option Expr} {l : Nat} {env : PySem.Env} (h : isComp e = false) : swapsWith e t l env = pure false := by
  cases e <;> first | rfl | cases h
theorem sw_sole {e tg : Expr} {l : Nat} {env : PySem.Env} (h : isComp e = false) : swapsWithSole [tg] e l env = pure false := by
  show swapsWith e (some tg) l env = _
  exact sw_no h
def isTup : Expr → Bool
  | .Tuple .. => true
  | _ => false
theorem ss_no {tg e : Expr} {env : PySem.Env} (h : isTup e = false) : swappedStores [tg] e env = pure none := by
  cases e <;> first | (cases h; done) | (cases tg <;> rfl)
theorem ss_name {x : Str} {p : Pos} {e : Expr} {env : PySem.Env} : swappedStores [.Name x p] e env = pure none := by
  cases e <;> rfl
theorem ss_sub {a b : Expr} {p : Pos} {e : Expr} {env : PySem.Env} : swappedStores [.Subscript a b p] e env = pure none := by
  cases e <;> rfl
/-- the names that are stored last first, if so; none: not known -/
def nms (sc : Scope) (ts : List Expr) : List Str := ts.filterMap fun
  | .Name id pos => if sc.names.lookup id == some .local && pos.line == (ts.head?.map (·.pos.line)).getD 0 then some id else none
  | _ => none
def anyStar (vs : List Expr) : Bool := vs.any fun
  | .Starred .. => true
  | _ => false
def sws (sc : Scope) (ts vs : List Expr) : Option (Option (List Str)) :=
  if !(ts.length == 2 || ts.length == 3) || vs.length != ts.length then some none
  else if anyStar vs then some none
  else if (nms sc ts).length != ts.length || (nms sc ts).eraseDups.length != (nms sc ts).length then some none
  else if vs.all (foldedForSure 8) then some none
  else if vs.all (constantsAlone 8) then none
  else some (some (nms sc ts))
theorem sws_ok {sc : Scope} {ts vs : List Expr} {k k2 : Nat} {p p2 : Pos} {env : PySem.Env} {o : Option (List Str)} (hs : env.scope = sc) (hk : sc.kind = .function) (h : sws sc ts vs = some o) : swappedStores [.Tuple ts k p] (.Tuple vs k2 p2) env = pure o := by
  have hb : env.blockKind = .function := by
    unfold Env.blockKind
    rw [hs, hk]
    rfl
  have hkind : ∀ x, env.kindOf x = sc.names.lookup x := fun x => by
    show env.scope.names.lookup x = _
    rw [hs]
  unfold sws at h
  unfold swappedStores
  simp only [hb, hkind, bne_self_eq_false, Bool.or_false]
  change (if (!(ts.length == 2 || ts.length == 3) || vs.length != ts.length) = true then pure none else if anyStar vs = true then pure none else if ((nms sc ts).length != ts.length || (nms sc ts).eraseDups.length != (nms sc ts).length) = true then pure none else if (vs.all (foldedForSure 8)) = true then pure none else if vs.all (constantsAlone 8) = true then _ else pure (some (nms sc ts))) = _
  generalize (!(ts.length == 2 || ts.length == 3) || vs.length != ts.length) = c1 at h ⊢
  generalize anyStar vs = c2 at h ⊢
  generalize ((nms sc ts).length != ts.length || (nms sc ts).eraseDups.length != (nms sc ts).length) = c3 at h ⊢
  generalize vs.all (foldedForSure 8) = c4 at h ⊢
  generalize vs.all (constantsAlone 8) = c5 at h ⊢
  cases c1 <;> cases c2 <;> cases c3 <;> cases c4 <;> cases c5 <;> first | (cases h; rfl) | (cases h; done)
/-! ### statements -/
def isNm : Expr → Bool
  | .Name .. => true
  | _ => false
/-- does name = [..] store within the comprehension -/
def swLc (sc : Scope) (y : Str) (py : Pos) (scope : Scope) (pos : Pos) : Bool :=
  (sc.names.lookup y == some .local) && py.line == pos.line && !(scope.names.any fun (n, k) => n == y && (k == .local || k == .cell))
def allFn : Str → Bool := fun _ => true
def cAsg (gt : Gt) (n : Nat) (cc : Cc) (tg e : Expr) : CS :=
  match tg, e with
  | .Subscript o i _, e => if isComp e || isSl i then .bad else .setI (cE gt n cc o) (cE gt n cc i) (cE gt n cc e)
  | .Tuple ts _ _, .Tuple vs _ _ => (match sws cc.sc ts vs with
    | some (some _) => (match tgL cc.N cc.sc allFn ts with
      | some [i, j] => if noStars vs && !(Nat.beq i j) && Nat.beq vs.length 2 then .par [i, j] (cL (cE gt n cc) vs) else .bad
      | some [i, j, l] => if noStars vs && !(Nat.beq i j) && !(Nat.beq i l) && !(Nat.beq j l) && Nat.beq vs.length 3 then .par [i, j, l] (cL (cE gt n cc) vs) else .bad
      | _ => .bad)
    | some none => (match tgOf cc.N cc.sc allFn tg with
      | some tgs => .asg tgs (cE gt n cc e)
      | none => .bad)
    | none => .bad)
  | tg, e => (match tgOf cc.N cc.sc allFn tg with
    | some tgs => .asg tgs (cE gt n cc e)
    | none => .bad)
def cEx (gt : Gt) (n : Nat) (cc : Cc) : Expr → CS
  | .Call (.Attribute o m ap) [a] [] cp => if decide (m = Str.ofString "append") && isNm o && !isStar a && (ap.endLine == cp.line) then .app (cE gt n cc o) (cE gt n cc a) else .bad
  | e => if isComp e then .bad else .expr (cE gt n cc e)
def cSs (f : Stmt → CS) : List Stmt → CSs
  | [] => .nil
  | s :: r => .cons (f s) (cSs f r)
def cS (gt : Gt) (m : Nat) : Nat → Cc → Stmt → CS
  | 0, _, _ => .bad
  | n + 1, cc, st => (match st with
    | .Assign [tg] e _ => cAsg gt m cc tg e
    | .Expr e _ => cEx gt m cc e
    | .Return (some e) _ => .ret (cE gt m cc e)
    | .Return none _ => .ret (.con .non)
    | .If c t u _ => .iff (cE gt m cc c) (cSs (cS gt m n cc) t) (cSs (cS gt m n cc) u)
    | .For tg it body [] _ => if isSet it then .bad else (match tgOf cc.N cc.sc allFn tg with
      | some tgs => .loop tgs (cI gt cc (cE gt m cc) it) (cSs (cS gt m n cc) body)
      | none => .bad)
    | .While c body [] _ => .whl (cE gt m cc c) (cSs (cS gt m n cc) body)
    | .Pass _ => .pass
    | .Break _ => .brk
    | .Continue _ => .cnt
    | _ => .bad)
section
variable {T : Tb} {F : List Fd} {k : Nat} {gt : Gt} {X : Cx} {W : WX} {cc : Cc}
theorem tE_tF {K : PySem.W.Frag} {cl : Calls} {c : CE} (hl : Lists cl c) {σ : St} {H : Hp} {Q : VK} : tE K T W cl c σ H Q → tF K T W cl c σ H Q := fun ⟨env, s, r, G, g, ee, h⟩ => ⟨env, s, r, G, g, ee, by
  cases hq : evE cl c env s with
  | ok d s1 =>
    obtain ⟨ds, rfl⟩ := hl _ _ _ _ hq
    rw [hq] at h
    exact fun p xs r' G' H' l g' hx hp => Nxt.lst (r := r') (G := G') (s := s1) (fun w r2 G2 H2 l2 g2 q => h w r2 G2 H2 (l.trans l2) g2 q) g' hx p hp
  | err c ds s1 => rw [hq] at h; exact h
  | bad => rw [hq] at h; exact h⟩
theorem box_tF {K : PySem.W.Frag} {cl : Calls} {c : CE} {σ : St} {H : Hp} {Q : VK} : tE K T W cl (.box c) σ H Q → tF K T W cl c σ H Q := fun ⟨env, s, r, G, g, ee, h⟩ => ⟨env, s, r, G, g, ee, by
  simp only [evE] at h
  cases hq : evE cl c env s with
  | ok d s1 =>
    rw [hq] at h
    cases d <;> first | exact h.elim | skip
    intro p xs r' G' H' l g' hx hp
    refine h (.ref p) (r' ++ [p]) G' (upd H' p (.lst xs)) (l.trans (le_box g' hp _)) (g'.box hp ⟨xs, rfl, hx⟩) ?_
    unfold Rp
    exact ⟨p, rfl, by rw [← g'.len]; simp⟩
  | err c ds s1 => rw [hq] at h; exact h
  | bad => rw [hq] at h; exact h⟩
theorem bx_tF {K : PySem.W.Frag} {cl : Calls} {c : CE} {pos : Pos} (hl : Lists cl c) {σ : St} {H : Hp} {Q : VK} (h : tE K T W cl (bx gt pos c) σ H Q) : tF K T W cl c σ H Q := by
  unfold bx at h
  split at h
  · exact box_tF h
  · exact tE_tF hl h
/-- the def's own frame -/
structure Sok (X : Cx) (T : Tb) (F : List Fd) (k : Nat) (gt : Gt) (W : WX) (cc : Cc) : Prop extends Xok X T F k gt W cc where
  fn : ∀ x, X.fn x = true
theorem sw_name {elt : Expr} {gs : List Comprehension} {scope : Scope} {pos py : Pos} {y : Str} {l : Nat} (o : Sok X T F k gt W cc) : swapsWith (.ListComp elt gs scope pos) (some (.Name y py)) l X.env = pure (swLc cc.sc y py scope pos) := by
  have hb : X.env.blockKind = .function := by
    unfold Env.blockKind
    rw [o.sc, o.kd]
    rfl
  have hk : X.env.kindOf y = cc.sc.names.lookup y := by
    show X.env.scope.names.lookup y = _
    rw [o.sc]
  unfold swapsWith swLc
  simp only [hb, hk, Expr.pos, beq_self_eq_true, Bool.true_and]
theorem asg_plain (o : Sok X T F k gt W cc) (n : Nat) {tg e : Expr} {pos : Pos} {tgs : List Nat} (ht : tgOf cc.N cc.sc allFn tg = some tgs) (h1 : swapsWithSole [tg] e pos.line X.env = pure false) (h2 : swappedStores [tg] e X.env = pure none) (h3 : isStar tg = false) : PS X (.Assign [tg] e pos) (tSt X.K T W (run F k) (.asg tgs (cE gt n cc e))) := by
  obtain ⟨g1, g2⟩ := tgOf_ok o.hN o.nd o.sc (fun x _ => o.fn x) o.calm ht
  refine gst_asg (ps_asg (cE_ok n cc X W e o.toXok).1 g2 h1 h2 ?_) (fun _ _ _ h => h) (tgOk_of g1)
  cases tg <;> first | rfl | cases h3
theorem isStar_tg {N : List Str} {sc : Scope} {fnb : Str → Bool} {e : Expr} {is : List Nat} (h : tgOf N sc fnb e = some is) : isStar e = false := by
  cases e <;> first | rfl | cases h
theorem nm_if {sc : Scope} {x : Str} {px : Pos} {l : Nat} {c : Bool} (h : c = (sc.names.lookup x == some .local && px.line == l)) (hc : c = true) : sc.names.lookup x = some .local := by
  rw [h] at hc
  have := (Bool.and_eq_true_iff.mp hc).1
  exact eq_of_beq this
theorem nms2 {sc : Scope} {x y : Str} {px py : Pos} (h : (nms sc [.Name x px, .Name y py]).length = 2) : nms sc [.Name x px, .Name y py] = [x, y] ∧ sc.names.lookup x = some .local ∧ sc.names.lookup y = some .local := by
  unfold nms at h ⊢
  simp only [List.filterMap_cons, List.filterMap_nil] at h ⊢
  generalize h1 : (sc.names.lookup x == some NameKind.local && px.line == _) = c1 at h ⊢
  generalize h2 : (sc.names.lookup y == some NameKind.local && py.line == _) = c2 at h ⊢
  cases c1 <;> cases c2 <;> first | (simp at h; done) | skip
  exact ⟨rfl, nm_if h1.symm rfl, nm_if h2.symm rfl⟩
theorem nms3 {sc : Scope} {x y z : Str} {px py pz : Pos} (h : (nms sc [.Name x px, .Name y py, .Name z pz]).length = 3) : nms sc [.Name x px, .Name y py, .Name z pz] = [x, y, z] ∧ sc.names.lookup x = some .local ∧ sc.names.lookup y = some .local ∧ sc.names.lookup z = some .local := by
  unfold nms at h ⊢
  simp only [List.filterMap_cons, List.filterMap_nil] at h ⊢
  generalize h1 : (sc.names.lookup x == some NameKind.local && px.line == _) = c1 at h ⊢
  generalize h2 : (sc.names.lookup y == some NameKind.local && py.line == _) = c2 at h ⊢
  generalize h3 : (sc.names.lookup z == some NameKind.local && pz.line == _) = c3 at h ⊢
  cases c1 <;> cases c2 <;> cases c3 <;> first | (simp at h; done) | skip
  exact ⟨rfl, nm_if h1.symm rfl, nm_if h2.symm rfl, nm_if h3.symm rfl⟩
theorem sws_names {sc : Scope} {ts vs : List Expr} {nm : List Str} (h : sws sc ts vs = some (some nm)) : nm = nms sc ts ∧ (nms sc ts).length = ts.length := by
  unfold sws at h
  split at h
  · cases h
  · split at h
    · cases h
    · split at h
      · cases h
      · rename_i hc
        split at h
        · cases h
        · split at h
          · cases h
          · cases h
            refine ⟨rfl, ?_⟩
            simp only [Bool.or_eq_true, not_or, bne_iff_ne, ne_eq, Decidable.not_not] at hc
            exact hc.1
theorem tgL_cons {N : List Str} {sc : Scope} {fnb : Str → Bool} {ts : List Expr} {i : Nat} {is : List Nat} (h : tgL N sc fnb ts = some (i :: is)) : ∃ x p r, ts = .Name x p :: r ∧ N[i]? = some x ∧ tgL N sc fnb r = some is := by
  cases ts with
  | nil => cases h
  | cons e r =>
    unfold tgL at h
    cases he : tg1 N sc fnb e with
    | none => rw [he] at h; cases h
    | some j =>
      rw [he] at h
      simp only [Option.bind_some] at h
      cases hr : tgL N sc fnb r with
      | none => rw [hr] at h; cases h
      | some t =>
        rw [hr] at h
        cases h
        unfold tg1 at he
        split at he
        · rename_i x p
          refine ⟨x, p, r, rfl, ?_, hr⟩
          split at he
          · exact ixOf0 he
          · split at he
            · exact ixOf0 he
            · cases he
          · cases he
        · cases he
theorem tgL_nil {N : List Str} {sc : Scope} {fnb : Str → Bool} {ts : List Expr} (h : tgL N sc fnb ts = some []) : ts = [] := by
  cases ts with
  | nil => rfl
  | cons e r =>
    unfold tgL at h
    cases he : tg1 N sc fnb e with
    | none => rw [he] at h; cases h
    | some j =>
      rw [he] at h
      cases hr : tgL N sc fnb r with
      | none => rw [hr] at h; cases h
      | some t => rw [hr] at h; cases h
theorem beq_no {i j : Nat} (h : (!(Nat.beq i j)) = true) : i ≠ j := fun e => by
  subst e
  rw [Nat.beq_refl] at h
  cases h
theorem cAsg_ok (o : Sok X T F k gt W cc) (n : Nat) (tg e : Expr) (pos : Pos) : PS X (.Assign [tg] e pos) (tSt X.K T W (run F k) (cAsg gt n cc tg e)) := by
  have ihx : ∀ e, EOK X T F k W (cE gt n cc e) e := fun e => cE_ok n cc X W e o.toXok
  have hu := o.room.un
  unfold cAsg
  split
  · -- o[i] = e
    rename_i a i p
    split
    · exact gst_bad
    · rename_i hc
      simp only [Bool.or_eq_true, not_or, Bool.not_eq_true] at hc
      refine gst_setI (ps_asg (ihx e).1 (pg_sub (ihx a).1 (ihx i).1 set_list ?_) (sw_sole hc.1) ss_sub rfl) (ps_dput (by omega) (ihx a).1 (ihx i).1 (ihx e).1 (sw_no hc.1))
      intro v
      cases i <;> first | rfl | cases hc.2
  · rename_i ts kt pt vs k2 pt2
    split
    · rename_i nm hsw
      have hss := sws_ok (k := kt) (p := pt) (k2 := k2) (p2 := pt2) (env := X.env) o.sc o.kd hsw
      split
      · rename_i i j ht
        split
        · rename_i hc
          simp only [Bool.and_eq_true] at hc
          obtain ⟨⟨c1, c2⟩, c3⟩ := hc
          obtain ⟨x, px, r1, rfl, n1, t1⟩ := tgL_cons ht
          obtain ⟨y, py, r2, rfl, n2, t2⟩ := tgL_cons t1
          have e0 := tgL_nil t2
          subst e0
          obtain ⟨rfl, hl⟩ := sws_names hsw
          obtain ⟨m1, m2, m3⟩ := nms2 hl
          rw [m1] at hss
          have h2 : vs.length = 2 := Nat.eq_of_beq_eq_true c3
          match vs, h2, c1, hss with
          | [a, b], _, c1, hss => exact gst_par (ps_par o.calm o.nd (by rw [o.hN]; exact n1) (by rw [o.hN]; exact n2) (beq_no c2) (by rw [o.sc]; exact m2) (by rw [o.sc]; exact m3) (cL_ok ihx c1) hss (sw_sole rfl))
        · exact gst_bad
      · rename_i i j l ht
        split
        · rename_i hc
          simp only [Bool.and_eq_true] at hc
          obtain ⟨⟨⟨⟨c1, c2⟩, c3⟩, c4⟩, c5⟩ := hc
          obtain ⟨x, px, r1, rfl, n1, t1⟩ := tgL_cons ht
          obtain ⟨y, py, r2, rfl, n2, t2⟩ := tgL_cons t1
          obtain ⟨z, pz, r3, rfl, n3, t3⟩ := tgL_cons t2
          have e0 := tgL_nil t3
          subst e0
          obtain ⟨rfl, hl⟩ := sws_names hsw
          obtain ⟨m1, m2, m3, m4⟩ := nms3 hl
          rw [m1] at hss
          have h2 : vs.length = 3 := Nat.eq_of_beq_eq_true c5
          match vs, h2, c1, hss with
          | [a, b, d], _, c1, hss => exact gst_par3 (ps_par3 o.calm o.nd (by rw [o.hN]; exact n1) (by rw [o.hN]; exact n2) (by rw [o.hN]; exact n3) (beq_no c2) (beq_no c3) (beq_no c4) (by rw [o.sc]; exact m2) (by rw [o.sc]; exact m3) (by rw [o.sc]; exact m4) (cL_ok ihx c1) hss (sw_sole rfl))
        · exact gst_bad
      · exact gst_bad
    · rename_i hsw
      have hss := sws_ok (k := kt) (p := pt) (k2 := k2) (p2 := pt2) (env := X.env) o.sc o.kd hsw
      split
      · rename_i tgs ht
        exact asg_plain o n ht (sw_sole rfl) hss rfl
      · exact gst_bad
    · exact gst_bad
  · rename_i h1 h2
    split
    · rename_i tgs ht
      by_cases hcomp : isComp e = true
      · -- name = [..]
        cases e <;> first | (cases hcomp; done) | skip
        · rename_i elt gs scope lpos
          cases tg with
          | Name y py =>
            by_cases hs : swLc cc.sc y py scope lpos = true
            · -- stored within
              have hy : cc.sc.names.lookup y = some .local := by
                unfold swLc at hs
                exact eq_of_beq (Bool.and_eq_true_iff.mp (Bool.and_eq_true_iff.mp hs).1).1
              have hi : ∃ i, tgs = [i] ∧ cc.N[i]? = some y := by
                simp only [tgOf, tg1, hy] at ht
                cases hx : ixOf y cc.N 0 with
                | none => rw [hx] at ht; cases ht
                | some i =>
                  rw [hx] at ht
                  cases ht
                  exact ⟨i, rfl, ixOf0 hx⟩
              obtain ⟨i, rfl, hNi⟩ := hi
              have hsw := sw_name (elt := elt) (gs := gs) (scope := scope) (pos := lpos) (py := py) (y := y) (l := pos.line) o
              rw [hs] at hsw
              cases n with
              | zero => exact imp_s false_s fun D σ H ⟨_, _, _, _, _, _, h⟩ => by simp only [evS, cE, evE] at h; exact h
              | succ n =>
                have bad : PS X (.Assign [.Name y py] (.ListComp elt gs scope lpos) pos) (tSt X.K T W (run F k) (.asg [i] .bad)) := imp_s false_s fun D σ H ⟨_, _, _, _, _, _, h⟩ => by simp only [evS, evE] at h; exact h
                unfold cE
                split <;> first | exact bad | skip
                all_goals (rename_i heq; cases heq)
                rename_i tg' it ifs
                split
                · rename_i hc
                  have hc' := Bool.and_eq_true_iff.mp hc
                  have hs' : isSet it = false := by simpa using hc'.2
                  split
                  · rename_i tgs' ht'
                    split
                    · rename_i hsub
                      obtain ⟨a1, a2, a3, a4, a5⟩ := lc_all (it := it) o.toXok n (cE_ok n) hc'.1 ht'
                      split
                      · exact gst_asg (ps_setLc o.calm o.nd (by rw [o.hN]; exact hNi) (by rw [o.sc]; exact hy) hsw a1 a2 a3 (fun s H C cl fp => gs_nil (T := T) (W := W0) (cl := run F k)) (fun s H C cl fp => (a4 elt s H C cl fp).1) (folded_no hs')) (fun σ H Q h => lc_reads a5 (sub_of hsub) σ H Q (bx_tF lists_lc h)) (tg_name i)
                      · rename_i c
                        exact gst_asg (ps_setLc o.calm o.nd (by rw [o.hN]; exact hNi) (by rw [o.sc]; exact hy) hsw a1 a2 a3 (fun s H C cl fp => gs_one (a4 c s H C cl fp).2) (fun s H C cl fp => (a4 elt s H C cl fp).1) (folded_no hs')) (fun σ H Q h => lc_reads a5 (sub_of hsub) σ H Q (bx_tF lists_lc h)) (tg_name i)
                      · exact bad
                    · exact bad
                  · exact bad
                · exact bad
            · refine asg_plain o n ht ?_ ss_name rfl
              show swapsWith (elt.ListComp gs scope lpos) (some (.Name y py)) pos.line X.env = _
              rw [sw_name o]
              have : swLc cc.sc y py scope lpos = false := by simpa using hs
              rw [this]
          | _ => exact asg_plain o n ht rfl (ss_no rfl) (isStar_tg ht)
        all_goals (refine imp_s false_s fun D σ H ⟨_, _, _, _, _, _, h⟩ => ?_; cases n <;> (simp only [evS, cE, evE] at h; exact h))
      · have hcomp : isComp e = false := by simpa using hcomp
        refine asg_plain o n ht (sw_sole hcomp) ?_ (isStar_tg ht)
        cases tg <;> first | (exact ss_name; done) | (cases ht; done) | skip
        cases e <;> first | rfl | exact (h2 _ _ _ _ _ _ rfl rfl).elim
    · exact gst_bad
end
end T5

set_option Elab.async false
set_option linter.all false
set_option maxRecDepth 100000
set_option maxHeartbeats 2000000
/-! T5: from the text to the core language, statements: all of them. -/
namespace T5
open PySem PySem.Spec L2
open Evl (Ex)
section
variable {T : Tb} {F : List Fd} {k : Nat} {gt : Gt} {X : Cx} {W : WX} {cc : Cc}
theorem cEx_ok (o : Sok X T F k gt W cc) (n : Nat) (e : Expr) (pos : Pos) : PS X (.Expr e pos) (tSt X.K T W (run F k) (cEx gt n cc e)) := by
  have ihx : ∀ e, EOK X T F k W (cE gt n cc e) e := fun e => cE_ok n cc X W e o.toXok
  unfold cEx
  split
  · rename_i ob m ap a cp
    split
    · rename_i hc
      simp only [Bool.and_eq_true] at hc
      obtain ⟨⟨⟨c1, c2⟩, c3⟩, c4⟩ := hc
      have hm : m = Str.ofString "append" := of_decide_eq_true c1
      subst hm
      cases ob <;> first | (cases c2; done) | skip
      rename_i x px
      have c3 : isStar a = false := by simpa using c3
      have hs : starEach [a] X.env = [(false, eval a X.env)] := by
        cases a <;> first | rfl | cases c3
      exact gst_app (ps_expr (pe_bm PySem.F.plainAttrs_list PySem.F.slot_list_append PySem.F.type_list_append mt_append (ihx _).1 (cL_ok ihx (es := [a]) (by simp [noStars, c3])) (by rfl) (by rw [hs]; rfl) c4 hs (by rfl)) rfl)
    · exact gst_bad
  · split
    · exact gst_bad
    · rename_i hc
      have hc : isComp e = false := by simpa using hc
      exact gst_expr (ihx e).1 (ps_expr (ihx e).1 (sw_no hc))
theorem cSs_ok {f : Stmt → CS} (ih : ∀ st, PS X st (tSt X.K T W (run F k) (f st))) : ∀ ss, PSs X ss (tSs X.K T W (run F k) (cSs f ss))
  | [] => gss_nil
  | s :: r => gss_cons (ih s) (cSs_ok ih r)
theorem gst_retN {pos : Pos} {cl : Calls} : PS X (.Return none pos) (tSt X.K T W cl (.ret (.con .non))) :=
  imp_s ps_retN fun E σ H ⟨env, s, r, G, g, e, h⟩ => by
    simp only [evS, evE] at h
    exact h .non r G H Le.refl g (by unfold Rp; rfl)
theorem cS_ok (o : Sok X T F k gt W cc) (m : Nat) : ∀ (n : Nat) (st : Stmt), PS X st (tSt X.K T W (run F k) (cS gt m n cc st))
  | 0, st => gst_bad
  | n + 1, st => by
    have ihx : ∀ e, EOK X T F k W (cE gt m cc e) e := fun e => cE_ok m cc X W e o.toXok
    have ihs := cSs_ok (cS_ok o m n)
    unfold cS
    split
    · exact cAsg_ok o m _ _ _
    · exact cEx_ok o m _ _
    · exact gst_ret (ihx _).1
    · exact gst_retN
    · exact gst_if (ihx _).2 (ihs _) (ihs _)
    · rename_i tg it body pos
      split
      · exact gst_bad
      · rename_i hc
        have hc : isSet it = false := by simpa using hc
        split
        · rename_i tgs ht
          obtain ⟨g1, g2⟩ := tgOf_ok o.hN o.nd o.sc (fun x _ => o.fn x) o.calm ht
          exact gst_for (ps_for o.own o.calm (cI_ok o.toXok ihx it) g2 (ihs body) (folded_no hc)) (tgOk_of g1)
        · exact gst_bad
    · exact gst_while (ps_while o.own (ihx _).2 (ihs _))
    · exact gst_pass
    · exact gst_brk
    · exact gst_cnt
    · exact gst_bad
end
end T5

set_option Elab.async false
set_option linter.all false
set_option maxRecDepth 100000
set_option maxHeartbeats 2000000
/-! T5: a program's defs, all of them; the law's end. -/
namespace T5
open PySem PySem.Spec L2
open Evl (Ex)

/-- one def: its statement, names by slots (parameters first), how many parameters, whether the store outlives it -/
structure Df where
  nm : Str
  st : Stmt
  N : List Str
  np : Nat
  keep : Bool := false
  dfl : List He.Dv := []
def Df.ps (d : Df) : List Str := d.N.take d.np
def Df.fd (gt : Gt) (d : Df) : Fd := ⟨d.ps.length, d.N.length, d.keep, cSs (cS gt 60 30 ⟨d.N, defScope d.st⟩) (defBody d.st)⟩
def Df.dd (d : Df) : He.DefD := ⟨(d.nm, none), d.nm, d.nm, defArgs d.st, defBody d.st, defScope d.st, d.dfl, []⟩
def nodupB : List Str → Bool
  | [] => true
  | x :: r => !(r.any fun y => decide (x = y)) && nodupB r
def kin : Option NameKind → Bool
  | some .local => true
  | some .cell => true
  | _ => false
def scB (N ps : List Str) (sc : Scope) : Bool :=
  (sc.kind == .function) && !sc.isCoroutine && !sc.isGenerator && nodupB N && (ps.all fun x => kin (sc.names.lookup x)) && sc.names.all fun y => !(y.2 == .free)
theorem nodupB_ok : ∀ {l : List Str}, nodupB l = true → l.Nodup
  | [], _ => .nil
  | x :: r, h => by
    unfold nodupB at h
    obtain ⟨h1, h2⟩ := Bool.and_eq_true_iff.mp h
    refine List.nodup_cons.mpr ⟨fun hm => ?_, nodupB_ok h2⟩
    have : (r.any fun y => decide (x = y)) = true := List.any_eq_true.mpr ⟨x, hm, decide_eq_true rfl⟩
    rw [this] at h1
    cases h1
theorem scB_ok {d : Df} {sc : Scope} (h : scB d.N d.ps sc = true) : FnScope d.N d.ps sc := by
  unfold scB at h
  simp only [Bool.and_eq_true, Bool.not_eq_true'] at h
  obtain ⟨⟨⟨⟨⟨h1, h2⟩, h3⟩, h4⟩, h5⟩, h6⟩ := h
  refine ⟨eq_of_beq h1, h2, h3, nodupB_ok h4, ?_, fun x hx => ?_, fun y hy e => ?_⟩
  · unfold Df.ps
    rw [List.length_take]
    by_cases hl : d.np ≤ d.N.length
    · rw [Nat.min_eq_left hl]
    · rw [Nat.min_eq_right (by omega), List.take_length, List.take_of_length_le (by omega)]
  · have := List.all_eq_true.mp h5 x hx
    cases hk : sc.names.lookup x with
    | none => rw [hk] at this; cases this
    | some z =>
      rw [hk] at this
      cases z <;> first | (cases this; done) | exact .inl rfl | exact .inr rfl
  · have := List.all_eq_true.mp h6 y hy
    rw [e] at this
    cases this

/-- what the top left of one def -/
def DfOk (K : PySem.W.Frag) (mg : Str → Option Value) (gt : Gt) (i : Nat) (d : Df) : Prop :=
  ∃ f fd, FunD K d.nm d.nm (defArgs d.st) (defBody d.st) (defScope d.st) (d.dd.dvs K) [] f fd ∧ mg d.nm = some (.ref f) ∧ ∀ n ks src, gt.bnd.lookup (i, n, ks) = some src → Bnd K fd d.ps n ks src
def AllD (P : Nat → Df → Prop) : Nat → List Df → Prop
  | _, [] => True
  | i, d :: r => P i d ∧ AllD P (i + 1) r
theorem AllD.at {P : Nat → Df → Prop} : ∀ {l : List Df} {j : Nat}, AllD P j l → ∀ {i : Nat} {d : Df}, l[i]? = some d → P (j + i) d
  | [], _, _, _, _, e => by simp at e
  | x :: r, j, h, 0, d, e => by
    simp at e
    subst e
    exact h.1
  | x :: r, j, h, i + 1, d, e => by
    have := AllD.at h.2 (i := i) (d := d) (by simpa using e)
    rw [show j + (i + 1) = j + 1 + i by omega]
    exact this
def namesOf : Nat → List Df → List (Str × Nat)
  | _, [] => []
  | i, d :: r => (d.nm, i) :: namesOf (i + 1) r
theorem names_at {x : Str} : ∀ {l : List Df} {j i : Nat}, (namesOf j l).lookup x = some i → ∃ d, j ≤ i ∧ l[i - j]? = some d ∧ d.nm = x
  | [], _, _, h => by cases h
  | d :: r, j, i, h => by
    unfold namesOf at h
    rw [List.lookup_cons] at h
    split at h
    · rename_i e
      cases h
      exact ⟨d, Nat.le_refl _, by simp, (eq_of_beq e).symm⟩
    · obtain ⟨d', h1, h2, h3⟩ := names_at h
      refine ⟨d', by omega, ?_, h3⟩
      have : i - j = (i - (j + 1)) + 1 := by omega
      rw [this, List.getElem?_cons_succ]
      exact h2
/-- all that is needed of the top -/
structure Top (K : PySem.W.Frag) (mg : Str → Option Value) (gt : Gt) (Ds : List Df) : Prop where
  defs : AllD (DfOk K mg gt) 0 Ds
  sc : (Ds.all fun d => scB d.N d.ps (defScope d.st)) = true
  fns : gt.fns = namesOf 0 Ds
  blt : ∀ x, gt.blt.contains x = true → mg x = none
section
variable {P : Program} {w : World} {K : PySem.W.Frag} {mg : Str → Option Value} {base : Heap} {T : Tb} {gt : Gt} {Ds : List Df}
theorem spD_len {F : List Fd} {k i n : Nat} (vs : List V) (H : Hp) (Q : VK) (E : XK) (h : SpD K T F k i n vs H Q E) : vs.length = n := h.1
theorem all_G (t : Top K mg gt Ds) : ∀ (k i : Nat) (d : Df), Ds[i]? = some d → ∀ f fd, FunD K d.nm d.nm (defArgs d.st) (defBody d.st) (defScope d.st) (d.dd.dvs K) [] f fd → FnG P w K mg base k f fd d.ps (SpD K T (Ds.map (Df.fd gt)) k i d.ps.length)
  | 0, i, d, hd, f, fd, _ => ⟨spD_len, fun A outer s H args us vs Q E _ _ _ _ _ h => by
    obtain ⟨_, ds, s, r, G, g, _, h⟩ := h
    unfold run at h
    exact h.elim⟩
  | k + 1, i, d, hd, f, fd, F => by
    obtain ⟨oc, od, dV, kV, doc, pm, an, cdv, ct, osl, rfl, lk, hcd, _, _⟩ := F.ex
    have S : FnScope d.N d.ps (defScope d.st) := scB_ok (List.all_eq_true.mp t.sc d (List.mem_of_getElem? hd))
    refine fnG_of lk hcd S spD_len fun A outer s H vs Q E hg hr h => ⟨_, ?_, body_reads (fb := d.fd gt) (by rw [List.getElem?_map, hd]; rfl) rfl rfl h⟩
    have o : Sok (cxOf (L2.CX P w) P w K mg base d.N d.nm (defScope d.st) f cdv A outer s H E) T (Ds.map (Df.fd gt)) k gt (fun cv dd _ H' => E cv dd H') ⟨d.N, defScope d.st⟩ := by
      refine ⟨⟨rfl, S.nd, rfl, S.kind, rfl, takes_of rfl rfl rfl rfl, hr, hg, passes_of rfl, fun x j hx => ?_, t.blt⟩, fun _ => rfl⟩
      rw [t.fns] at hx
      obtain ⟨d', _, h2, rfl⟩ := names_at hx
      rw [Nat.sub_zero] at h2
      obtain ⟨f', fd', F', m', b'⟩ := t.defs.at h2
      rw [Nat.zero_add] at b'
      exact ⟨f', fd', d'.ps, m', F'.kp, all_G t k j d' h2 f' fd' F', b'⟩
    exact cSs_ok (cS_ok o 60 30) _
end
end T5

set_option Elab.async false
set_option linter.all false
set_option maxRecDepth 100000
set_option maxHeartbeats 2000000
/-! T5: the law's end. -/
namespace T5
open PySem PySem.Spec L2 PyProof.Rows
section
variable {P : Program} {w : World} {K : PySem.W.Frag} {mg mb : Str → Option Value} {k : Nat} {fa a : Addr} {fd : FuncData} {x : Str} {sp : Sp} {s₁ : Shared} {vs : List Value} {ns : List Int}
/-- the heap, nothing tracked but at most the script -/
theorem one_call {H : Hp} (KX : K.In s₁.heap) (hns : s₁.heap.Ns mainGlobals mg) (hb : s₁.heap.Ns builtinsNs mb) (hbb : ∀ x : Str, x ≠ "__name__" → mb x = bootBuiltins x) (hlim : s₁.heap.NoLimit) (hg : s₁.gens = #[])
    (ha : s₁.heap.get? a = some { cls := .type "list", data := .seq vs.toArray }) (hr : Room k callerA) (F : ∀ base : Heap, K.In base → base.Ns mainGlobals mg → FnG P w K mg base k fa fd [x] sp) (hbi : BindsTo s₁ fd ⟨[.ref a], []⟩ [(x, .ref a)])
    (hO : Only H) (hok : HOk P w H s₁.heap) (hA : ∀ b, H b ≠ none → b = a ∧ K.lookup a = none) (hsp : sp [.ref a] H (fun v _ => v = .bl true) fun _ _ _ => False) :
    codeAny (model P w) callerA (.call (.ref fa) ⟨[.ref a], []⟩) (fun r s' => r = .ok (.ret (.bool true)) ∧ OldK s₁.heap s'.heap ∧ s'.os = s₁.os ∧ AllBare s'.gens) s₁ := by
  have at_ : ∀ {b : Addr}, ¬ H b = none → b = a := fun h => (hA _ h).1
  have hid : ∀ {b : Addr} {m : Str → Option Value}, s₁.heap.Ns b m → (hidT s₁.heap H).Ns b m := by
    rintro b m ⟨o, es, ep, e, d, r⟩
    refine ⟨o, es, ep, hidT_get e (Classical.byContradiction fun z => ?_), d, r⟩
    have e' := at_ z
    subst e'
    rw [ha] at e
    cases e
    cases d
  have kin : K.In (hidT s₁.heap H) := fun b o e => hidT_get (KX b o e) (Classical.byContradiction fun z => by
    obtain ⟨rfl, q⟩ := hA b z
    rw [q] at e
    cases e)
  have lim : (hidT s₁.heap H).NoLimit := hlim.elim fun mc h => ⟨mc, hid h.1, h.2⟩
  have none_in : ∀ b : Addr, b ∉ ([] : List Addr) := fun b z => by cases z
  have E0 : Env0 P w K mg (hidT s₁.heap H) callerA [] s₁ H := ⟨rfl, ⟨kin, hid hns, ⟨mb, hid hb, hbb⟩, lim⟩, fun b o e => of_hidT e, Nat.le_of_eq (hidT_size _ _), trivial, fun b z => absurd z (none_in b), hok, .of_eq hg⟩
  have go := (F _ kin (hid hns)).run callerA [] s₁ H ⟨[.ref a], []⟩ [.ref a] [.ref a] (fun v _ => v = .bl true) (fun _ _ _ => False) rfl hr E0 hbi (.cons rfl .nil) hsp
  refine codeAny_mono go fun res s' h => ?_
  cases res with
  | error e =>
    obtain ⟨_, _, _, _, _, _, _, _, _, _, _, _, z⟩ := h
    exact z.elim
  | ok fl =>
    cases fl with
    | ret u =>
      obtain ⟨v, H', os, bare, un, hok', r', q⟩ := h
      cases (show v = .bl true from q)
      cases (show u = Value.bool true from r')
      refine ⟨rfl, OldK.of_keep fun b o e => ?_, os, bare⟩
      rcases hO b with z | ⟨ob, xs, z⟩
      · exact un.keep b o e z (none_in b) (by simp)
      · obtain ⟨e1, _⟩ := hok b _ z
        obtain ⟨e2, _⟩ := hok' b _ (un.frzs b ob _ z)
        rw [e] at e1
        cases e1
        exact e2
    | next => exact h.elim
    | brk => exact h.elim
    | cont => exact h.elim
theorem call_G (KX : K.In s₁.heap) (hns : s₁.heap.Ns mainGlobals mg) (hb : s₁.heap.Ns builtinsNs mb) (hbb : ∀ x : Str, x ≠ "__name__" → mb x = bootBuiltins x) (hlim : s₁.heap.NoLimit) (hg : s₁.gens = #[])
    (ha : s₁.heap.get? a = some { cls := .type "list", data := .seq vs.toArray }) (hi : IntsAre vs ns) (hl : ns.length ≤ sizeLine) (hr : Room k callerA) (F : ∀ base : Heap, K.In base → base.Ns mainGlobals mg → FnG P w K mg base k fa fd [x] sp) (hbi : BindsTo s₁ fd ⟨[.ref a], []⟩ [(x, .ref a)])
    (hsp : ∀ H : Hp, SqL K H a (ns.map V.int) → sp [.ref a] H (fun v _ => v = .bl true) fun _ _ _ => False) :
    codeAny (model P w) callerA (.call (.ref fa) ⟨[.ref a], []⟩) (fun r s' => r = .ok (.ret (.bool true)) ∧ OldK s₁.heap s'.heap ∧ s'.os = s₁.os ∧ AllBare s'.gens) s₁ := by
  have rv := vals_ints hi
  cases hk : K.lookup a with
  | some o =>
    have e := KX a o hk
    rw [ha] at e
    cases e
    refine one_call (H := fun _ => none) KX hns hb hbb hlim hg ha hr F hbi (fun _ => .inl rfl) (fun b u z => ?_) (fun b z => absurd rfl z) (hsp _ (.inr ⟨_, vs.toArray, _, hk, rfl, rfl, rfl, ?_, by simpa using rv⟩))
    · cases (show (none : Option HO) = some u from z)
    · rw [List.size_toArray, hi.length]
      exact hl
  | none =>
    let ob : Obj := { cls := .type "list", data := .seq vs.toArray }
    let H : Hp := fun b => if b = a then some (.frz ob (.lst (ns.map V.int))) else none
    have h1 : ∀ b, b = a → H b = some (.frz ob (.lst (ns.map V.int))) := fun b e => if_pos e
    have h2 : ∀ b, b ≠ a → H b = none := fun b e => if_neg e
    refine one_call (H := H) KX hns hb hbb hlim hg ha hr F hbi (fun b => ?_) (fun b u z => ?_) (fun b z => ?_) (hsp _ (.inl (.inr ⟨ob, h1 a rfl⟩)))
    · by_cases e : b = a
      · exact .inr ⟨_, _, h1 b e⟩
      · exact .inl (h2 b e)
    · by_cases e : b = a
      · rw [h1 b e] at z
        cases z
        subst e
        exact ⟨ha, by rw [List.length_map]; exact hl, vs, _, rv, ha⟩
      · rw [h2 b e] at z
        cases z
    · by_cases e : b = a
      · exact ⟨e, hk⟩
      · exact absurd (h2 b e) z
end
/-- the law's walk, by the evaluator -/
theorem walk_G {l : PySem.W.OpenLaw} {n k : Nat} {q : Program} {loose : List Str} {XP : (Str → Option Value) → Heap → Prop} {YP : World → Heap → Prop} {d : DefRec} {gt : Gt} {Ds : List Df} {T : Tb} {i : Nat} {dD : Df} {x : Str}
    (hn : l.most = some n) (hn2 : n ≤ sizeLine) (hdf : d.params.defaults = []) (hr : Room k callerA) (hD : Ds[i]? = some dD) (hN : d.name = dD.nm) (hps : dD.ps = [x]) (hb : gt.bnd.lookup (i, 1, []) = some [.inl 0])
    (F : ∀ (w : World) (mg : Str → Option Value) (h : Heap), YP w h → h.Ns mainGlobals mg → ∃ K : PySem.W.Frag, K.In h ∧ Top K mg gt Ds)
    (hrun : ∀ ns : List Int, ns.length ≤ n → (∀ z ∈ ns, Builtin.Int.intBits z ≤ 1048576) → ∃ s, run (Ds.map (Df.fd gt)) k i [.scr (ns.map T5.D.int)] [] = .ok (.bl true) s) :
    PySem.W.WalkO q loose XP YP l.row.toRowW d [] (fun f vs => PySem.call f vs) := by
  refine Att.attach_callB hn hdf fun w s₀ s₁ mg mb fa o pm cd doc a vs ns G Y ho hd hcd hmg hobj hints hlen hbits hg => ?_
  obtain ⟨K, KX, t⟩ := F w mg _ Y G.T.g
  obtain ⟨f, fd, F1, m1, b1⟩ := t.defs.at hD
  rw [Nat.zero_add] at b1
  rw [hN, m1] at hmg
  cases hmg
  obtain ⟨zs, z1, z2, z3⟩ := b1 1 [] _ hb s₁ [.ref a] [] KX rfl rfl
  obtain ⟨u, q, rfl, z4, z5⟩ := z2
  have z5 : q = [] := z5
  subst z5
  have z4 : some (Value.ref a) = some u := z4
  cases z4
  rw [hps] at z3
  obtain ⟨s, hs⟩ := hrun ns hlen hbits
  refine call_G KX G.T.g G.T.b G.T.builtins G.T.nolimit hg hobj hints (Nat.le_trans hlen hn2) hr (fun base _ _ => ?_) z3 (sp := SpD K T (Ds.map (Df.fd gt)) k i 1) fun H hS => ?_
  · have := all_G (P := l.prog) (w := w) (base := base) (T := T) t k i dD hD _ fd F1
    rw [hps] at this
    exact this
  · refine ⟨rfl, [.scr (ns.map T5.D.int)], [], [], H, ⟨fun _ _ h => h, fun _ z => (by cases z), rfl, List.nodup_nil, fun n a so z _ => (by simp at z)⟩, .cons ?_ .nil, ?_⟩
    · unfold Rp
      refine ⟨a, _, rfl, hS, ?_⟩
      clear hS hs hints hlen hbits
      induction ns with
      | nil => exact .nil
      | cons z ns ih => exact .cons (by unfold Rp; rfl) ih
    · rw [hs]
      intro v r' G' H' _ _ hv
      unfold Rp at hv
      exact hv
end T5

set_option Elab.async false
set_option linter.all false
set_option maxRecDepth 100000
set_option maxHeartbeats 2000000
/-! T5: what the top left, from the head's facts. -/
namespace T5
open PySem PySem.Spec L2
/-! ### how calls bind -/
def conV : D → V
  | .non => .non
  | .bl b => .bl b
  | .int i => .int i
  | .str x => .str x
  | _ => .non
def conB : D → Bool
  | .non => true
  | .bl _ => true
  | .int _ => true
  | .str _ => true
  | _ => false
theorem rp_con {d : D} {K : PySem.W.Frag} {T : Tb} {r : List Addr} {G : Hp} (h : conB d = true) : Rp K T r G d (conV d) := by
  cases d <;> first | (cases h; done) | (unfold Rp; rfl)
section
variable {K : PySem.W.Frag} {x qual : Str} {params : Arguments} {body : List Stmt} {scope : Scope} {dvs : List V} {f : Addr} {fd : FuncData} {ps : List Str} {n : Nat} {ks : List Str} {src : List (Nat ⊕ D)}
theorem bnd_no (F : FunD K x qual params body scope [] [] f fd)
    (h : ∀ (kV doc pm : Value) (an : Option Addr) (cdv ct : Value) (us ws : List Value), us.length = n → ws.length = ks.length → ∃ zs : List Value, zs.length = ps.length ∧ SrcV (us ++ ws) src zs ∧ bindArgs (PySem.W.fnOf x qual params body scope .none kV doc pm an cdv ct) ⟨us, ks.zip ws⟩ = pure (ps.zip zs)) :
    Bnd K fd ps n ks src := by
  obtain ⟨oc, od, dV, kV, doc, pm, an, cdv, ct, osl, rfl, lk, hcd, hD, hK⟩ := F.ex
  rcases hD with ⟨_, rfl⟩ | ⟨e, _⟩
  · intro s us ws hin l1 l2
    obtain ⟨zs, z1, z2, z3⟩ := h kV doc pm an cdv ct us ws l1 l2
    exact ⟨zs, z1, z2, .of_eq z3⟩
  · exact absurd rfl e
theorem bnd_df (F : FunD K x qual params body scope dvs [] f fd) (hd : dvs ≠ [])
    (h : ∀ (T : Addr) (kV doc pm : Value) (an : Option Addr) (cdv ct : Value) (us ws its : List Value), us.length = n → ws.length = ks.length → Vals dvs its →
      ∃ (zs : List Value) (k : Option (Array Value) → Sem (List (Str × Value))), zs.length = ps.length ∧ SrcV (us ++ ws) src zs ∧ bindArgs (PySem.W.fnOf x qual params body scope (.ref T) kV doc pm an cdv ct) ⟨us, ks.zip ws⟩ = seqItems? (.ref T) >>= k ∧ k (some its.toArray) = pure (ps.zip zs)) :
    Bnd K fd ps n ks src := by
  obtain ⟨oc, od, dV, kV, doc, pm, an, cdv, ct, osl, rfl, lk, hcd, hD, hK⟩ := F.ex
  rcases hD with ⟨e, _⟩ | ⟨_, T, o, its, m, rfl, lT, oT, rT⟩
  · exact absurd e hd
  · intro s us ws hin l1 l2
    obtain ⟨zs, k, z1, z2, z3, z4⟩ := h T kV doc pm an cdv ct us ws its l1 l2 rT
    refine ⟨zs, z1, z2, BindsTo.of_looks fun M => ?_⟩
    rw [z3]
    exact looks_items hin lT oT (.of_pure z4)
/-- the forms of one def -/
def pick (i : Nat) (l : List ((Nat × Nat × List Str) × List (Nat ⊕ D))) : List ((Nat × List Str) × List (Nat ⊕ D)) := l.filterMap fun e => if Nat.beq e.1.1 i then some ((e.1.2.1, e.1.2.2), e.2) else none
def AllB (K : PySem.W.Frag) (fd : FuncData) (ps : List Str) : List ((Nat × List Str) × List (Nat ⊕ D)) → Prop
  | [] => True
  | e :: r => Bnd K fd ps e.1.1 e.1.2 e.2 ∧ AllB K fd ps r
theorem AllB.mem : ∀ {l : List ((Nat × List Str) × List (Nat ⊕ D))}, AllB K fd ps l → ∀ e ∈ l, Bnd K fd ps e.1.1 e.1.2 e.2
  | [], _, _, h => by cases h
  | a :: r, h, e, hm => by
    rcases List.mem_cons.mp hm with rfl | hm
    · exact h.1
    · exact AllB.mem h.2 e hm
theorem lookup_mem {α β : Type} [BEq α] [LawfulBEq α] {k : α} {v : β} : ∀ {l : List (α × β)}, l.lookup k = some v → (k, v) ∈ l
  | [], h => by cases h
  | p :: r, h => by
    rw [List.lookup_cons] at h
    split at h
    · rename_i e
      cases h
      rw [eq_of_beq e]
      exact List.mem_cons_self ..
    · exact List.mem_cons_of_mem _ (lookup_mem h)
theorem bnd_all {i : Nat} {bnds : List ((Nat × Nat × List Str) × List (Nat ⊕ D))} (h : AllB K fd ps (pick i bnds)) (n : Nat) (ks : List Str) (src : List (Nat ⊕ D)) (hl : bnds.lookup (i, n, ks) = some src) : Bnd K fd ps n ks src := by
  refine h.mem ((n, ks), src) ?_
  unfold pick
  rw [List.mem_filterMap]
  exact ⟨_, lookup_mem hl, by rw [if_pos (Nat.beq_refl i)]⟩
end
/-! ### the head's facts -/
def fas (ds : List Df) (blts : List Str) : List He.Fa := ds.map (fun d => He.Fa.glo d.nm) ++ blts.map He.Fa.free
/-- a def's calls, whatever its place -/
def BOk (gt : Gt) (i : Nat) (d : Df) : Prop := ∀ (K : PySem.W.Frag) (f : Addr) (fd : FuncData), FunD K d.nm d.nm (defArgs d.st) (defBody d.st) (defScope d.st) (d.dd.dvs K) [] f fd → AllB K fd d.ps (pick i gt.bnd)
theorem AllD.mk {P : Nat → Df → Prop} : ∀ {l : List Df} {j : Nat}, (∀ i d, l[i]? = some d → P (j + i) d) → AllD P j l
  | [], _, _ => trivial
  | d :: r, j, h => ⟨h 0 d rfl, AllD.mk fun i d' e => by
      have := h (i + 1) d' (by simpa using e)
      rw [show j + (i + 1) = j + 1 + i by omega] at this
      exact this⟩
theorem top_of {K : PySem.W.Frag} {mg : Str → Option Value} {h : Heap} {ds : List Df} {bnds : List ((Nat × Nat × List Str) × List (Nat ⊕ D))} {boxes : List (Nat × Nat)} {blts : List Str} (X : K.In h) (G : h.Ns mainGlobals mg)
    (c : He.SaysD (fas ds blts) (ds.map Df.dd) K) (hb : AllD (BOk ⟨namesOf 0 ds, bnds, boxes, blts⟩) 0 ds) (hs : (ds.all fun d => scB d.N d.ps (defScope d.st)) = true) : Top K mg ⟨namesOf 0 ds, bnds, boxes, blts⟩ ds where
  defs := AllD.mk fun i d e => by
    obtain ⟨fd, F⟩ := c.def_ i (d := d.dd) (by rw [List.getElem?_map, e]; rfl)
    refine ⟨_, fd, F, He.glo_ok X G (c.fact i (f := .glo d.nm) ?_), fun n ks src hl => bnd_all (hb.at e K _ fd F) n ks src hl⟩
    unfold fas
    have : i < (ds.map (fun d => He.Fa.glo d.nm)).length := by
      rw [List.length_map]
      exact (List.getElem?_eq_some_iff.mp e).1
    rw [List.getElem?_append_left this, List.getElem?_map, e]
    rfl
  sc := hs
  fns := rfl
  blt := fun x hx => by
    have hx : blts.contains x = true := hx
    have hm : x ∈ blts := by simpa using hx
    obtain ⟨i, hi⟩ := List.getElem?_of_mem hm
    refine He.free_ok X G (c.fact ((ds.map (fun d => He.Fa.glo d.nm)).length + i) (f := .free x) ?_)
    unfold fas
    rw [List.getElem?_append_right (by omega), Nat.add_sub_cancel_left, List.getElem?_map, hi]
    rfl
end T5

set_option Elab.async false
set_option linter.all false
set_option maxRecDepth 100000
set_option maxHeartbeats 0
/-! T5: K15, printed by gen.py. -/
namespace K15
open PySem PySem.Spec PyProof.Rows L2 T5
def top (i : Nat) : Stmt := PySem.Challenge.pw_throwshelves_k15_whole_free_and_full_str.main.body.getD i (.Pass ⟨0, 0, 0, 0⟩)
def ds : List Df := [
  ⟨"is_integer", top 1, ["thing"], 1, false, []⟩,
  ⟨"is_number", top 2, ["thing"], 1, false, []⟩,
  ⟨"is_index", top 3, ["thing", "many"], 2, false, []⟩,
  ⟨"is_size", top 4, ["thing"], 1, false, []⟩,
  ⟨"is_tuple_of", top 5, ["thing", "many"], 2, false, []⟩,
  ⟨"is_stretch", top 6, ["size", "thing"], 2, false, []⟩,
  ⟨"rank_in", top 8, ["throws", "start", "length", "size", "k"], 3, false, []⟩,
  ⟨"is_free_in", top 9, ["throws", "start", "length"], 3, false, []⟩,
  ⟨"free_in", top 10, ["throws", "start", "size", "found", "length", "more"], 1, false, []⟩,
  ⟨"full_in", top 11, ["throws", "balls", "start", "size", "found", "length", "less"], 1, false, []⟩,
  ⟨"free_stretches", top 13, ["pattern"], 1, false, []⟩,
  ⟨"full_stretches", top 14, ["pattern"], 1, false, []⟩,
  ⟨"want", top 20, ["holds", "word", "at"], 3, false, [.int (-1)]⟩,
  ⟨"rank_by", top 22, ["pattern", "stretch"], 2, false, []⟩,
  ⟨"_law_feed", top 24, ["_law_script"], 1, true, []⟩,
  ⟨"_law_draw", top 25, ["_law_feed_here", "_law_limit", "_law_at", "_law_cell", "_law_mash", "_law_figure"], 2, false, []⟩,
  ⟨"_law_shuffled", top 26, ["_law_feed_here", "_law_limit", "_law_lap", "_law_left_in", "_law_gone", "_law_spot"], 2, false, []⟩,
  ⟨"_law_throws", top 27, ["_law_feed_here", "_law_limit", "_law_size", "_law_some", "_law_goals", "_law_way", "_law_step", "_law_spot", "_law_far"], 2, false, []⟩,
  ⟨"_law_is_within", top 28, ["_law_throws_here", "_law_begin", "_law_length", "_law_k"], 4, false, []⟩,
  ⟨"_law_rank_of", top 29, ["_law_throws_here", "_law_begin", "_law_length", "_law_k"], 3, false, []⟩,
  ⟨"_law_is_free", top 30, ["_law_throws_here", "_law_begin", "_law_length", "_law_k"], 3, false, []⟩,
  ⟨"_law_free", top 31, ["_law_throws_here", "_law_begin", "_law_size", "_law_gone", "_law_length", "_law_early", "_law_is_longer", "_law_is_wider"], 1, false, []⟩,
  ⟨"_law_full", top 32, ["_law_throws_here", "_law_begin", "_law_size", "_law_balls", "_law_gone", "_law_length", "_law_late", "_law_is_less"], 1, false, []⟩,
  ⟨"law", top 33, ["_law_script", "_law_feed_here", "_law_lap", "_law_throws_here", "_law_told", "_law_balls", "_law_seen", "_law_due", "_law_one"], 1, false, []⟩]
def bnds : List ((Nat × Nat × List Str) × List (Nat ⊕ D)) := [
  ((0, 1, []), [.inl 0]),
  ((1, 1, []), [.inl 0]),
  ((2, 2, []), [.inl 0, .inl 1]),
  ((3, 1, []), [.inl 0]),
  ((4, 2, []), [.inl 0, .inl 1]),
  ((5, 2, []), [.inl 0, .inl 1]),
  ((6, 3, []), [.inl 0, .inl 1, .inl 2]),
  ((7, 3, []), [.inl 0, .inl 1, .inl 2]),
  ((8, 1, []), [.inl 0]),
  ((9, 1, []), [.inl 0]),
  ((10, 0, ["pattern"]), [.inl 0]),
  ((10, 1, []), [.inl 0]),
  ((11, 0, ["pattern"]), [.inl 0]),
  ((11, 1, []), [.inl 0]),
  ((12, 2, []), [.inl 0, .inl 1, .inr (.int (-1))]),
  ((13, 2, []), [.inl 0, .inl 1]),
  ((14, 1, []), [.inl 0]),
  ((15, 2, []), [.inl 0, .inl 1]),
  ((16, 2, []), [.inl 0, .inl 1]),
  ((17, 2, []), [.inl 0, .inl 1]),
  ((18, 4, []), [.inl 0, .inl 1, .inl 2, .inl 3]),
  ((19, 3, []), [.inl 0, .inl 1, .inl 2]),
  ((20, 3, []), [.inl 0, .inl 1, .inl 2]),
  ((21, 1, []), [.inl 0]),
  ((22, 1, []), [.inl 0]),
  ((23, 1, []), [.inl 0])]
def boxes : List (Nat × Nat) := [(23, 32), (32, 32), (84, 56), (108, 51), (119, 111)]
def blts : List Str := ["len", "list", "isinstance", "sum", "int", "tuple", "sorted", "repr", "set", "range", "bool", "str"]
def gt : Gt := ⟨namesOf 0 ds, bnds, boxes, blts⟩
section
variable {K : PySem.W.Frag} {fd : FuncData} {f : Addr}
theorem b0_0 (F : FunD K "is_integer" "is_integer" (defArgs (top 1)) (defBody (top 1)) (defScope (top 1)) [] [] f fd) : Bnd K fd ["thing"] 1 [] [.inl 0] :=
  bnd_no F fun kV doc pm an cdv ct us ws hl hk => match us, ws, hl, hk with | [u0], [], _, _ => ⟨[u0], rfl, ⟨u0, _, rfl, rfl, rfl⟩, rfl⟩
theorem b1_0 (F : FunD K "is_number" "is_number" (defArgs (top 2)) (defBody (top 2)) (defScope (top 2)) [] [] f fd) : Bnd K fd ["thing"] 1 [] [.inl 0] :=
  bnd_no F fun kV doc pm an cdv ct us ws hl hk => match us, ws, hl, hk with | [u0], [], _, _ => ⟨[u0], rfl, ⟨u0, _, rfl, rfl, rfl⟩, rfl⟩
theorem b2_0 (F : FunD K "is_index" "is_index" (defArgs (top 3)) (defBody (top 3)) (defScope (top 3)) [] [] f fd) : Bnd K fd ["thing", "many"] 2 [] [.inl 0, .inl 1] :=
  bnd_no F fun kV doc pm an cdv ct us ws hl hk => match us, ws, hl, hk with | [u0, u1], [], _, _ => ⟨[u0, u1], rfl, ⟨u0, _, rfl, rfl, u1, _, rfl, rfl, rfl⟩, rfl⟩
theorem b3_0 (F : FunD K "is_size" "is_size" (defArgs (top 4)) (defBody (top 4)) (defScope (top 4)) [] [] f fd) : Bnd K fd ["thing"] 1 [] [.inl 0] :=
  bnd_no F fun kV doc pm an cdv ct us ws hl hk => match us, ws, hl, hk with | [u0], [], _, _ => ⟨[u0], rfl, ⟨u0, _, rfl, rfl, rfl⟩, rfl⟩
theorem b4_0 (F : FunD K "is_tuple_of" "is_tuple_of" (defArgs (top 5)) (defBody (top 5)) (defScope (top 5)) [] [] f fd) : Bnd K fd ["thing", "many"] 2 [] [.inl 0, .inl 1] :=
  bnd_no F fun kV doc pm an cdv ct us ws hl hk => match us, ws, hl, hk with | [u0, u1], [], _, _ => ⟨[u0, u1], rfl, ⟨u0, _, rfl, rfl, u1, _, rfl, rfl, rfl⟩, rfl⟩
theorem b5_0 (F : FunD K "is_stretch" "is_stretch" (defArgs (top 6)) (defBody (top 6)) (defScope (top 6)) [] [] f fd) : Bnd K fd ["size", "thing"] 2 [] [.inl 0, .inl 1] :=
  bnd_no F fun kV doc pm an cdv ct us ws hl hk => match us, ws, hl, hk with | [u0, u1], [], _, _ => ⟨[u0, u1], rfl, ⟨u0, _, rfl, rfl, u1, _, rfl, rfl, rfl⟩, rfl⟩
theorem b6_0 (F : FunD K "rank_in" "rank_in" (defArgs (top 8)) (defBody (top 8)) (defScope (top 8)) [] [] f fd) : Bnd K fd ["throws", "start", "length"] 3 [] [.inl 0, .inl 1, .inl 2] :=
  bnd_no F fun kV doc pm an cdv ct us ws hl hk => match us, ws, hl, hk with | [u0, u1, u2], [], _, _ => ⟨[u0, u1, u2], rfl, ⟨u0, _, rfl, rfl, u1, _, rfl, rfl, u2, _, rfl, rfl, rfl⟩, rfl⟩
theorem b7_0 (F : FunD K "is_free_in" "is_free_in" (defArgs (top 9)) (defBody (top 9)) (defScope (top 9)) [] [] f fd) : Bnd K fd ["throws", "start", "length"] 3 [] [.inl 0, .inl 1, .inl 2] :=
  bnd_no F fun kV doc pm an cdv ct us ws hl hk => match us, ws, hl, hk with | [u0, u1, u2], [], _, _ => ⟨[u0, u1, u2], rfl, ⟨u0, _, rfl, rfl, u1, _, rfl, rfl, u2, _, rfl, rfl, rfl⟩, rfl⟩
theorem b8_0 (F : FunD K "free_in" "free_in" (defArgs (top 10)) (defBody (top 10)) (defScope (top 10)) [] [] f fd) : Bnd K fd ["throws"] 1 [] [.inl 0] :=
  bnd_no F fun kV doc pm an cdv ct us ws hl hk => match us, ws, hl, hk with | [u0], [], _, _ => ⟨[u0], rfl, ⟨u0, _, rfl, rfl, rfl⟩, rfl⟩
theorem b9_0 (F : FunD K "full_in" "full_in" (defArgs (top 11)) (defBody (top 11)) (defScope (top 11)) [] [] f fd) : Bnd K fd ["throws"] 1 [] [.inl 0] :=
  bnd_no F fun kV doc pm an cdv ct us ws hl hk => match us, ws, hl, hk with | [u0], [], _, _ => ⟨[u0], rfl, ⟨u0, _, rfl, rfl, rfl⟩, rfl⟩
theorem b10_0 (F : FunD K "free_stretches" "free_stretches" (defArgs (top 13)) (defBody (top 13)) (defScope (top 13)) [] [] f fd) : Bnd K fd ["pattern"] 0 ["pattern"] [.inl 0] :=
  bnd_no F fun kV doc pm an cdv ct us ws hl hk => match us, ws, hl, hk with | [], [w0], _, _ => ⟨[w0], rfl, ⟨w0, _, rfl, rfl, rfl⟩, rfl⟩
theorem b10_1 (F : FunD K "free_stretches" "free_stretches" (defArgs (top 13)) (defBody (top 13)) (defScope (top 13)) [] [] f fd) : Bnd K fd ["pattern"] 1 [] [.inl 0] :=
  bnd_no F fun kV doc pm an cdv ct us ws hl hk => match us, ws, hl, hk with | [u0], [], _, _ => ⟨[u0], rfl, ⟨u0, _, rfl, rfl, rfl⟩, rfl⟩
theorem b11_0 (F : FunD K "full_stretches" "full_stretches" (defArgs (top 14)) (defBody (top 14)) (defScope (top 14)) [] [] f fd) : Bnd K fd ["pattern"] 0 ["pattern"] [.inl 0] :=
  bnd_no F fun kV doc pm an cdv ct us ws hl hk => match us, ws, hl, hk with | [], [w0], _, _ => ⟨[w0], rfl, ⟨w0, _, rfl, rfl, rfl⟩, rfl⟩
theorem b11_1 (F : FunD K "full_stretches" "full_stretches" (defArgs (top 14)) (defBody (top 14)) (defScope (top 14)) [] [] f fd) : Bnd K fd ["pattern"] 1 [] [.inl 0] :=
  bnd_no F fun kV doc pm an cdv ct us ws hl hk => match us, ws, hl, hk with | [u0], [], _, _ => ⟨[u0], rfl, ⟨u0, _, rfl, rfl, rfl⟩, rfl⟩
theorem b12_0 (F : FunD K "want" "want" (defArgs (top 20)) (defBody (top 20)) (defScope (top 20)) [V.int (-1)] [] f fd) : Bnd K fd ["holds", "word", "at"] 2 [] [.inl 0, .inl 1, .inr (.int (-1))] :=
  bnd_df F (by simp) fun T kV doc pm an cdv ct us ws its hl hk hv => match us, ws, its, hl, hk, hv with | [u0, u1], [], [t0], _, _, .cons r0 (.nil) => ⟨[u0, u1, t0], _, rfl, ⟨u0, _, rfl, rfl, u1, _, rfl, rfl, t0, _, rfl, ⟨_, fun _ _ _ _ => rp_con rfl, r0⟩, rfl⟩, rfl, rfl⟩
theorem b13_0 (F : FunD K "rank_by" "rank_by" (defArgs (top 22)) (defBody (top 22)) (defScope (top 22)) [] [] f fd) : Bnd K fd ["pattern", "stretch"] 2 [] [.inl 0, .inl 1] :=
  bnd_no F fun kV doc pm an cdv ct us ws hl hk => match us, ws, hl, hk with | [u0, u1], [], _, _ => ⟨[u0, u1], rfl, ⟨u0, _, rfl, rfl, u1, _, rfl, rfl, rfl⟩, rfl⟩
theorem b14_0 (F : FunD K "_law_feed" "_law_feed" (defArgs (top 24)) (defBody (top 24)) (defScope (top 24)) [] [] f fd) : Bnd K fd ["_law_script"] 1 [] [.inl 0] :=
  bnd_no F fun kV doc pm an cdv ct us ws hl hk => match us, ws, hl, hk with | [u0], [], _, _ => ⟨[u0], rfl, ⟨u0, _, rfl, rfl, rfl⟩, rfl⟩
theorem b15_0 (F : FunD K "_law_draw" "_law_draw" (defArgs (top 25)) (defBody (top 25)) (defScope (top 25)) [] [] f fd) : Bnd K fd ["_law_feed_here", "_law_limit"] 2 [] [.inl 0, .inl 1] :=
  bnd_no F fun kV doc pm an cdv ct us ws hl hk => match us, ws, hl, hk with | [u0, u1], [], _, _ => ⟨[u0, u1], rfl, ⟨u0, _, rfl, rfl, u1, _, rfl, rfl, rfl⟩, rfl⟩
theorem b16_0 (F : FunD K "_law_shuffled" "_law_shuffled" (defArgs (top 26)) (defBody (top 26)) (defScope (top 26)) [] [] f fd) : Bnd K fd ["_law_feed_here", "_law_limit"] 2 [] [.inl 0, .inl 1] :=
  bnd_no F fun kV doc pm an cdv ct us ws hl hk => match us, ws, hl, hk with | [u0, u1], [], _, _ => ⟨[u0, u1], rfl, ⟨u0, _, rfl, rfl, u1, _, rfl, rfl, rfl⟩, rfl⟩
theorem b17_0 (F : FunD K "_law_throws" "_law_throws" (defArgs (top 27)) (defBody (top 27)) (defScope (top 27)) [] [] f fd) : Bnd K fd ["_law_feed_here", "_law_limit"] 2 [] [.inl 0, .inl 1] :=
  bnd_no F fun kV doc pm an cdv ct us ws hl hk => match us, ws, hl, hk with | [u0, u1], [], _, _ => ⟨[u0, u1], rfl, ⟨u0, _, rfl, rfl, u1, _, rfl, rfl, rfl⟩, rfl⟩
theorem b18_0 (F : FunD K "_law_is_within" "_law_is_within" (defArgs (top 28)) (defBody (top 28)) (defScope (top 28)) [] [] f fd) : Bnd K fd ["_law_throws_here", "_law_begin", "_law_length", "_law_k"] 4 [] [.inl 0, .inl 1, .inl 2, .inl 3] :=
  bnd_no F fun kV doc pm an cdv ct us ws hl hk => match us, ws, hl, hk with | [u0, u1, u2, u3], [], _, _ => ⟨[u0, u1, u2, u3], rfl, ⟨u0, _, rfl, rfl, u1, _, rfl, rfl, u2, _, rfl, rfl, u3, _, rfl, rfl, rfl⟩, rfl⟩
theorem b19_0 (F : FunD K "_law_rank_of" "_law_rank_of" (defArgs (top 29)) (defBody (top 29)) (defScope (top 29)) [] [] f fd) : Bnd K fd ["_law_throws_here", "_law_begin", "_law_length"] 3 [] [.inl 0, .inl 1, .inl 2] :=
  bnd_no F fun kV doc pm an cdv ct us ws hl hk => match us, ws, hl, hk with | [u0, u1, u2], [], _, _ => ⟨[u0, u1, u2], rfl, ⟨u0, _, rfl, rfl, u1, _, rfl, rfl, u2, _, rfl, rfl, rfl⟩, rfl⟩
theorem b20_0 (F : FunD K "_law_is_free" "_law_is_free" (defArgs (top 30)) (defBody (top 30)) (defScope (top 30)) [] [] f fd) : Bnd K fd ["_law_throws_here", "_law_begin", "_law_length"] 3 [] [.inl 0, .inl 1, .inl 2] :=
  bnd_no F fun kV doc pm an cdv ct us ws hl hk => match us, ws, hl, hk with | [u0, u1, u2], [], _, _ => ⟨[u0, u1, u2], rfl, ⟨u0, _, rfl, rfl, u1, _, rfl, rfl, u2, _, rfl, rfl, rfl⟩, rfl⟩
theorem b21_0 (F : FunD K "_law_free" "_law_free" (defArgs (top 31)) (defBody (top 31)) (defScope (top 31)) [] [] f fd) : Bnd K fd ["_law_throws_here"] 1 [] [.inl 0] :=
  bnd_no F fun kV doc pm an cdv ct us ws hl hk => match us, ws, hl, hk with | [u0], [], _, _ => ⟨[u0], rfl, ⟨u0, _, rfl, rfl, rfl⟩, rfl⟩
theorem b22_0 (F : FunD K "_law_full" "_law_full" (defArgs (top 32)) (defBody (top 32)) (defScope (top 32)) [] [] f fd) : Bnd K fd ["_law_throws_here"] 1 [] [.inl 0] :=
  bnd_no F fun kV doc pm an cdv ct us ws hl hk => match us, ws, hl, hk with | [u0], [], _, _ => ⟨[u0], rfl, ⟨u0, _, rfl, rfl, rfl⟩, rfl⟩
theorem b23_0 (F : FunD K "law" "law" (defArgs (top 33)) (defBody (top 33)) (defScope (top 33)) [] [] f fd) : Bnd K fd ["_law_script"] 1 [] [.inl 0] :=
  bnd_no F fun kV doc pm an cdv ct us ws hl hk => match us, ws, hl, hk with | [u0], [], _, _ => ⟨[u0], rfl, ⟨u0, _, rfl, rfl, rfl⟩, rfl⟩
end
theorem bok : AllD (BOk gt) 0 ds := ⟨(fun K f fd F => ⟨b0_0 F, trivial⟩), (fun K f fd F => ⟨b1_0 F, trivial⟩), (fun K f fd F => ⟨b2_0 F, trivial⟩), (fun K f fd F => ⟨b3_0 F, trivial⟩), (fun K f fd F => ⟨b4_0 F, trivial⟩), (fun K f fd F => ⟨b5_0 F, trivial⟩), (fun K f fd F => ⟨b6_0 F, trivial⟩), (fun K f fd F => ⟨b7_0 F, trivial⟩), (fun K f fd F => ⟨b8_0 F, trivial⟩), (fun K f fd F => ⟨b9_0 F, trivial⟩), (fun K f fd F => ⟨b10_0 F, b10_1 F, trivial⟩), (fun K f fd F => ⟨b11_0 F, b11_1 F, trivial⟩), (fun K f fd F => ⟨b12_0 F, trivial⟩), (fun K f fd F => ⟨b13_0 F, trivial⟩), (fun K f fd F => ⟨b14_0 F, trivial⟩), (fun K f fd F => ⟨b15_0 F, trivial⟩), (fun K f fd F => ⟨b16_0 F, trivial⟩), (fun K f fd F => ⟨b17_0 F, trivial⟩), (fun K f fd F => ⟨b18_0 F, trivial⟩), (fun K f fd F => ⟨b19_0 F, trivial⟩), (fun K f fd F => ⟨b20_0 F, trivial⟩), (fun K f fd F => ⟨b21_0 F, trivial⟩), (fun K f fd F => ⟨b22_0 F, trivial⟩), (fun K f fd F => ⟨b23_0 F, trivial⟩), trivial⟩
theorem scs : (ds.all fun d => scB d.N d.ps (defScope d.st)) = true := by decide +kernel
def loose0 : List Str := ["is_integer", "is_number", "is_index", "is_size", "is_tuple_of", "is_stretch", "rank_in", "is_free_in", "free_in", "full_in", "free_stretches", "full_stretches", "RingError", "ShelfError", "NotUsable", "want", "rank_by", "_law_feed", "_law_draw", "_law_shuffled", "_law_throws", "_law_is_within", "_law_rank_of", "_law_is_free", "_law_free", "_law_full"]
def loose : List Str := loose0
abbrev Rw : PySem.W.OpenRow := PySem.W.OpenLaw.row PySem.Challenge.rw_throwshelves_k15_whole_free_and_full_str
abbrev hk : PySem.W.Hook := He.hookD 4 (fas ds blts) (ds.map Df.dd)
def ob (s : PySem.W.SharedT) : He.AlD := He.obsDG 4 (fas ds blts) (ds.map Df.dd) (HandSHeadRun.getT s)
theorem ob_eq (s : PySem.W.SharedT) : ob s = hk.obs s.abs := He.obsDG_eq (HandSHeadRun.getT_eq s)
abbrev lawAt : Nat := 33
theorem runTop (w : World) : HandSHeadRun.RunEq Rw (PySem.W.view Rw.prog [lawAt]) hk ob 20000 loose w := by
  intro os
  kernel_rfl
end K15

set_option Elab.async false
set_option linter.all false
set_option maxRecDepth 100000
/-! T5: K15, core texts, printed. -/
namespace K15
open T5 PySem
def f0 : Fd := ⟨1, 1, false, (.cons (.ret (.and (.bi .isi (.cons (.var 0) (.cons (.con (.ty "int")) .nil))) (.not (.bi .isi (.cons (.var 0) (.cons (.con (.ty "bool")) .nil)))))) .nil)⟩
def f1 : Fd := ⟨1, 1, false, (.cons (.ret (.and (.call 0 [.inl 0] (.cons (.var 0) .nil) .nil) (.cmp .ge (.var 0) (.con (.int (0)))))) .nil)⟩
def f2 : Fd := ⟨2, 2, false, (.cons (.ret (.and (.call 1 [.inl 0] (.cons (.var 0) .nil) .nil) (.cmp .lt (.var 0) (.var 1)))) .nil)⟩
def f3 : Fd := ⟨1, 1, false, (.cons (.ret (.and (.call 0 [.inl 0] (.cons (.var 0) .nil) .nil) (.cmp .ge (.var 0) (.con (.int (1)))))) .nil)⟩
def f4 : Fd := ⟨2, 2, false, (.cons (.ret (.and (.bi .isi (.cons (.var 0) (.cons (.con (.ty "tuple")) .nil))) (.cmp .eq (.bi .len (.cons (.var 0) .nil)) (.var 1)))) .nil)⟩
def f5 : Fd := ⟨2, 2, false, (.cons (.iff (.or (.not (.call 3 [.inl 0] (.cons (.var 0) .nil) .nil)) (.not (.call 4 [.inl 0, .inl 1] (.cons (.var 1) (.cons (.con (.int (2))) .nil)) .nil))) (.cons (.ret (.con (.bl false))) .nil) .nil) (.cons (.ret (.and (.call 2 [.inl 0, .inl 1] (.cons (.idx (.var 1) (.con (.int (0)))) (.cons (.var 0) .nil)) .nil) (.and (.call 1 [.inl 0] (.cons (.idx (.var 1) (.con (.int (1)))) .nil) .nil) (.cmp .le (.idx (.var 1) (.con (.int (1)))) (.var 0))))) .nil))⟩
def c6_0 : CE := (.cmp .lt (.bin .add (.var 4) (.idx (.var 0) (.bin .mod (.bin .add (.var 1) (.var 4)) (.var 3)))) (.var 2))
def f6 : Fd := ⟨3, 5, false, (.cons (.asg [3] (.bi .len (.cons (.var 0) .nil))) (.cons (.ret (.bin .sub (.var 2) (.bi .len (.cons (.lc [4] [4] (.var 4) (.rng1 (.var 2)) c6_0) .nil)))) .nil))⟩
def f7 : Fd := ⟨3, 3, false, (.cons (.ret (.cmp .eq (.call 6 [.inl 0, .inl 1, .inl 2] (.cons (.var 0) (.cons (.var 1) (.cons (.var 2) .nil))) .nil) (.var 2))) .nil)⟩
def l8_0 : CSs := (.cons (.iff (.call 7 [.inl 0, .inl 1, .inl 2] (.cons (.var 0) (.cons (.var 1) (.cons (.var 4) .nil))) .nil) (.cons (.asg [5] (.and (.cmp .lt (.var 4) (.var 2)) (.call 7 [.inl 0, .inl 1, .inl 2] (.cons (.var 0) (.cons (.var 1) (.cons (.bin .add (.var 4) (.con (.int (1)))) .nil))) .nil))) (.cons (.iff (.and (.not (.var 5)) (.not (.and (.cmp .lt (.var 4) (.var 2)) (.call 7 [.inl 0, .inl 1, .inl 2] (.cons (.var 0) (.cons (.bin .mod (.bin .sub (.var 1) (.con (.int (1)))) (.var 2)) (.cons (.bin .add (.var 4) (.con (.int (1)))) .nil))) .nil)))) (.cons (.app (.var 3) (.tup (.cons (.var 1) (.cons (.var 4) .nil)))) .nil) .nil) .nil)) .nil) .nil)
def l8_1 : CSs := (.cons (.loop [4] (.rng2 (.con (.int (1))) (.bin .add (.var 2) (.con (.int (1))))) l8_0) .nil)
def f8 : Fd := ⟨1, 6, false, (.cons (.par [2, 3] (.cons (.bi .len (.cons (.var 0) .nil)) (.cons (.box (.lst .nil)) .nil))) (.cons (.loop [1] (.rng1 (.var 2)) l8_1) (.cons (.ret (.bi .tuple (.cons (.var 3) .nil))) .nil)))⟩
def l9_0 : CSs := (.cons (.iff (.cmp .eq (.call 6 [.inl 0, .inl 1, .inl 2] (.cons (.var 0) (.cons (.var 2) (.cons (.var 5) .nil))) .nil) (.var 1)) (.cons (.asg [6] (.and (.cmp .gt (.var 5) (.con (.int (0)))) (.cmp .eq (.call 6 [.inl 0, .inl 1, .inl 2] (.cons (.var 0) (.cons (.var 2) (.cons (.bin .sub (.var 5) (.con (.int (1)))) .nil))) .nil) (.var 1)))) (.cons (.iff (.and (.not (.var 6)) (.not (.and (.cmp .gt (.var 5) (.con (.int (0)))) (.cmp .eq (.call 6 [.inl 0, .inl 1, .inl 2] (.cons (.var 0) (.cons (.bin .mod (.bin .add (.var 2) (.con (.int (1)))) (.var 3)) (.cons (.bin .sub (.var 5) (.con (.int (1)))) .nil))) .nil) (.var 1))))) (.cons (.app (.var 4) (.tup (.cons (.var 2) (.cons (.var 5) .nil)))) .nil) .nil) .nil)) .nil) .nil)
def l9_1 : CSs := (.cons (.loop [5] (.rng1 (.bin .add (.var 3) (.con (.int (1))))) l9_0) .nil)
def f9 : Fd := ⟨1, 7, false, (.cons (.par [3, 4] (.cons (.bi .len (.cons (.var 0) .nil)) (.cons (.box (.lst .nil)) .nil))) (.cons (.asg [1] (.bin .fdiv (.bi .sum (.cons (.var 0) .nil)) (.var 3))) (.cons (.loop [2] (.rng1 (.var 3)) l9_1) (.cons (.ret (.bi .tuple (.cons (.var 4) .nil))) .nil))))⟩
def f10 : Fd := ⟨1, 1, false, (.cons (.ret (.call 8 [.inl 0] (.cons (.var 0) .nil) .nil)) .nil)⟩
def f11 : Fd := ⟨1, 1, false, (.cons (.ret (.call 9 [.inl 0] (.cons (.var 0) .nil) .nil)) .nil)⟩
def f12 : Fd := ⟨3, 3, false, (.cons (.iff (.not (.var 0)) (.cons .bad .nil) .nil) .nil)⟩
def f13 : Fd := ⟨2, 2, false, (.cons (.expr (.call 12 [.inl 0, .inl 1, .inr (.int (-1))] (.cons (.call 5 [.inl 0, .inl 1] (.cons (.bi .len (.cons (.var 0) .nil)) (.cons (.var 1) .nil)) .nil) (.cons (.con (.str "stretch")) .nil)) .nil)) (.cons (.ret (.call 6 [.inl 0, .inl 1, .inl 2] (.cons (.var 0) (.cons (.idx (.var 1) (.con (.int (0)))) (.cons (.idx (.var 1) (.con (.int (1)))) .nil))) .nil)) .nil))⟩
def f14 : Fd := ⟨1, 1, true, (.cons (.ret (.dic [.inr "cells", .inr "at", .inr "left", .inr "count"] (.cons (.bi .list (.cons (.slc (.var 0) (.con .non) (.asInt (.con (.int (62))))) .nil)) (.cons (.con (.int (0))) (.cons (.con (.int (0))) (.cons (.con (.int (0))) .nil)))))) .nil)⟩
def f15 : Fd := ⟨2, 6, false, (.cons (.setI (.var 0) (.con (.str "count")) (.bin .add (.idx (.var 0) (.con (.str "count"))) (.con (.int (1))))) (.cons (.iff (.cmp .gt (.idx (.var 0) (.con (.str "left"))) (.con (.int (0)))) (.cons (.asg [5] (.bin .mod (.bi .int (.cons (.idx (.var 0) (.con (.str "left"))) .nil)) (.var 1))) (.cons (.setI (.var 0) (.con (.str "left")) (.bin .fdiv (.idx (.var 0) (.con (.str "left"))) (.var 1))) (.cons (.ret (.var 5)) .nil))) .nil) (.cons (.asg [2] (.idx (.var 0) (.con (.str "at")))) (.cons (.setI (.var 0) (.con (.str "at")) (.bin .add (.var 2) (.con (.int (1))))) (.cons (.asg [3] (.ite (.cmp .ne (.idx (.var 0) (.con (.str "cells"))) (.lst .nil)) (.idx (.idx (.var 0) (.con (.str "cells"))) (.bin .mod (.bi .int (.cons (.var 2) .nil)) (.bi .len (.cons (.idx (.var 0) (.con (.str "cells"))) .nil)))) (.con (.int (883))))) (.cons (.iff (.and (.cmp .ge (.var 3) (.bin .pow (.con (.int (10))) (.con (.int (18))))) (.cmp .lt (.var 2) (.bi .len (.cons (.idx (.var 0) (.con (.str "cells"))) .nil)))) (.cons (.setI (.var 0) (.con (.str "left")) (.bin .fdiv (.var 3) (.var 1))) (.cons (.ret (.bin .mod (.bi .int (.cons (.var 3) .nil)) (.var 1))) .nil)) .nil) (.cons (.asg [4] (.bin .mod (.bi .int (.cons (.bin .add (.bin .add (.bin .mod (.bi .int (.cons (.var 3) .nil)) (.con (.int (1000001431)))) (.bin .mul (.con (.int (67003))) (.idx (.var 0) (.con (.str "count"))))) (.con (.int (673)))) .nil)) (.con (.int (2147480837))))) (.cons (.asg [4] (.bin .mod (.bi .int (.cons (.bin .add (.bin .add (.bin .mul (.var 4) (.var 4)) (.bin .mul (.con (.int (13700047))) (.idx (.var 0) (.con (.str "count"))))) (.con (.int (673)))) .nil)) (.con (.int (2147480827))))) (.cons (.ret (.bin .mod (.bi .int (.cons (.bin .fdiv (.bin .mod (.bi .int (.cons (.bin .add (.bin .mul (.var 4) (.var 4)) (.bin .mul (.con (.int (619))) (.var 4))) .nil)) (.con (.int (2147480803)))) (.con (.int (32)))) .nil)) (.var 1))) .nil)))))))))⟩
def l16_0 : CSs := (.cons (.asg [5] (.call 15 [.inl 0, .inl 1] (.cons (.var 0) (.cons (.bi .len (.cons (.var 3) .nil)) .nil)) .nil)) (.cons (.app (.var 4) (.idx (.var 3) (.var 5))) (.cons (.asg [3] (.bin .add (.slc (.var 3) (.con .non) (.asInt (.var 5))) (.slc (.var 3) (.asInt (.bin .add (.var 5) (.con (.int (1))))) (.con .non)))) .nil)))
def f16 : Fd := ⟨2, 6, false, (.cons (.par [3, 4] (.cons (.lr1 (.var 1)) (.cons (.box (.lst .nil)) .nil))) (.cons (.loop [2] (.rng1 (.var 1)) l16_0) (.cons (.ret (.var 4)) .nil)))⟩
def e17_0 : CE := (.bin .mod (.bi .int (.cons (.bin .add (.bin .add (.var 7) (.con (.int (1)))) (.call 15 [.inl 0, .inl 1] (.cons (.var 0) (.cons (.con (.int (2))) .nil)) .nil)) .nil)) (.var 2))
def e17_1 : CE := (.bin .mod (.bi .int (.cons (.bin .sub (.idx (.var 4) (.var 7)) (.var 7)) .nil)) (.var 2))
def e17_2 : CE := (.ite (.cmp .gt (.var 8) (.con (.int (0)))) (.var 8) (.bin .mul (.var 2) (.call 15 [.inl 0, .inl 1] (.cons (.var 0) (.cons (.con (.int (2))) .nil)) .nil)))
def f17 : Fd := ⟨2, 9, false, (.cons (.asg [2] (.bin .add (.con (.int (1))) (.call 15 [.inl 0, .inl 1] (.cons (.var 0) (.cons (.var 1) .nil)) .nil))) (.cons (.asg [4, 5] (.tup (.cons (.call 16 [.inl 0, .inl 1] (.cons (.var 0) (.cons (.var 2) .nil)) .nil) (.cons (.call 15 [.inl 0, .inl 1] (.cons (.var 0) (.cons (.con (.int (5))) .nil)) .nil) .nil)))) (.cons (.iff (.cmp .eq (.var 5) (.con (.int (0)))) (.cons (.asg [4] (.lc [7] [7] e17_0 (.rng1 (.var 2)) (.con (.bl true)))) (.cons (.asg [4] (.ite (.cmp .eq (.bi .lenset (.cons (.var 4) .nil)) (.var 2)) (.var 4) (.lr1 (.var 2)))) .nil)) .nil) (.cons (.iff (.cmp .eq (.var 5) (.con (.int (1)))) (.cons (.asg [6] (.call 15 [.inl 0, .inl 1] (.cons (.var 0) (.cons (.bin .add (.var 2) (.con (.int (1)))) .nil)) .nil)) (.cons (.ret (.bin .mul (.tup (.cons (.var 6) .nil)) (.var 2))) .nil)) .nil) (.cons (.asg [3] (.lc [7] [7] e17_1 (.rng1 (.var 2)) (.con (.bl true)))) (.cons (.ret (.bi .tuple (.cons (.lc [8] [8] e17_2 (.var 3) (.con (.bl true))) .nil))) .nil))))))⟩
def f18 : Fd := ⟨4, 4, false, (.cons (.ret (.cmp .lt (.bin .add (.var 3) (.idx (.var 0) (.bin .mod (.bi .int (.cons (.bin .add (.var 1) (.var 3)) .nil)) (.bi .len (.cons (.var 0) .nil))))) (.var 2))) .nil)⟩
def c19_0 : CE := (.call 18 [.inl 0, .inl 1, .inl 2, .inl 3] (.cons (.var 0) (.cons (.var 1) (.cons (.var 2) (.cons (.var 3) .nil)))) .nil)
def f19 : Fd := ⟨3, 4, false, (.cons (.ret (.bin .sub (.var 2) (.bi .len (.cons (.lc [3] [3] (.var 3) (.rng1 (.var 2)) c19_0) .nil)))) .nil)⟩
def c20_0 : CE := (.call 18 [.inl 0, .inl 1, .inl 2, .inl 3] (.cons (.var 0) (.cons (.var 1) (.cons (.var 2) (.cons (.var 3) .nil)))) .nil)
def f20 : Fd := ⟨3, 4, false, (.cons (.ret (.cmp .eq (.lc [3] [3] (.var 3) (.rng1 (.var 2)) c20_0) (.lst .nil))) .nil)⟩
def l21_0 : CSs := (.cons (.iff (.call 20 [.inl 0, .inl 1, .inl 2] (.cons (.var 0) (.cons (.var 1) (.cons (.var 4) .nil))) .nil) (.cons (.asg [5] (.bin .mod (.bi .int (.cons (.bin .sub (.var 1) (.con (.int (1)))) .nil)) (.var 2))) (.cons (.asg [6] (.call 20 [.inl 0, .inl 1, .inl 2] (.cons (.var 0) (.cons (.var 1) (.cons (.bin .add (.var 4) (.con (.int (1)))) .nil))) .nil)) (.cons (.asg [7] (.call 20 [.inl 0, .inl 1, .inl 2] (.cons (.var 0) (.cons (.var 5) (.cons (.bin .add (.var 4) (.con (.int (1)))) .nil))) .nil)) (.cons (.iff (.or (.cmp .eq (.var 4) (.var 2)) (.and (.not (.var 6)) (.not (.var 7)))) (.cons (.app (.var 3) (.tup (.cons (.var 1) (.cons (.var 4) .nil)))) .nil) .nil) .nil)))) .nil) .nil)
def l21_1 : CSs := (.cons (.loop [4] (.rng2 (.con (.int (1))) (.bin .add (.var 2) (.con (.int (1))))) l21_0) .nil)
def f21 : Fd := ⟨1, 8, false, (.cons (.par [2, 3] (.cons (.bi .len (.cons (.var 0) .nil)) (.cons (.box (.lst .nil)) .nil))) (.cons (.loop [1] (.rng1 (.var 2)) l21_1) (.cons (.ret (.bi .tuple (.cons (.bi .sorted (.cons (.var 3) .nil)) .nil))) .nil)))⟩
def l22_0 : CSs := (.cons (.iff (.cmp .eq (.call 19 [.inl 0, .inl 1, .inl 2] (.cons (.var 0) (.cons (.var 1) (.cons (.var 5) .nil))) .nil) (.var 3)) (.cons (.par [6, 7] (.cons (.bin .mod (.bi .int (.cons (.bin .add (.var 1) (.con (.int (1)))) .nil)) (.var 2)) (.cons (.con (.bl false)) .nil))) (.cons (.iff (.cmp .gt (.var 5) (.con (.int (0)))) (.cons (.asg [7] (.cmp .eq (.call 19 [.inl 0, .inl 1, .inl 2] (.cons (.var 0) (.cons (.var 1) (.cons (.bin .sub (.var 5) (.con (.int (1)))) .nil))) .nil) (.var 3))) (.cons (.asg [7] (.or (.var 7) (.cmp .eq (.call 19 [.inl 0, .inl 1, .inl 2] (.cons (.var 0) (.cons (.var 6) (.cons (.bin .sub (.var 5) (.con (.int (1)))) .nil))) .nil) (.var 3)))) .nil)) .nil) (.cons (.iff (.not (.var 7)) (.cons (.app (.var 4) (.tup (.cons (.var 1) (.cons (.var 5) .nil)))) .nil) .nil) .nil))) .nil) .nil)
def l22_1 : CSs := (.cons (.loop [5] (.rng1 (.bin .add (.var 2) (.con (.int (1))))) l22_0) .nil)
def f22 : Fd := ⟨1, 8, false, (.cons (.par [2, 3, 4] (.cons (.bi .len (.cons (.var 0) .nil)) (.cons (.bin .fdiv (.bi .sum (.cons (.var 0) .nil)) (.bi .len (.cons (.var 0) .nil))) (.cons (.box (.lst .nil)) .nil)))) (.cons (.loop [1] (.rng1 (.var 2)) l22_1) (.cons (.ret (.bi .tuple (.cons (.bi .sorted (.cons (.var 4) .nil)) .nil))) .nil)))⟩
def c23_0 : CE := (.cmp .ne (.call 13 [.inl 0, .inl 1] (.cons (.var 3) (.cons (.var 8) .nil)) .nil) (.idx (.var 8) (.con (.int (1)))))
def c23_1 : CE := (.cmp .ne (.call 13 [.inl 0, .inl 1] (.cons (.var 3) (.cons (.var 8) .nil)) .nil) (.var 5))
def l23_2 : CSs := (.cons (.asg [3] (.call 17 [.inl 0, .inl 1] (.cons (.var 1) (.cons (.idx (.lst (.cons (.con (.int (10))) (.cons (.con (.int (6))) (.cons (.con (.int (4))) .nil)))) (.var 2)) .nil)) .nil)) (.cons (.par [6, 7] (.cons (.bi .repr (.cons (.var 3) .nil)) (.cons (.tup (.cons (.call 21 [.inl 0] (.cons (.var 3) .nil) .nil) (.cons (.call 22 [.inl 0] (.cons (.var 3) .nil) .nil) .nil))) .nil))) (.cons (.iff (.cmp .ne (.bi .repr (.cons (.tup (.cons (.call 10 [.inl 0] (.cons (.var 3) .nil) .nil) (.cons (.call 11 [.inl 0] (.cons (.var 3) .nil) .nil) .nil))) .nil)) (.bi .repr (.cons (.var 7) .nil))) (.cons (.ret (.con (.bl false))) .nil) .nil) (.cons (.asg [4] (.tup (.cons (.call 10 [.inl 0] .nil (.cons (.var 3) .nil)) (.cons (.call 11 [.inl 0] .nil (.cons (.var 3) .nil)) .nil)))) (.cons (.iff (.or (.cmp .ne (.bi .repr (.cons (.var 4) .nil)) (.bi .repr (.cons (.var 7) .nil))) (.cmp .ne (.bi .repr (.cons (.var 3) .nil)) (.var 6))) (.cons (.ret (.con (.bl false))) .nil) .nil) (.cons (.iff (.cmp .ne (.lc [8] [8] (.var 8) (.idx (.var 7) (.con (.int (0)))) c23_0) (.lst .nil)) (.cons (.ret (.con (.bl false))) .nil) .nil) (.cons (.asg [5] (.bin .fdiv (.bi .sum (.cons (.var 3) .nil)) (.bi .len (.cons (.var 3) .nil)))) (.cons (.iff (.cmp .ne (.lc [8] [8] (.var 8) (.idx (.var 7) (.con (.int (1)))) c23_1) (.lst .nil)) (.cons (.ret (.con (.bl false))) .nil) .nil) .nil))))))))
def f23 : Fd := ⟨1, 9, false, (.cons (.asg [1] (.call 14 [.inl 0] (.cons (.var 0) .nil) .nil)) (.cons (.loop [2] (.rng1 (.con (.int (3)))) l23_2) (.cons (.ret (.con (.bl true))) .nil)))⟩
def F : List Fd := [f0, f1, f2, f3, f4, f5, f6, f7, f8, f9, f10, f11, f12, f13, f14, f15, f16, f17, f18, f19, f20, f21, f22, f23]
theorem F0 : F[0]? = some f0 := rfl
theorem F1 : F[1]? = some f1 := rfl
theorem F2 : F[2]? = some f2 := rfl
theorem F3 : F[3]? = some f3 := rfl
theorem F4 : F[4]? = some f4 := rfl
theorem F5 : F[5]? = some f5 := rfl
theorem F6 : F[6]? = some f6 := rfl
theorem F7 : F[7]? = some f7 := rfl
theorem F8 : F[8]? = some f8 := rfl
theorem F9 : F[9]? = some f9 := rfl
theorem F10 : F[10]? = some f10 := rfl
theorem F11 : F[11]? = some f11 := rfl
theorem F12 : F[12]? = some f12 := rfl
theorem F13 : F[13]? = some f13 := rfl
theorem F14 : F[14]? = some f14 := rfl
theorem F15 : F[15]? = some f15 := rfl
theorem F16 : F[16]? = some f16 := rfl
theorem F17 : F[17]? = some f17 := rfl
theorem F18 : F[18]? = some f18 := rfl
theorem F19 : F[19]? = some f19 := rfl
theorem F20 : F[20]? = some f20 := rfl
theorem F21 : F[21]? = some f21 := rfl
theorem F22 : F[22]? = some f22 := rfl
theorem F23 : F[23]? = some f23 := rfl
end K15

set_option Elab.async false
set_option linter.all false
set_option maxRecDepth 100000
set_option maxHeartbeats 0
namespace K15
open T5 PySem
theorem F_eq : ds.map (Df.fd gt) = F := by kernel_rfl
end K15

set_option Elab.async false
set_option linter.all false
set_option maxRecDepth 100000
set_option maxHeartbeats 2000000
/-! T5: plain lemmas on the evaluator. -/
namespace T5
open PySem

/-! ### data that repr shows -/
mutual
def smD : D → Bool
  | .non => true
  | .bl _ => true
  | .int i => decide (i.natAbs < 400)
  | .tup ds => smL ds
  | .lst ds => smL ds
  | _ => false
def smL : List D → Bool
  | [] => true
  | d :: r => smD d && smL r
end
mutual
def dpD : D → Nat
  | .tup ds => dpL ds + 1
  | .lst ds => dpL ds + 1
  | _ => 0
def dpL : List D → Nat
  | [] => 0
  | d :: r => max (dpD d) (dpL r)
end
mutual
def bkD : D → Nat
  | .tup ds => bkL ds
  | .lst ds => bkL ds
  | _ => 0
def bkL : List D → Nat
  | [] => 0
  | d :: r => bkD d + 1 + bkL r
end
theorem small_pos : ∀ n : Nat, n < 400 → ((PyData.int (n : Int)).showable && (PyData.int (n : Int)).leavesShort 2000) = true := by decide +kernel
theorem small_neg : ∀ n : Nat, n < 400 → ((PyData.int (-(n : Int))).showable && (PyData.int (-(n : Int))).leavesShort 2000) = true := by decide +kernel
theorem small_int {i : Int} (h : i.natAbs < 400) : ((PyData.int i).showable && (PyData.int i).leavesShort 2000) = true := by
  rcases Int.natAbs_eq i with e | e
  · rw [e]
    exact small_pos _ h
  · rw [e]
    exact small_neg _ h
mutual
theorem smD_ok : ∀ d : D, smD d = true → ∃ p, toP d = some p ∧ p.canLay0 = true ∧ p.showable = true ∧ p.leavesShort 2000 = true ∧ p.depth = dpD d ∧ p.bulk = bkD d
  | .non, _ => ⟨.none, rfl, rfl, rfl, rfl, rfl, rfl⟩
  | .bl b, _ => ⟨.bool b, rfl, rfl, rfl, rfl, rfl, rfl⟩
  | .int i, h => by
    have h1 := Bool.and_eq_true_iff.mp (small_int (of_decide_eq_true (show decide (i.natAbs < 400) = true from h)))
    exact ⟨.int i, rfl, rfl, h1.1, h1.2, rfl, rfl⟩
  | .tup ds, h => by
    obtain ⟨ps, h1, h2, h3, h4, h5, h6⟩ := smL_ok ds h
    refine ⟨.tuple ps, ?_, h2, h3, h4, ?_, h6⟩
    · show (toPs ds).map PyData.tuple = _
      rw [h1]
      rfl
    · show PyData.depthAll ps + 1 = dpL ds + 1
      rw [h5]
  | .lst ds, h => by
    obtain ⟨ps, h1, h2, h3, h4, h5, h6⟩ := smL_ok ds h
    refine ⟨.list ps, ?_, h2, h3, h4, ?_, h6⟩
    · show (toPs ds).map PyData.list = _
      rw [h1]
      rfl
    · show PyData.depthAll ps + 1 = dpL ds + 1
      rw [h5]
  | .str _, h => by cases h
  | .rep _, h => by cases h
  | .scr _, h => by cases h
  | .kt _, h => by cases h
  | .loc _, h => by cases h
  | .fn _, h => by cases h
  | .ty _, h => by cases h
theorem smL_ok : ∀ ds : List D, smL ds = true → ∃ ps, toPs ds = some ps ∧ PyData.canLayAll0 ps = true ∧ PyData.showableAll ps = true ∧ PyData.leavesShortAll 2000 ps = true ∧ PyData.depthAll ps = dpL ds ∧ PyData.bulkAll ps = bkL ds
  | [], _ => ⟨[], rfl, rfl, rfl, rfl, rfl, rfl⟩
  | d :: r, h => by
    obtain ⟨h1, h2⟩ := Bool.and_eq_true_iff.mp (show (smD d && smL r) = true from h)
    obtain ⟨p, a1, a2, a3, a4, a5, a6⟩ := smD_ok d h1
    obtain ⟨ps, b1, b2, b3, b4, b5, b6⟩ := smL_ok r h2
    refine ⟨p :: ps, ?_, ?_, ?_, ?_, ?_, ?_⟩
    · show ((toP d).bind fun p => (toPs r).map fun ps => p :: ps) = _
      rw [a1, b1]
      rfl
    · show (p.canLay0 && PyData.canLayAll0 ps) = true
      rw [a2, b2]
      rfl
    · show (p.showable && PyData.showableAll ps) = true
      rw [a3, b3]
      rfl
    · show (p.leavesShort 2000 && PyData.leavesShortAll 2000 ps) = true
      rw [a4, b4]
      rfl
    · show max p.depth (PyData.depthAll ps) = max (dpD d) (dpL r)
      rw [a5, b5]
    · show p.bulk + 1 + PyData.bulkAll ps = bkD d + 1 + bkL r
      rw [a6, b6]
end
theorem repD_ok {d : D} (h : smD d = true) (h1 : dpD d ≤ 64) (h2 : bkD d ≤ 5000) : repD d = some (.rep d) := by
  obtain ⟨p, a1, a2, a3, a4, a5, a6⟩ := smD_ok d h
  unfold repD
  rw [a1]
  show (if (SeqAt.shaped p && p.showable && p.leavesShort 2000 && Nat.ble p.bulk 5000) = true then some (D.rep d) else none) = _
  have e1 : SeqAt.shaped p = true := by
    unfold SeqAt.shaped
    rw [a2, a5]
    exact decide_eq_true h1
  have e2 : Nat.ble p.bulk 5000 = true := by
    rw [a6]
    exact Nat.ble_eq.mpr h2
  rw [e1, a3, a4, e2]
  rfl
mutual
theorem eqD_refl : ∀ d : D, eqD d d = true
  | .non => rfl
  | .bl b => by show (b == b) = true; simp
  | .int i => by show (i == i) = true; simp
  | .str x => by show decide (x = x) = true; simp
  | .rep d => eqD_refl d
  | .tup ds => eqL_refl ds
  | .lst ds => eqL_refl ds
  | .scr ds => eqL_refl ds
  | .kt ds => eqL_refl ds
  | .loc n => by show (n == n) = true; simp
  | .fn n => by show (n == n) = true; simp
  | .ty n => by show (n == n) = true; simp
theorem eqL_refl : ∀ ds : List D, eqL ds ds = true
  | [] => rfl
  | d :: r => by show (eqD d d && eqL r r) = true; rw [eqD_refl d, eqL_refl r]; rfl
end
theorem eqq_rep (d : D) : eqq (.rep d) (.rep d) = some true := by
  show (if eqD d d = true then some true else none) = _
  rw [eqD_refl]
  rfl
/-- a list of plain data against [] -/
theorem eqq_nil {ds : List D} (h : smL ds = true) (h1 : dpL ds ≤ 63) : eqq (.lst ds) (.lst []) = some ds.isEmpty := by
  obtain ⟨ps, a1, a2, a3, a4, a5, a6⟩ := smL_ok ds h
  show ((toP (.lst ds)).bind fun p => (toP (.lst [])).bind fun q => if (SeqAt.shaped p && SeqAt.shaped q) = true then some (PyData.eqv p q) else none) = _
  have e : toP (.lst ds) = some (.list ps) := by
    show (toPs ds).map PyData.list = _
    rw [a1]
    rfl
  have es : SeqAt.shaped (.list ps) = true := by
    unfold SeqAt.shaped
    show (PyData.canLayAll0 ps && decide (PyData.depthAll ps + 1 ≤ 64)) = true
    rw [a2, a5]
    exact decide_eq_true (by omega)
  rw [e]
  show (if (SeqAt.shaped (.list ps) && SeqAt.shaped (.list [])) = true then some (PyData.eqv (.list ps) (.list [])) else none) = _
  rw [es, show SeqAt.shaped (.list []) = true from rfl]
  cases ds with
  | nil =>
    cases a1
    rfl
  | cons d r =>
    cases ps with
    | nil =>
      have : toPs (d :: r) = ((toP d).bind fun p => (toPs r).map fun ps => p :: ps) := rfl
      rw [this] at a1
      cases q1 : toP d with
      | none => rw [q1] at a1; cases a1
      | some p =>
        cases q2 : toPs r with
        | none => rw [q1, q2] at a1; cases a1
        | some t => rw [q1, q2] at a1; cases a1
    | cons p t => rfl

/-! ### loops -/
theorem lcL_pure {f : D → Sto → R (Option D)} {g : D → Option D} {s : Sto} : ∀ {xs acc : List D}, (∀ x ∈ xs, f x s = .ok (g x) s) → acc.length + xs.length ≤ cap → lcL f xs acc s = .ok (acc.reverse ++ xs.filterMap g) s
  | [], acc, _, _ => by
    unfold lcL
    simp
  | x :: r, acc, h, hl => by
    unfold lcL
    rw [h x (List.mem_cons_self ..)]
    simp only [List.length_cons] at hl
    show (match g x with
      | some d => if Nat.blt acc.length cap then lcL f r (d :: acc) s else .bad
      | none => lcL f r acc s) = _
    cases hg : g x with
    | none =>
      simp only
      rw [lcL_pure (fun y hy => h y (List.mem_cons_of_mem _ hy)) (by omega), List.filterMap_cons, hg]
    | some d =>
      simp only
      rw [if_pos (by exact Nat.ble_eq.mpr (by omega)), lcL_pure (fun y hy => h y (List.mem_cons_of_mem _ hy)) (by simp only [List.length_cons]; omega), List.filterMap_cons, hg]
      simp
/-- turns that draw -/
theorem lcL_inv {f : D → Sto → R (Option D)} {I : Sto → Prop} {Pd : D → Prop} : ∀ {xs acc : List D} {s : Sto}, I s → (∀ x ∈ xs, ∀ s, I s → ∃ d s', f x s = .ok (some d) s' ∧ Pd d ∧ I s') → acc.length + xs.length ≤ cap →
    ∃ ds s', lcL f xs acc s = .ok (acc.reverse ++ ds) s' ∧ ds.length = xs.length ∧ (∀ d ∈ ds, Pd d) ∧ I s'
  | [], acc, s, hI, _, _ => ⟨[], s, by unfold lcL; simp, rfl, fun d h => (by cases h), hI⟩
  | x :: r, acc, s, hI, h, hl => by
    obtain ⟨d, s1, h1, h2, h3⟩ := h x (List.mem_cons_self ..) s hI
    simp only [List.length_cons] at hl
    obtain ⟨ds, s2, k1, k2, k3, k4⟩ := lcL_inv (acc := d :: acc) h3 (fun y hy => h y (List.mem_cons_of_mem _ hy)) (by simp only [List.length_cons]; omega)
    refine ⟨d :: ds, s2, ?_, by simp [k2], fun e he => ?_, k4⟩
    · unfold lcL
      rw [h1]
      show (if Nat.blt acc.length cap = true then lcL f r (d :: acc) s1 else .bad) = _
      rw [if_pos (by exact Nat.ble_eq.mpr (by omega)), k1]
      simp
    · rcases List.mem_cons.mp he with rfl | he
      · exact h2
      · exact k3 e he
theorem forL_acc {f : D → Env → Sto → SR} {g : D → List D} {I : List D → Env → Sto → Prop} : ∀ {xs acc : List D} {env : Env} {s : Sto}, (∀ x ∈ xs, ∀ acc env s, I acc env s → ∃ env' s', f x env s = .nx env' s' ∧ I (acc ++ g x) env' s') → I acc env s →
    ∃ env' s', forL f xs env s = .nx env' s' ∧ I (acc ++ xs.flatMap g) env' s'
  | [], acc, env, s, _, hI => ⟨env, s, rfl, by simpa using hI⟩
  | x :: r, acc, env, s, h, hI => by
    obtain ⟨env1, s1, h1, h2⟩ := h x (List.mem_cons_self ..) acc env s hI
    obtain ⟨env2, s2, k1, k2⟩ := forL_acc (fun y hy => h y (List.mem_cons_of_mem _ hy)) h2
    refine ⟨env2, s2, ?_, ?_⟩
    · unfold forL
      rw [h1]
      exact k1
    · rw [List.flatMap_cons, ← List.append_assoc]
      exact k2
theorem forL_inv {f : D → Env → Sto → SR} {I : Nat → Env → Sto → Prop} : ∀ {xs : List D} {j : Nat} {env : Env} {s : Sto}, (∀ (i : Nat) (x : D), xs[i]? = some x → ∀ env s, I (j + i) env s → ∃ env' s', f x env s = .nx env' s' ∧ I (j + i + 1) env' s') → I j env s →
    ∃ env' s', forL f xs env s = .nx env' s' ∧ I (j + xs.length) env' s'
  | [], j, env, s, _, hI => ⟨env, s, rfl, by simpa using hI⟩
  | x :: r, j, env, s, h, hI => by
    obtain ⟨env1, s1, h1, h2⟩ := h 0 x rfl env s hI
    obtain ⟨env2, s2, k1, k2⟩ := forL_inv (j := j + 1) (fun i y hy env s hi => by
      have := h (i + 1) y (by simpa using hy) env s (by rw [show j + (i + 1) = j + 1 + i by omega]; exact hi)
      rw [show j + (i + 1) = j + 1 + i by omega] at this
      exact this) h2
    refine ⟨env2, s2, ?_, ?_⟩
    · unfold forL
      rw [h1]
      exact k1
    · rw [List.length_cons, show j + (r.length + 1) = j + 1 + r.length by omega]
      exact k2
/-! ### defs -/
theorem run_at {F : List Fd} {k i : Nat} {f : Fd} {ds : List D} {s : Sto} (hF : F[i]? = some f) (hl : ds.length = f.par) : run F (k + 1) i ds s = endF f.keep s.length (evSs (run F k) f.body (ds.map some ++ List.replicate (f.slots - f.par) none) s) := by
  unfold run
  rw [hF]
  simp only
  rw [if_pos (by rw [hl]; exact Nat.beq_refl _)]
/-- a clean store -/
def Cl (s : Sto) : Prop := cleanS s.length s = true
theorem fz_ok' {s e : Sto} {d : D} (h : Cl s) (hd : clean s.length d = true) : fz s.length (s ++ e) d = .ok d s := by
  unfold fz
  rw [List.take_left, if_pos (show cleanS s.length s = true from h)]
  cases d with
  | loc m =>
    simp only
    rw [if_pos (show Nat.blt m s.length = true from hd)]
  | _ =>
    simp only
    rw [if_pos hd]
theorem fz_same {s : Sto} {d : D} (h : Cl s) (hd : clean s.length d = true) : fz s.length s d = .ok d s := by
  have := fz_ok' (e := []) h hd
  rwa [List.append_nil] at this
theorem fz_lst {s : Sto} {ds : List D} (h : Cl s) (hd : cleanL s.length ds = true) : fz s.length (s ++ [.lst ds]) (.loc s.length) = .ok (.lst ds) s := by
  unfold fz
  rw [List.take_left, if_pos (show cleanS s.length s = true from h)]
  simp only
  rw [if_neg (by simp [Nat.blt]), List.getElem?_append_right (Nat.le_refl _), Nat.sub_self]
  simp only [List.getElem?_cons_zero]
  rw [if_pos hd]
theorem clean_ints (n : Nat) : ∀ t : List Int, cleanL n (t.map D.int) = true
  | [] => rfl
  | _ :: r => clean_ints n r
theorem smL_ints : ∀ t : List Int, (∀ i ∈ t, i.natAbs < 400) → smL (t.map D.int) = true
  | [], _ => rfl
  | i :: r, h => by
    show (decide (i.natAbs < 400) && smL (r.map D.int)) = true
    rw [smL_ints r fun j hj => h j (List.mem_cons_of_mem _ hj), decide_eq_true (h i (List.mem_cons_self ..))]
    rfl
theorem bkL_ints : ∀ t : List Int, bkL (t.map D.int) = t.length
  | [] => rfl
  | i :: r => by
    show 0 + 1 + bkL (r.map D.int) = r.length + 1
    rw [bkL_ints r]
    omega
theorem dpL_ints : ∀ t : List Int, dpL (t.map D.int) = 0
  | [] => rfl
  | i :: r => by
    show max 0 (dpL (r.map D.int)) = 0
    rw [dpL_ints r]
    rfl
theorem sumD_ints : ∀ t : List Int, sumD (t.map D.int) = some t.sum
  | [] => rfl
  | i :: r => by
    show (sumD (r.map D.int)).map (i + ·) = _
    rw [sumD_ints r]
    rfl
theorem intsOf_ints : ∀ t : List Int, intsOf (t.map D.int) = some t
  | [] => rfl
  | i :: r => by
    show (intsOf (r.map D.int)).map (i :: ·) = _
    rw [intsOf_ints r]
    rfl
theorem ixN_nat {n j : Nat} (h : j < n) : L2.ixN n (j : Int) = some j := by
  unfold L2.ixN
  rw [if_pos (by omega), if_pos (by omega)]
  rfl
theorem ixD_ints {t : List Int} {j : Nat} (h : j < t.length) : ixD (t.map D.int) (j : Int) = some (.int (t.getD j 0)) := by
  unfold ixD
  rw [ixN_nat (by simpa using h)]
  simp [List.getElem?_map, List.getElem?_eq_getElem h, List.getD_eq_getElem?_getD]
end T5
namespace T5
open PySem
section
variable {α β : Type} {a : α} {s : Sto} {env : Env}
theorem ok_bind {f : α → Sto → R β} : (R.ok a s).bind f = f a s := id rfl
theorem ok_thn {f : α → Sto → SR} : (R.ok a s).thn env f = f a s := id rfl
theorem nx_seq {f : Env → Sto → SR} : (SR.nx env s).seq f = f env s := id rfl
theorem rt_seq {d : D} {f : Env → Sto → SR} : (SR.rt d s).seq f = SR.rt d s := id rfl
theorem ok_calm : (R.ok a s).calm = R.ok a s := id rfl
theorem lift_some : lift (some a) s = R.ok a s := id rfl
theorem get0 {x : D} {l : List D} : (x :: l)[0]? = some x := id rfl
theorem rd_int {i : Int} : rd s (.int i) = .int i := id rfl
theorem rd_bl {b : Bool} : rd s (.bl b) = .bl b := id rfl
theorem rd_tup {l : List D} : rd s (.tup l) = .tup l := id rfl
theorem rd_lst {l : List D} : rd s (.lst l) = .lst l := id rfl
theorem rd_rep {d : D} : rd s (.rep d) = .rep d := id rfl
theorem rd_scr {l : List D} : rd s (.scr l) = .scr l := id rfl
theorem seqO_lst {l : List D} : seqOf (.lst l) = some l := id rfl
theorem seqO_tup {l : List D} : seqOf (.tup l) = some l := id rfl
theorem setTg1 {i : Nat} {d : D} : setTg env [i] d = some (env.set i (some d)) := id rfl
theorem bAdd {i j : Int} : binD .add (.int i) (.int j) = some (.int (i + j)) := id rfl
theorem bSub {i j : Int} : binD .sub (.int i) (.int j) = some (.int (i - j)) := id rfl
theorem bMod {i j : Int} (h : 0 < j) : binD .mod (.int i) (.int j) = some (.int (i % j)) := by
  show (if decide (0 < j) = true then some (D.int (i % j)) else none) = _
  rw [decide_eq_true h]
  rfl
theorem bDiv {i j : Int} (h : 0 < j) (h2 : j < 1073741824) : binD .fdiv (.int i) (.int j) = some (.int (i / j)) := by
  show (if (decide (0 < j) && decide (j < 1073741824)) = true then some (D.int (i / j)) else none) = _
  rw [decide_eq_true h, decide_eq_true h2]
  rfl
theorem bMul {i j : Int} (h : -(2 ^ 64) < i ∧ i < 2 ^ 64 ∨ -(2 ^ 64) < j ∧ j < 2 ^ 64) : binD .mul (.int i) (.int j) = some (.int (i * j)) := by
  show (if (big64 i || big64 j) = true then some (D.int (i * j)) else none) = _
  unfold big64
  rcases h with ⟨h1, h2⟩ | ⟨h1, h2⟩
  · rw [decide_eq_true h1, decide_eq_true h2]
    rfl
  · rw [decide_eq_true h1, decide_eq_true h2]
    simp
theorem cLt {i j : Int} : cmpD .lt (.int i) (.int j) = some (decide (i < j)) := id rfl
theorem cLe {i j : Int} : cmpD .le (.int i) (.int j) = some (decide (i ≤ j)) := id rfl
theorem cGt {i j : Int} : cmpD .gt (.int i) (.int j) = some (decide (j < i)) := id rfl
theorem cGe {i j : Int} : cmpD .ge (.int i) (.int j) = some (decide (j ≤ i)) := id rfl
theorem cEq {i j : Int} : cmpD .eq (.int i) (.int j) = some (i == j) := id rfl
theorem cNe {i j : Int} : cmpD .ne (.int i) (.int j) = some (!(i == j)) := id rfl
theorem lenT {l : List D} : biD .len [.tup l] = some (.int l.length) := id rfl
theorem lenL {l : List D} : biD .len [.lst l] = some (.int l.length) := id rfl
theorem bInt {i : Int} : biD .int [.int i] = some (.int i) := id rfl
theorem getT {l : List D} {i : D} : T5.getD s (.tup l) i = idxD (.tup l) i := id rfl
theorem getLs {l : List D} {i : D} : T5.getD s (.lst l) i = idxD (.lst l) i := id rfl
theorem idT {l : List D} {i : Int} : idxD (.tup l) (.int i) = ixD l i := id rfl
theorem idL {l : List D} {i : Int} : idxD (.lst l) (.int i) = ixD l i := id rfl
theorem endRt {b : Bool} {n : Nat} {d : D} : endF b n (.rt d s) = if b then .ok d s else fz n s d := id rfl
theorem omap {x : α} {f : α → β} : Option.map f (some x) = some (f x) := id rfl
end
end T5
namespace T5
open PySem
theorem end_int {s : Sto} {i : Int} (h : Cl s) : endF false s.length (.rt (.int i) s) = .ok (.int i) s := fz_same (d := .int i) h rfl
theorem end_bl {s : Sto} {b : Bool} (h : Cl s) : endF false s.length (.rt (.bl b) s) = .ok (.bl b) s := fz_same (d := .bl b) h rfl
theorem end_ext {s e : Sto} {d : D} (h : Cl s) (hd : clean s.length d = true) : endF false s.length (.rt d (s ++ e)) = .ok d s := fz_ok' h hd
theorem end_sm {s : Sto} {d : D} (h : Cl s) (hd : clean s.length d = true) : endF false s.length (.rt d s) = .ok d s := fz_same h hd
end T5
namespace T5
open PySem
/-- a loop that gathers, no more than c a turn -/
theorem forL_gat {f : D → Env → Sto → SR} {g : D → List D} {I : List D → Env → Sto → Prop} {c M : Nat} : ∀ {xs acc : List D} {env : Env} {s : Sto}, (∀ x ∈ xs, ∀ acc env s, acc.length + c ≤ M → I acc env s → ∃ env' s', f x env s = .nx env' s' ∧ I (acc ++ g x) env' s') → (∀ x ∈ xs, (g x).length ≤ c) →
    acc.length + c * xs.length ≤ M → I acc env s → ∃ env' s', forL f xs env s = .nx env' s' ∧ I (acc ++ xs.flatMap g) env' s'
  | [], acc, env, s, _, _, _, hI => ⟨env, s, rfl, by simpa using hI⟩
  | x :: r, acc, env, s, h, hg, hl, hI => by
    have e : c * (x :: r).length = c * r.length + c := by rw [List.length_cons, Nat.mul_succ]
    rw [e] at hl
    obtain ⟨env1, s1, h1, h2⟩ := h x (List.mem_cons_self ..) acc env s (by omega) hI
    have := hg x (List.mem_cons_self ..)
    obtain ⟨env2, s2, k1, k2⟩ := forL_gat (fun y hy => h y (List.mem_cons_of_mem _ hy)) (fun y hy => hg y (List.mem_cons_of_mem _ hy)) (by rw [List.length_append]; omega) h2
    refine ⟨env2, s2, ?_, ?_⟩
    · unfold forL
      rw [h1]
      exact k1
    · rw [List.flatMap_cons, ← List.append_assoc]
      exact k2
mutual
theorem clean_mono {n m : Nat} (h : n ≤ m) : ∀ d : D, clean n d = true → clean m d = true
  | .non, _ => rfl
  | .bl _, _ => rfl
  | .int _, _ => rfl
  | .str _, _ => rfl
  | .rep d, e => clean_mono h d e
  | .tup ds, e => cleanL_mono h ds e
  | .lst ds, e => cleanL_mono h ds e
  | .scr ds, e => cleanL_mono h ds e
  | .kt ds, e => cleanL_mono h ds e
  | .loc k, e => by
    have : k < n := Nat.ble_eq.mp e
    exact Nat.ble_eq.mpr (by omega)
  | .fn _, _ => rfl
  | .ty _, _ => rfl
theorem cleanL_mono {n m : Nat} (h : n ≤ m) : ∀ ds : List D, cleanL n ds = true → cleanL m ds = true
  | [], _ => rfl
  | d :: r, e => by
    obtain ⟨e1, e2⟩ := Bool.and_eq_true_iff.mp (show (clean n d && cleanL n r) = true from e)
    show (clean m d && cleanL m r) = true
    rw [clean_mono h d e1, cleanL_mono h r e2]
    rfl
end
theorem cleanKv_mono {n m : Nat} (h : n ≤ m) : ∀ l : List (L2.Key × D), cleanKv n l = true → cleanKv m l = true
  | [], _ => rfl
  | p :: r, e => by
    obtain ⟨e1, e2⟩ := Bool.and_eq_true_iff.mp (show (clean n p.2 && cleanKv n r) = true from e)
    show (clean m p.2 && cleanKv m r) = true
    rw [clean_mono h _ e1, cleanKv_mono h r e2]
    rfl
theorem cleanO_mono {n m : Nat} (h : n ≤ m) : ∀ o : SO, cleanO n o = true → cleanO m o = true
  | .lst ds, e => cleanL_mono h ds e
  | .dic l, e => cleanKv_mono h l e
theorem cleanS_mono {n m : Nat} (h : n ≤ m) : ∀ l : List SO, cleanS n l = true → cleanS m l = true
  | [], _ => rfl
  | p :: r, e => by
    obtain ⟨e1, e2⟩ := Bool.and_eq_true_iff.mp (show (cleanO n p && cleanS n r) = true from e)
    show (cleanO m p && cleanS m r) = true
    rw [cleanO_mono h _ e1, cleanS_mono h r e2]
    rfl
theorem cleanS_app {n : Nat} : ∀ {a b : List SO}, cleanS n a = true → cleanS n b = true → cleanS n (a ++ b) = true
  | [], _, _, h => h
  | p :: r, b, e, h => by
    obtain ⟨e1, e2⟩ := Bool.and_eq_true_iff.mp (show (cleanO n p && cleanS n r) = true from e)
    show (cleanO n p && cleanS n (r ++ b)) = true
    rw [e1, cleanS_app e2 h]
    rfl
theorem Cl.lst {s : Sto} {ds : List D} (h : Cl s) (hd : cleanL s.length ds = true) : Cl (s ++ [.lst ds]) := by
  unfold Cl
  rw [List.length_append, List.length_singleton]
  refine cleanS_app (cleanS_mono (by omega) s h) ?_
  show (cleanL (s.length + 1) ds && true) = true
  rw [cleanL_mono (by omega) ds hd]
  rfl
theorem clean_prs (n : Nat) : ∀ ps : List (Int × Int), cleanL n (ps.map ofP) = true
  | [] => rfl
  | _ :: r => clean_prs n r
theorem get_end {s : Sto} {o : SO} : (s ++ [o])[s.length]? = some o := by
  rw [List.getElem?_append_right (Nat.le_refl _), Nat.sub_self]
  rfl
theorem isLL_end {s : Sto} {ds : List D} : isLL (s ++ [.lst ds]) (.loc s.length) = true := by
  unfold isLL
  simp only
  rw [get_end]
theorem rd_end {s : Sto} {ds : List D} : rd (s ++ [.lst ds]) (.loc s.length) = .lst ds := by
  unfold rd
  simp only
  rw [get_end]
theorem set_end {s : Sto} {o o' : SO} : (s ++ [o]).set s.length o' = s ++ [o'] := by
  induction s with
  | nil => rfl
  | cons a r ih => exact congrArg _ ih
theorem app_end {s : Sto} {ds : List D} {v : D} (h : ds.length < cap) : appD (s ++ [.lst ds]) (.loc s.length) v = some (s ++ [.lst (ds ++ [v])]) := by
  unfold appD
  simp only
  rw [get_end]
  simp only
  rw [if_pos (show Nat.blt ds.length cap = true from Nat.ble_eq.mpr h), set_end]
theorem rt_thn {α : Type} {env : Env} {s : Sto} {a : α} {f : α → Sto → SR} : (R.ok a s).thn env f = f a s := id rfl
theorem tupL {l : List D} : biD .tuple [.lst l] = some (.tup l) := id rfl
theorem par2 {env : Env} {i j : Nat} {a b : D} : setAll env [i, j] [a, b] = some ((env.set i (some a)).set j (some b)) := id rfl
theorem par3 {env : Env} {i j k : Nat} {a b c : D} : setAll env [i, j, k] [a, b, c] = some (((env.set i (some a)).set j (some b)).set k (some c)) := id rfl
end T5
namespace T5
theorem cap0 : Nat.ble 0 cap = true := Nat.ble_eq.mpr (by unfold cap; omega)
theorem cap1 : Nat.ble 1 cap = true := Nat.ble_eq.mpr (by unfold cap; omega)
theorem cap2 : Nat.ble 2 cap = true := Nat.ble_eq.mpr (by unfold cap; omega)
theorem cap3 : Nat.ble 3 cap = true := Nat.ble_eq.mpr (by unfold cap; omega)
end T5

set_option Elab.async false
set_option linter.all false
set_option maxRecDepth 100000
set_option maxHeartbeats 2000000
/-! T5: the laws' feed. -/
namespace T5
open PySem
theorem toPs_ints : ∀ t : List Int, toPs (t.map D.int) = some (t.map PyData.int)
  | [] => rfl
  | i :: r => by
    show ((toP (.int i)).bind fun p => (toPs (r.map D.int)).map fun ps => p :: ps) = _
    rw [toPs_ints r]
    rfl
theorem lay_ints : ∀ t : List Int, PyData.canLayAll0 (t.map PyData.int) = true
  | [] => rfl
  | i :: r => by
    show (true && PyData.canLayAll0 (r.map PyData.int)) = true
    rw [lay_ints r]
    rfl
theorem dep_ints : ∀ t : List Int, PyData.depthAll (t.map PyData.int) = 0
  | [] => rfl
  | i :: r => by
    show max 0 (PyData.depthAll (r.map PyData.int)) = 0
    rw [dep_ints r]
    rfl
theorem eqq_nilI (t : List Int) : eqq (.lst (t.map .int)) (.lst []) = some t.isEmpty := by
  show ((toP (.lst (t.map .int))).bind fun p => (toP (.lst [])).bind fun q => if (SeqAt.shaped p && SeqAt.shaped q) = true then some (PyData.eqv p q) else none) = _
  have e : toP (.lst (t.map .int)) = some (.list (t.map PyData.int)) := by
    show (toPs (t.map .int)).map PyData.list = _
    rw [toPs_ints]
    rfl
  have es : SeqAt.shaped (.list (t.map PyData.int)) = true := by
    unfold SeqAt.shaped
    show (PyData.canLayAll0 (t.map PyData.int) && decide (PyData.depthAll (t.map PyData.int) + 1 ≤ 64)) = true
    rw [lay_ints, dep_ints]
    rfl
  rw [e]
  show (if (SeqAt.shaped (.list (t.map PyData.int)) && SeqAt.shaped (.list [])) = true then some (PyData.eqv (.list (t.map PyData.int)) (.list [])) else none) = _
  rw [es, show SeqAt.shaped (.list []) = true from rfl]
  cases t <;> rfl
theorem neNil (t : List Int) : cmpD .ne (.lst (t.map .int)) (.lst []) = some (!t.isEmpty) := by
  show (eqq (.lst (t.map .int)) (.lst [])).map (! ·) = _
  rw [eqq_nilI]
  rfl
/-- the feed: cells, at, left, count -/
def fe (cells : List Int) (a l c : Int) : SO := .dic [(.inr "cells", .lst (cells.map .int)), (.inr "at", .int a), (.inr "left", .int l), (.inr "count", .int c)]
theorem k1 : decide ((Sum.inr ("cells" : Str) : L2.Key) = Sum.inr ("at" : Str)) = false := by decide +kernel
theorem k2 : decide ((Sum.inr ("cells" : Str) : L2.Key) = Sum.inr ("left" : Str)) = false := by decide +kernel
theorem k3 : decide ((Sum.inr ("cells" : Str) : L2.Key) = Sum.inr ("count" : Str)) = false := by decide +kernel
theorem k4 : decide ((Sum.inr ("at" : Str) : L2.Key) = Sum.inr ("left" : Str)) = false := by decide +kernel
theorem k5 : decide ((Sum.inr ("at" : Str) : L2.Key) = Sum.inr ("count" : Str)) = false := by decide +kernel
theorem k6 : decide ((Sum.inr ("left" : Str) : L2.Key) = Sum.inr ("count" : Str)) = false := by decide +kernel
theorem k7 {x : L2.Key} : decide (x = x) = true := decide_eq_true rfl
section
variable {cells : List Int} {a l c v : Int} {r : Sto}
theorem fe_cells : T5.getD (fe cells a l c :: r) (.loc 0) (.str "cells") = some (.lst (cells.map .int)) := by
  show look (Sum.inr ("cells" : Str)) [(.inr "cells", .lst (cells.map .int)), (.inr "at", .int a), (.inr "left", .int l), (.inr "count", .int c)] = _
  simp only [look, k7, decide_true, if_true]
theorem fe_at : T5.getD (fe cells a l c :: r) (.loc 0) (.str "at") = some (.int a) := by
  show look (Sum.inr ("at" : Str)) [(.inr "cells", .lst (cells.map .int)), (.inr "at", .int a), (.inr "left", .int l), (.inr "count", .int c)] = _
  simp only [look, k1, k7, decide_true, if_true, Bool.false_eq_true, if_false]
theorem fe_left : T5.getD (fe cells a l c :: r) (.loc 0) (.str "left") = some (.int l) := by
  show look (Sum.inr ("left" : Str)) [(.inr "cells", .lst (cells.map .int)), (.inr "at", .int a), (.inr "left", .int l), (.inr "count", .int c)] = _
  simp only [look, k2, k4, k7, decide_true, if_true, Bool.false_eq_true, if_false]
theorem fe_count : T5.getD (fe cells a l c :: r) (.loc 0) (.str "count") = some (.int c) := by
  show look (Sum.inr ("count" : Str)) [(.inr "cells", .lst (cells.map .int)), (.inr "at", .int a), (.inr "left", .int l), (.inr "count", .int c)] = _
  simp only [look, k3, k5, k6, k7, decide_true, if_true, Bool.false_eq_true, if_false]
theorem four : Nat.blt 4 cap = true := Nat.ble_eq.mpr (by unfold cap; omega)
theorem set_at : T5.setD (fe cells a l c :: r) (.loc 0) (.str "at") (.int v) = some (fe cells v l c :: r) := by
  show (if Nat.blt 4 cap = true then some ((fe cells a l c :: r).set 0 (.dic (put (Sum.inr ("at" : Str)) (.int v) [(.inr "cells", .lst (cells.map .int)), (.inr "at", .int a), (.inr "left", .int l), (.inr "count", .int c)]))) else none) = _
  rw [if_pos four]
  simp only [put, k1, k7, decide_true, if_true, Bool.false_eq_true, if_false]
  rfl
theorem set_left : T5.setD (fe cells a l c :: r) (.loc 0) (.str "left") (.int v) = some (fe cells a v c :: r) := by
  show (if Nat.blt 4 cap = true then some ((fe cells a l c :: r).set 0 (.dic (put (Sum.inr ("left" : Str)) (.int v) [(.inr "cells", .lst (cells.map .int)), (.inr "at", .int a), (.inr "left", .int l), (.inr "count", .int c)]))) else none) = _
  rw [if_pos four]
  simp only [put, k2, k4, k7, decide_true, if_true, Bool.false_eq_true, if_false]
  rfl
theorem set_count : T5.setD (fe cells a l c :: r) (.loc 0) (.str "count") (.int v) = some (fe cells a l v :: r) := by
  show (if Nat.blt 4 cap = true then some ((fe cells a l c :: r).set 0 (.dic (put (Sum.inr ("count" : Str)) (.int v) [(.inr "cells", .lst (cells.map .int)), (.inr "at", .int a), (.inr "left", .int l), (.inr "count", .int c)]))) else none) = _
  rw [if_pos four]
  simp only [put, k3, k5, k6, k7, decide_true, if_true, Bool.false_eq_true, if_false]
  rfl
theorem cl_fe (h : cleanS (r.length + 1) r = true) : Cl (fe cells a l c :: r) := by
  unfold Cl
  show ((cleanL (r.length + 1) (cells.map .int) && true) && cleanS (r.length + 1) r) = true
  rw [clean_ints, h]
  rfl
theorem fe_new {xs : List Int} : List.foldl (fun m (p : L2.Key × D) => put p.1 p.2 m) [] (([Sum.inr ("cells" : Str), Sum.inr ("at" : Str), Sum.inr ("left" : Str), Sum.inr ("count" : Str)] : List L2.Key).zip [D.lst (xs.map .int), .int 0, .int 0, .int 0]) = [(.inr "cells", .lst (xs.map .int)), (.inr "at", .int 0), (.inr "left", .int 0), (.inr "count", .int 0)] := by
  simp only [List.zip_cons_cons, List.zip_nil_right, List.foldl_cons, List.foldl_nil, put, k1, k2, k3, k4, k5, k6, Bool.false_eq_true, if_false]
end
theorem pow18 : binD .pow (.int 10) (.int 18) = some (.int 1000000000000000000) := by
  show (if (decide ((0 : Int) ≤ 18) && decide ((18 : Int) ≤ 1000000) && big64 10) = true then some (D.int (10 ^ (18 : Int).toNat)) else none) = _
  rw [if_pos (by decide +kernel)]
  rfl
theorem cut_ints (t : List Int) (lo hi : Option Int) : ∃ u : List Int, cutD (t.map .int) lo hi = u.map .int := by
  unfold cutD
  rw [← List.map_drop, ← List.map_take]
  exact ⟨_, rfl⟩
end T5

set_option Elab.async false
set_option linter.all false
set_option maxRecDepth 100000
set_option maxHeartbeats 2000000
/-! T5: the laws' feed, lists drawn of it. -/
namespace T5
open PySem
/-- the def i draws -/
def Dr (cl : Calls) (i : Nat) (u : List Int) : Prop := ∀ (a l c m : Int) (r : Sto), 0 < m → m < 1073741824 → cleanS (r.length + 1) r = true → ∃ v a' l' c', 0 ≤ v ∧ v < m ∧ cl i [.loc 0, .int m] (fe u a l c :: r) = .ok (.int v) (fe u a' l' c' :: r)
theorem ints_of {P : Int → Prop} : ∀ {ds : List D}, (∀ d ∈ ds, ∃ i, d = .int i ∧ P i) → ∃ t : List Int, ds = t.map .int ∧ ∀ i ∈ t, P i
  | [], _ => ⟨[], rfl, fun i h => by cases h⟩
  | d :: r, h => by
    obtain ⟨i, rfl, hi⟩ := h d (List.mem_cons_self ..)
    obtain ⟨t, rfl, ht⟩ := ints_of fun e he => h e (List.mem_cons_of_mem _ he)
    refine ⟨i :: t, rfl, fun j hj => ?_⟩
    rcases List.mem_cons.mp hj with rfl | hj
    · exact hi
    · exact ht j hj
theorem range_ints (n : Nat) : rangeD 0 n = ((List.range n).map fun (i : Nat) => (i : Int)).map D.int := by
  unfold rangeD
  rw [List.map_map]
  simp only [Int.zero_add]
  rfl
section
variable {x : SO} {r : Sto} {ds : List D} {v : D}
theorem get_fe : (x :: (r ++ [.lst ds]))[r.length + 1]? = some (.lst ds) := by
  rw [List.getElem?_cons_succ]
  exact get_end
theorem isLL_fe : isLL (x :: (r ++ [.lst ds])) (.loc (r.length + 1)) = true := by
  unfold isLL
  simp only
  rw [get_fe]
theorem rd_fe : rd (x :: (r ++ [.lst ds])) (.loc (r.length + 1)) = .lst ds := by
  unfold rd
  simp only
  rw [get_fe]
theorem app_fe (h : ds.length < cap) : appD (x :: (r ++ [.lst ds])) (.loc (r.length + 1)) v = some (x :: (r ++ [.lst (ds ++ [v])])) := by
  unfold appD
  simp only
  rw [get_fe]
  simp only
  rw [if_pos (show Nat.blt ds.length cap = true from Nat.ble_eq.mpr h), List.set_cons_succ, set_end]
theorem clean_fe (h : cleanS (r.length + 1) r = true) (hd : ∀ n, cleanL n ds = true) : cleanS ((r ++ [SO.lst ds]).length + 1) (r ++ [SO.lst ds]) = true := by
  rw [List.length_append, List.length_singleton]
  refine cleanS_app (cleanS_mono (by omega) r h) ?_
  show (cleanL (r.length + 1 + 1) ds && true) = true
  rw [hd]
  rfl
theorem end_fe (h : cleanS (r.length + 1) r = true) (hc : Cl (x :: r)) (hd : ∀ n, cleanL n ds = true) : endF false (r.length + 1) (.rt (.loc (r.length + 1)) (x :: (r ++ [.lst ds]))) = .ok (.lst ds) (x :: r) := fz_lst (s := x :: r) hc (hd _)
end
theorem cut_take {w : List Int} {v : Nat} (h : v ≤ w.length) : cutD (w.map .int) none (some (v : Int)) = (w.take v).map .int := by
  unfold cutD
  rw [HT.sIx_nat, List.length_map, Nat.min_eq_left h]
  simp [HT.sIx]
theorem cut_drop {w : List Int} {v : Nat} (h : v ≤ w.length) : cutD (w.map .int) (some (v : Int)) none = (w.drop v).map .int := by
  unfold cutD
  rw [HT.sIx_nat, List.length_map, Nat.min_eq_left h]
  simp only [HT.sIx]
  rw [← List.map_drop, List.take_of_length_le (by simp)]
theorem setTg2 {env : Env} {i j : Nat} {a b : D} : setTg env [i, j] (.tup [a, b]) = some ((env.set i (some a)).set j (some b)) := id rfl
theorem addL {a b : List D} (h : a.length + b.length ≤ cap) : binD .add (.lst a) (.lst b) = some (.lst (a ++ b)) := by
  show (if Nat.ble (a.length + b.length) cap = true then some (D.lst (a ++ b)) else none) = _
  rw [if_pos (Nat.ble_eq.mpr h)]
theorem partN : partD .non = some none := id rfl
theorem partI {i : Int} : partD (.int i) = some (some i) := id rfl
theorem slcL {l h : Option Int} {ds : List D} : slcD l h (.lst ds) = some (.lst (cutD ds l h)) := id rfl
theorem cleanI (t : List Int) (n : Nat) : cleanL n (t.map .int) = true := clean_ints n t
end T5

set_option Elab.async false
set_option linter.all false
set_option maxRecDepth 100000
set_option maxHeartbeats 4000000
namespace K15
open T5 PySem
/-! ### ranks -/
def inn (t : List Int) (b L : Nat) : List Nat := (List.range L).filter fun k => decide ((k : Int) + t.getD ((b + k) % t.length) 0 < (L : Int))
def rk (t : List Int) (b L : Nat) : Int := (L : Int) - ((inn t b L).length : Int)
theorem okR_nat {n : Nat} (h : n ≤ 1000) : okR (n : Int) = true := by
  unfold okR
  rw [decide_eq_true (by omega), decide_eq_true (by omega)]
  rfl
def selI (p : Nat → Bool) (x : D) : Option D :=
  match x with
  | .int i => if p i.toNat then some x else none
  | _ => none
theorem filt_eq (p : Nat → Bool) (L : Nat) : (rangeD 0 L).filterMap (selI p) = ((List.range L).filter p).map fun (k : Nat) => D.int k := by
  unfold rangeD
  simp only [Int.zero_add]
  rw [List.filterMap_map]
  induction List.range L with
  | nil => rfl
  | cons a r ih =>
    rw [List.filterMap_cons, List.filter_cons]
    by_cases hp : p a = true
    · have e : (selI p ∘ fun (i : Nat) => D.int i) a = some (.int a) := by simp [Function.comp, selI, hp]
      rw [e, if_pos hp, List.map_cons]
      exact congrArg _ ih
    · have e : (selI p ∘ fun (i : Nat) => D.int i) a = none := by simp [Function.comp, selI, hp]
      rw [e, if_neg hp]
      exact ih
theorem mem_range {lo : Int} {n : Nat} {x : D} (h : x ∈ rangeD lo n) : ∃ i : Nat, i < n ∧ x = .int (lo + i) := by
  unfold rangeD at h
  obtain ⟨i, hi, rfl⟩ := List.mem_map.mp h
  exact ⟨i, List.mem_range.mp hi, rfl⟩
theorem len_range {lo : Int} {n : Nat} : (rangeD lo n).length = n := by
  unfold rangeD
  simp
theorem modc {b i n : Nat} : ((b : Int) + (i : Int)) % (n : Int) = (((b + i) % n : Nat) : Int) := by simp
theorem e6 {k : Nat} {t : List Int} {b L : Nat} {s : Sto} (ht : 0 < t.length) (hL : L ≤ 1000) (hs : Cl s) : run F (k + 1) 6 [.tup (t.map .int), .int b, .int L] s = .ok (.int (rk t b L)) s := by
  have hm : ∀ i, binD .mod (.int i) (.int (t.length : Int)) = some (.int (i % (t.length : Int))) := fun i => bMod (by omega)
  rw [run_at F6 rfl]
  simp only [f6, c6_0, evSs, evS, evE, evEs, ok_bind, ok_thn, nx_seq, rt_seq, ok_calm, lift_some, rd_int, rd_bl, rd_tup, rd_lst, rd_rep, rd_scr, seqO_lst, seqO_tup, setTg1, bAdd, bSub, cLt, cLe, cGt, cGe, cEq, cNe, lenT, lenL, bInt, getT, getLs, idT, idL, omap, List.map_cons, List.map_nil, List.replicate, List.cons_append, List.nil_append, List.append_nil, List.getElem?_cons_zero, List.getElem?_cons_succ, List.set_cons_zero, List.set_cons_succ, List.length_map, List.length_cons, List.length_nil, wipeE, if_true, arr, Option.bind_some, List.reverse_nil, tupL, par2, par3, Nat.zero_add, Nat.reduceAdd, cap0, cap1, cap2, cap3, okR_nat hL, Int.toNat_natCast]
  rw [lcL_pure (g := selI fun i => decide ((i : Int) + t.getD ((b + i) % t.length) 0 < (L : Int)))]
  · rw [filt_eq]
    simp only [evSs, evS, evE, evEs, ok_bind, ok_thn, nx_seq, rt_seq, ok_calm, lift_some, rd_int, rd_bl, rd_tup, rd_lst, rd_rep, rd_scr, seqO_lst, seqO_tup, setTg1, bAdd, bSub, cLt, cLe, cGt, cGe, cEq, cNe, lenT, lenL, bInt, getT, getLs, idT, idL, omap, List.map_cons, List.map_nil, List.replicate, List.cons_append, List.nil_append, List.append_nil, List.getElem?_cons_zero, List.getElem?_cons_succ, List.set_cons_zero, List.set_cons_succ, List.length_map, List.length_cons, List.length_nil, wipeE, if_true, arr, Option.bind_some, List.reverse_nil, tupL, par2, par3, Nat.zero_add, Nat.reduceAdd, cap0, cap1, cap2, cap3]
    exact end_int hs
  · intro x hx
    obtain ⟨i, hi, rfl⟩ := mem_range hx
    simp only [evSs, evS, evE, evEs, ok_bind, ok_thn, nx_seq, rt_seq, ok_calm, lift_some, rd_int, rd_bl, rd_tup, rd_lst, rd_rep, rd_scr, seqO_lst, seqO_tup, setTg1, bAdd, bSub, cLt, cLe, cGt, cGe, cEq, cNe, lenT, lenL, bInt, getT, getLs, idT, idL, omap, List.map_cons, List.map_nil, List.replicate, List.cons_append, List.nil_append, List.append_nil, List.getElem?_cons_zero, List.getElem?_cons_succ, List.set_cons_zero, List.set_cons_succ, List.length_map, List.length_cons, List.length_nil, wipeE, if_true, arr, Option.bind_some, List.reverse_nil, tupL, par2, par3, Nat.zero_add, Nat.reduceAdd, cap0, cap1, cap2, cap3, Int.zero_add, hm, modc, ixD_ints (Nat.mod_lt _ ht), selI, Int.toNat_natCast]
    by_cases hp : (i : Int) + t.getD ((b + i) % t.length) 0 < (L : Int)
    · simp only [decide_eq_true hp, ok_bind, if_true]
    · simp only [decide_eq_false hp]
      rfl
  · rw [len_range]
    simp only [List.length_nil, cap]
    omega
theorem e7 {k : Nat} {t : List Int} {b L : Nat} {s : Sto} (ht : 0 < t.length) (hL : L ≤ 1000) (hs : Cl s) : run F (k + 2) 7 [.tup (t.map .int), .int b, .int L] s = .ok (.bl (rk t b L == (L : Int))) s := by
  rw [run_at F7 rfl]
  simp only [f7, evSs, evS, evE, evEs, ok_bind, ok_thn, nx_seq, rt_seq, ok_calm, lift_some, rd_int, rd_bl, rd_tup, rd_lst, rd_rep, rd_scr, seqO_lst, seqO_tup, setTg1, bAdd, bSub, cLt, cLe, cGt, cGe, cEq, cNe, lenT, lenL, bInt, getT, getLs, idT, idL, omap, List.map_cons, List.map_nil, List.replicate, List.cons_append, List.nil_append, List.append_nil, List.getElem?_cons_zero, List.getElem?_cons_succ, List.set_cons_zero, List.set_cons_succ, List.length_map, List.length_cons, List.length_nil, wipeE, if_true, arr, Option.bind_some, List.reverse_nil, tupL, par2, par3, Nat.zero_add, Nat.reduceAdd, cap0, cap1, cap2, cap3, e6 ht hL hs]
  exact end_bl hs
theorem e18 {k : Nat} {t : List Int} {b L i : Nat} {s : Sto} (ht : 0 < t.length) (hs : Cl s) : run F (k + 1) 18 [.tup (t.map .int), .int b, .int L, .int i] s = .ok (.bl (decide ((i : Int) + t.getD ((b + i) % t.length) 0 < (L : Int)))) s := by
  have hm : ∀ i, binD .mod (.int i) (.int (t.length : Int)) = some (.int (i % (t.length : Int))) := fun i => bMod (by omega)
  rw [run_at F18 rfl]
  simp only [f18, evSs, evS, evE, evEs, ok_bind, ok_thn, nx_seq, rt_seq, ok_calm, lift_some, rd_int, rd_bl, rd_tup, rd_lst, rd_rep, rd_scr, seqO_lst, seqO_tup, setTg1, bAdd, bSub, cLt, cLe, cGt, cGe, cEq, cNe, lenT, lenL, bInt, getT, getLs, idT, idL, omap, List.map_cons, List.map_nil, List.replicate, List.cons_append, List.nil_append, List.append_nil, List.getElem?_cons_zero, List.getElem?_cons_succ, List.set_cons_zero, List.set_cons_succ, List.length_map, List.length_cons, List.length_nil, wipeE, if_true, arr, Option.bind_some, List.reverse_nil, tupL, par2, par3, Nat.zero_add, Nat.reduceAdd, cap0, cap1, cap2, cap3, hm, modc, ixD_ints (Nat.mod_lt _ ht)]
  exact end_bl hs
theorem e19 {k : Nat} {t : List Int} {b L : Nat} {s : Sto} (ht : 0 < t.length) (hL : L ≤ 1000) (hs : Cl s) : run F (k + 2) 19 [.tup (t.map .int), .int b, .int L] s = .ok (.int (rk t b L)) s := by
  rw [run_at F19 rfl]
  simp only [f19, c19_0, evSs, evS, evE, evEs, ok_bind, ok_thn, nx_seq, rt_seq, ok_calm, lift_some, rd_int, rd_bl, rd_tup, rd_lst, rd_rep, rd_scr, seqO_lst, seqO_tup, setTg1, bAdd, bSub, cLt, cLe, cGt, cGe, cEq, cNe, lenT, lenL, bInt, getT, getLs, idT, idL, omap, List.map_cons, List.map_nil, List.replicate, List.cons_append, List.nil_append, List.append_nil, List.getElem?_cons_zero, List.getElem?_cons_succ, List.set_cons_zero, List.set_cons_succ, List.length_map, List.length_cons, List.length_nil, wipeE, if_true, arr, Option.bind_some, List.reverse_nil, tupL, par2, par3, Nat.zero_add, Nat.reduceAdd, cap0, cap1, cap2, cap3, okR_nat hL, Int.toNat_natCast]
  rw [lcL_pure (g := selI fun i => decide ((i : Int) + t.getD ((b + i) % t.length) 0 < (L : Int)))]
  · rw [filt_eq]
    simp only [evSs, evS, evE, evEs, ok_bind, ok_thn, nx_seq, rt_seq, ok_calm, lift_some, rd_int, rd_bl, rd_tup, rd_lst, rd_rep, rd_scr, seqO_lst, seqO_tup, setTg1, bAdd, bSub, cLt, cLe, cGt, cGe, cEq, cNe, lenT, lenL, bInt, getT, getLs, idT, idL, omap, List.map_cons, List.map_nil, List.replicate, List.cons_append, List.nil_append, List.append_nil, List.getElem?_cons_zero, List.getElem?_cons_succ, List.set_cons_zero, List.set_cons_succ, List.length_map, List.length_cons, List.length_nil, wipeE, if_true, arr, Option.bind_some, List.reverse_nil, tupL, par2, par3, Nat.zero_add, Nat.reduceAdd, cap0, cap1, cap2, cap3]
    exact end_int hs
  · intro x hx
    obtain ⟨i, hi, rfl⟩ := mem_range hx
    simp only [evSs, evS, evE, evEs, ok_bind, ok_thn, nx_seq, rt_seq, ok_calm, lift_some, rd_int, rd_bl, rd_tup, rd_lst, rd_rep, rd_scr, seqO_lst, seqO_tup, setTg1, bAdd, bSub, cLt, cLe, cGt, cGe, cEq, cNe, lenT, lenL, bInt, getT, getLs, idT, idL, omap, List.map_cons, List.map_nil, List.replicate, List.cons_append, List.nil_append, List.append_nil, List.getElem?_cons_zero, List.getElem?_cons_succ, List.set_cons_zero, List.set_cons_succ, List.length_map, List.length_cons, List.length_nil, wipeE, if_true, arr, Option.bind_some, List.reverse_nil, tupL, par2, par3, Nat.zero_add, Nat.reduceAdd, cap0, cap1, cap2, cap3, Int.zero_add, e18 ht hs, selI, Int.toNat_natCast]
    by_cases hp : (i : Int) + t.getD ((b + i) % t.length) 0 < (L : Int)
    · simp only [decide_eq_true hp, ok_bind, if_true]
    · simp only [decide_eq_false hp]
      rfl
  · rw [len_range]
    simp only [List.length_nil, cap]
    omega
def fr (t : List Int) (b L : Nat) : Bool := (inn t b L).isEmpty
theorem rk_fr (t : List Int) (b L : Nat) : (rk t b L == (L : Int)) = fr t b L := by
  unfold rk fr
  cases h : inn t b L with
  | nil => simp
  | cons a r =>
    simp only [List.length_cons, List.isEmpty_cons]
    rw [beq_eq_false_iff_ne]
    omega
theorem e20 {k : Nat} {t : List Int} {b L : Nat} {s : Sto} (ht : 0 < t.length) (hL : L ≤ 100) (hs : Cl s) : run F (k + 2) 20 [.tup (t.map .int), .int b, .int L] s = .ok (.bl (fr t b L)) s := by
  rw [run_at F20 rfl]
  simp only [f20, c20_0, evSs, evS, evE, evEs, ok_bind, ok_thn, nx_seq, rt_seq, ok_calm, lift_some, rd_int, rd_bl, rd_tup, rd_lst, rd_rep, rd_scr, seqO_lst, seqO_tup, setTg1, bAdd, bSub, cLt, cLe, cGt, cGe, cEq, cNe, lenT, lenL, bInt, getT, getLs, idT, idL, omap, List.map_cons, List.map_nil, List.replicate, List.cons_append, List.nil_append, List.append_nil, List.getElem?_cons_zero, List.getElem?_cons_succ, List.set_cons_zero, List.set_cons_succ, List.length_map, List.length_cons, List.length_nil, wipeE, if_true, arr, Option.bind_some, List.reverse_nil, tupL, par2, par3, Nat.zero_add, Nat.reduceAdd, cap0, cap1, cap2, cap3, okR_nat (show L ≤ 1000 by omega), Int.toNat_natCast]
  rw [lcL_pure (g := selI fun i => decide ((i : Int) + t.getD ((b + i) % t.length) 0 < (L : Int)))]
  · rw [filt_eq]
    have e : (List.filter (fun (i : Nat) => decide ((i : Int) + t.getD ((b + i) % t.length) 0 < (L : Int))) (List.range L)).map (fun (k : Nat) => D.int k) = ((inn t b L).map fun (k : Nat) => (k : Int)).map D.int := by
      unfold inn
      rw [List.map_map]
      rfl
    have hc : cmpD .eq (.lst (((inn t b L).map fun (k : Nat) => (k : Int)).map D.int)) (.lst []) = some (fr t b L) := by
      show eqq (.lst (((inn t b L).map fun (k : Nat) => (k : Int)).map D.int)) (.lst []) = _
      rw [eqq_nil (smL_ints _ fun i hi => ?_) (by rw [dpL_ints]; omega)]
      · unfold fr
        cases inn t b L <;> rfl
      · obtain ⟨k, hk, rfl⟩ := List.mem_map.mp hi
        unfold inn at hk
        have := List.mem_range.mp (List.mem_filter.mp hk).1
        omega
    rw [e]
    simp only [evSs, evS, evE, evEs, ok_bind, ok_thn, nx_seq, rt_seq, ok_calm, lift_some, rd_int, rd_bl, rd_tup, rd_lst, rd_rep, rd_scr, seqO_lst, seqO_tup, setTg1, bAdd, bSub, cLt, cLe, cGt, cGe, cEq, cNe, lenT, lenL, bInt, getT, getLs, idT, idL, omap, List.map_cons, List.map_nil, List.replicate, List.cons_append, List.nil_append, List.append_nil, List.getElem?_cons_zero, List.getElem?_cons_succ, List.set_cons_zero, List.set_cons_succ, List.length_map, List.length_cons, List.length_nil, wipeE, if_true, arr, Option.bind_some, List.reverse_nil, tupL, par2, par3, Nat.zero_add, Nat.reduceAdd, cap0, cap1, cap2, cap3, hc]
    exact end_bl hs
  · intro x hx
    obtain ⟨i, hi, rfl⟩ := mem_range hx
    simp only [evSs, evS, evE, evEs, ok_bind, ok_thn, nx_seq, rt_seq, ok_calm, lift_some, rd_int, rd_bl, rd_tup, rd_lst, rd_rep, rd_scr, seqO_lst, seqO_tup, setTg1, bAdd, bSub, cLt, cLe, cGt, cGe, cEq, cNe, lenT, lenL, bInt, getT, getLs, idT, idL, omap, List.map_cons, List.map_nil, List.replicate, List.cons_append, List.nil_append, List.append_nil, List.getElem?_cons_zero, List.getElem?_cons_succ, List.set_cons_zero, List.set_cons_succ, List.length_map, List.length_cons, List.length_nil, wipeE, if_true, arr, Option.bind_some, List.reverse_nil, tupL, par2, par3, Nat.zero_add, Nat.reduceAdd, cap0, cap1, cap2, cap3, Int.zero_add, e18 ht hs, selI, Int.toNat_natCast]
    by_cases hp : (i : Int) + t.getD ((b + i) % t.length) 0 < (L : Int)
    · simp only [decide_eq_true hp, ok_bind, if_true]
    · simp only [decide_eq_false hp]
      rfl
  · rw [len_range]
    simp only [List.length_nil, cap]
    omega
end K15

set_option Elab.async false
set_option linter.all false
set_option maxRecDepth 100000
set_option maxHeartbeats 4000000
namespace K15
open T5 PySem
/-! ### free stretches -/
def bef (b n : Nat) : Nat := (b + (n - 1)) % n
def cF (t : List Int) (b L : Nat) : Bool := fr t b L && ((L == t.length) || (!fr t b (L + 1) && !fr t (bef b t.length) (L + 1)))
def gF (t : List Int) (b : Nat) (x : D) : List D :=
  match x with
  | .int i => if cF t b i.toNat then [.tup [.int b, .int i]] else []
  | _ => []
def hF (t : List Int) (x : D) : List D :=
  match x with
  | .int i => (rangeD 1 t.length).flatMap (gF t i.toNat)
  | _ => []
def frees (t : List Int) : List D := (rangeD 0 t.length).flatMap (hF t)
theorem bef_eq {b n : Nat} (h : 0 < n) : ((b : Int) - 1) % (n : Int) = ((bef b n : Nat) : Int) := by
  unfold bef
  rw [Int.natCast_emod, ← Int.add_emod_right]
  congr 1
  omega
theorem s1 {L : Nat} : (L : Int) + 1 = ((L + 1 : Nat) : Int) := rfl
theorem clean_acc {n : Nat} {acc : List D} (h : ∃ ps : List (Int × Int), acc = ps.map ofP) : cleanL n acc = true := by
  obtain ⟨ps, rfl⟩ := h
  exact clean_prs n ps
theorem i8 {cl : Calls} {t : List Int} {b L : Nat} {s : Sto} {acc : List D} {c : Option D} (ht : 0 < t.length) (hn : t.length ≤ 20) (hL : L ≤ t.length) (ha : acc.length < cap)
    (h7 : ∀ b' L', L' ≤ 1000 → cl 7 [.tup (t.map .int), .int (b' : Nat), .int (L' : Nat)] (s ++ [.lst acc]) = .ok (.bl (fr t b' L')) (s ++ [.lst acc])) :
    ∃ c', evSs cl l8_0 [some (.tup (t.map .int)), some (.int b), some (.int t.length), some (.loc s.length), some (.int L), c] (s ++ [.lst acc]) = .nx [some (.tup (t.map .int)), some (.int b), some (.int t.length), some (.loc s.length), some (.int L), c'] (s ++ [.lst (acc ++ if cF t b L then [.tup [.int b, .int L]] else [])]) := by
  have hm : ∀ i, binD .mod (.int i) (.int (t.length : Int)) = some (.int (i % (t.length : Int))) := fun i => bMod (by omega)
  have hb := bef_eq (b := b) ht
  unfold l8_0
  simp only [evSs, evS, evE, evEs, ok_bind, ok_thn, nx_seq, rt_seq, ok_calm, lift_some, rd_int, rd_bl, rd_tup, rd_lst, rd_rep, rd_scr, seqO_lst, seqO_tup, setTg1, bAdd, bSub, cLt, cLe, cGt, cGe, cEq, cNe, lenT, lenL, bInt, getT, getLs, idT, idL, omap, List.map_cons, List.map_nil, List.replicate, List.cons_append, List.nil_append, List.append_nil, List.getElem?_cons_zero, List.getElem?_cons_succ, List.set_cons_zero, List.set_cons_succ, List.length_map, List.length_cons, List.length_nil, wipeE, if_true, arr, Option.bind_some, List.reverse_nil, tupL, par2, par3, Nat.zero_add, Nat.reduceAdd, cap0, cap1, cap2, cap3, h7 b L (by omega)]
  unfold cF
  cases hA : fr t b L
  · exact ⟨c, by simp [nx_seq]⟩
  · by_cases hB : L = t.length
    · refine ⟨some (.bl false), ?_⟩
      simp only [evSs, evS, evE, evEs, ok_bind, ok_thn, nx_seq, rt_seq, ok_calm, lift_some, rd_int, rd_bl, rd_tup, rd_lst, rd_rep, rd_scr, seqO_lst, seqO_tup, setTg1, bAdd, bSub, cLt, cLe, cGt, cGe, cEq, cNe, lenT, lenL, bInt, getT, getLs, idT, idL, omap, List.map_cons, List.map_nil, List.replicate, List.cons_append, List.nil_append, List.append_nil, List.getElem?_cons_zero, List.getElem?_cons_succ, List.set_cons_zero, List.set_cons_succ, List.length_map, List.length_cons, List.length_nil, wipeE, if_true, arr, Option.bind_some, List.reverse_nil, tupL, par2, par3, Nat.zero_add, Nat.reduceAdd, cap0, cap1, cap2, cap3, hB, Int.lt_irrefl, decide_false, isLL_end, app_end ha, Bool.not_false, List.length_cons, List.length_nil]
      simp [evSs, evS, evE, evEs, ok_bind, ok_thn, nx_seq, rt_seq, ok_calm, lift_some, rd_int, rd_bl, rd_tup, rd_lst, rd_rep, rd_scr, seqO_lst, seqO_tup, setTg1, bAdd, bSub, cLt, cLe, cGt, cGe, cEq, cNe, lenT, lenL, bInt, getT, getLs, idT, idL, omap, List.map_cons, List.map_nil, List.replicate, List.cons_append, List.nil_append, List.append_nil, List.getElem?_cons_zero, List.getElem?_cons_succ, List.set_cons_zero, List.set_cons_succ, List.length_map, List.length_cons, List.length_nil, wipeE, if_true, arr, Option.bind_some, List.reverse_nil, tupL, par2, par3, Nat.zero_add, Nat.reduceAdd, cap0, cap1, cap2, cap3]
    · have hB' : (L : Int) < (t.length : Int) := by omega
      have hB2 : (L == t.length) = false := by simpa using hB
      simp only [evSs, evS, evE, evEs, ok_bind, ok_thn, nx_seq, rt_seq, ok_calm, lift_some, rd_int, rd_bl, rd_tup, rd_lst, rd_rep, rd_scr, seqO_lst, seqO_tup, setTg1, bAdd, bSub, cLt, cLe, cGt, cGe, cEq, cNe, lenT, lenL, bInt, getT, getLs, idT, idL, omap, List.map_cons, List.map_nil, List.replicate, List.cons_append, List.nil_append, List.append_nil, List.getElem?_cons_zero, List.getElem?_cons_succ, List.set_cons_zero, List.set_cons_succ, List.length_map, List.length_cons, List.length_nil, wipeE, if_true, arr, Option.bind_some, List.reverse_nil, tupL, par2, par3, Nat.zero_add, Nat.reduceAdd, cap0, cap1, cap2, cap3, decide_eq_true hB', s1, h7 b (L + 1) (by omega), hm, hb, hB2, h7 (bef b t.length) (L + 1) (by omega), Bool.true_and, Bool.false_or]
      cases hC : fr t b (L + 1)
      · cases hE : fr t (bef b t.length) (L + 1)
        · refine ⟨some (.bl false), ?_⟩
          simp only [evSs, evS, evE, evEs, ok_bind, ok_thn, nx_seq, rt_seq, ok_calm, lift_some, rd_int, rd_bl, rd_tup, rd_lst, rd_rep, rd_scr, seqO_lst, seqO_tup, setTg1, bAdd, bSub, cLt, cLe, cGt, cGe, cEq, cNe, lenT, lenL, bInt, getT, getLs, idT, idL, omap, List.map_cons, List.map_nil, List.replicate, List.cons_append, List.nil_append, List.append_nil, List.getElem?_cons_zero, List.getElem?_cons_succ, List.set_cons_zero, List.set_cons_succ, List.length_map, List.length_cons, List.length_nil, wipeE, if_true, arr, Option.bind_some, List.reverse_nil, tupL, par2, par3, Nat.zero_add, Nat.reduceAdd, cap0, cap1, cap2, cap3, Bool.not_false, isLL_end, app_end ha, Bool.and_self]
        · refine ⟨some (.bl false), ?_⟩
          simp [evSs, evS, evE, evEs, ok_bind, ok_thn, nx_seq, rt_seq, ok_calm, lift_some, rd_int, rd_bl, rd_tup, rd_lst, rd_rep, rd_scr, seqO_lst, seqO_tup, setTg1, bAdd, bSub, cLt, cLe, cGt, cGe, cEq, cNe, lenT, lenL, bInt, getT, getLs, idT, idL, omap, List.map_cons, List.map_nil, List.replicate, List.cons_append, List.nil_append, List.append_nil, List.getElem?_cons_zero, List.getElem?_cons_succ, List.set_cons_zero, List.set_cons_succ, List.length_map, List.length_cons, List.length_nil, wipeE, if_true, arr, Option.bind_some, List.reverse_nil, tupL, par2, par3, Nat.zero_add, Nat.reduceAdd, cap0, cap1, cap2, cap3]
      · refine ⟨some (.bl true), ?_⟩
        simp [evSs, evS, evE, evEs, ok_bind, ok_thn, nx_seq, rt_seq, ok_calm, lift_some, rd_int, rd_bl, rd_tup, rd_lst, rd_rep, rd_scr, seqO_lst, seqO_tup, setTg1, bAdd, bSub, cLt, cLe, cGt, cGe, cEq, cNe, lenT, lenL, bInt, getT, getLs, idT, idL, omap, List.map_cons, List.map_nil, List.replicate, List.cons_append, List.nil_append, List.append_nil, List.getElem?_cons_zero, List.getElem?_cons_succ, List.set_cons_zero, List.set_cons_succ, List.length_map, List.length_cons, List.length_nil, wipeE, if_true, arr, Option.bind_some, List.reverse_nil, tupL, par2, par3, Nat.zero_add, Nat.reduceAdd, cap0, cap1, cap2, cap3]
def prL (l : List D) : Prop := ∃ ps : List (Int × Int), l = ps.map ofP
theorem prL.nil : prL [] := ⟨[], rfl⟩
theorem prL.app {a b : List D} (h : prL a) (k : prL b) : prL (a ++ b) := by
  obtain ⟨x, rfl⟩ := h
  obtain ⟨y, rfl⟩ := k
  exact ⟨x ++ y, by rw [List.map_append]⟩
theorem prL.one {c : Bool} {i j : Int} : prL (if c then [.tup [.int i, .int j]] else []) := by
  cases c
  · exact ⟨[], rfl⟩
  · exact ⟨[(i, j)], rfl⟩
theorem gF_at {t : List Int} {b j : Nat} : gF t b (.int (1 + (j : Int))) = if cF t b (1 + j) then [.tup [.int b, .int ((1 + j : Nat) : Int)]] else [] := by
  unfold gF
  have e : ((1 : Int) + (j : Int)).toNat = 1 + j := by omega
  simp only
  rw [e]
  rfl
theorem gF_len {t : List Int} {b : Nat} {x : D} : (gF t b x).length ≤ 1 := by
  unfold gF
  split
  · split <;> simp
  · simp
theorem flat_len {g : D → List D} {c : Nat} : ∀ {xs : List D}, (∀ x ∈ xs, (g x).length ≤ c) → (xs.flatMap g).length ≤ c * xs.length
  | [], _ => by simp
  | x :: r, h => by
    rw [List.flatMap_cons, List.length_append, List.length_cons, Nat.mul_succ]
    have := h x (List.mem_cons_self ..)
    have := flat_len (xs := r) fun y hy => h y (List.mem_cons_of_mem _ hy)
    omega
theorem okR1 {n : Nat} (h : n ≤ 20) : (okR 1 && okR ((n : Int) + 1)) = true := by
  unfold okR
  rw [decide_eq_true (by omega), decide_eq_true (by omega), decide_eq_true (by omega), decide_eq_true (by omega)]
  rfl
theorem o8 {cl : Calls} {t : List Int} {b : Nat} {s : Sto} {acc : List D} {a c d : Option D} (ht : 0 < t.length) (hn : t.length ≤ 20) (hp : prL acc) (ha : acc.length + t.length ≤ 1000)
    (h7 : ∀ acc, prL acc → ∀ b' L', L' ≤ 1000 → cl 7 [.tup (t.map .int), .int (b' : Nat), .int (L' : Nat)] (s ++ [.lst acc]) = .ok (.bl (fr t b' L')) (s ++ [.lst acc])) :
    ∃ c' d', evSs cl l8_1 [some (.tup (t.map .int)), some (.int b), some (.int t.length), some (.loc s.length), c, d] (s ++ [.lst acc]) = .nx [some (.tup (t.map .int)), some (.int b), some (.int t.length), some (.loc s.length), c', d'] (s ++ [.lst (acc ++ (rangeD 1 t.length).flatMap (gF t b))]) ∧ prL (acc ++ (rangeD 1 t.length).flatMap (gF t b)) := by
  unfold l8_1
  have e : ((t.length : Int) + 1 - 1).toNat = t.length := by omega
  simp only [evSs, evS, evE, evEs, ok_bind, ok_thn, nx_seq, rt_seq, ok_calm, lift_some, rd_int, rd_bl, rd_tup, rd_lst, rd_rep, rd_scr, seqO_lst, seqO_tup, setTg1, bAdd, bSub, cLt, cLe, cGt, cGe, cEq, cNe, lenT, lenL, bInt, getT, getLs, idT, idL, omap, List.map_cons, List.map_nil, List.replicate, List.cons_append, List.nil_append, List.append_nil, List.getElem?_cons_zero, List.getElem?_cons_succ, List.set_cons_zero, List.set_cons_succ, List.length_map, List.length_cons, List.length_nil, wipeE, if_true, arr, Option.bind_some, List.reverse_nil, tupL, par2, par3, Nat.zero_add, Nat.reduceAdd, cap0, cap1, cap2, cap3, okR1 hn, e]
  obtain ⟨env', s', h1, ⟨h2, h3, c', d', h4⟩⟩ := forL_gat (f := fun y env1 s2 => evSs cl l8_0 (env1.set 4 (some y)) s2) (g := gF t b) (c := 1) (M := 1000) (xs := rangeD 1 t.length) (acc := acc)
    (I := fun acc env s' => prL acc ∧ s' = s ++ [.lst acc] ∧ ∃ c d, env = [some (.tup (t.map .int)), some (.int b), some (.int t.length), some (.loc s.length), c, d]) (env := [some (.tup (t.map .int)), some (.int b), some (.int t.length), some (.loc s.length), c, d]) (s := s ++ [.lst acc])
    (fun x hx acc env s' hl ⟨q1, q2, c, d, q3⟩ => by
      obtain ⟨j, hj, rfl⟩ := mem_range hx
      subst q2 q3
      simp only [List.set_cons_zero, List.set_cons_succ]
      obtain ⟨c', hc⟩ := i8 (c := d) (b := b) (L := 1 + j) ht hn (by omega) (show acc.length < cap by unfold cap; omega) (h7 acc q1)
      rw [gF_at]
      exact ⟨_, _, hc, prL.app q1 prL.one, rfl, _, _, rfl⟩)
    (fun x _ => gF_len) (by rw [len_range]; omega) ⟨hp, rfl, c, d, rfl⟩
  rw [h1, h3, h4]
  exact ⟨c', d', rfl, h2⟩
theorem hF_at {t : List Int} {b : Nat} : hF t (.int (0 + (b : Int))) = (rangeD 1 t.length).flatMap (gF t b) := by
  unfold hF
  simp only [Int.zero_add, Int.toNat_natCast]
theorem hF_len {t : List Int} {x : D} : (hF t x).length ≤ t.length := by
  unfold hF
  split
  · rename_i i
    have := flat_len (g := gF t i.toNat) (c := 1) (xs := rangeD 1 t.length) fun x _ => gF_len
    rw [len_range] at this
    exact Nat.le_trans this (by omega)
  · simp
theorem ok20 {n : Nat} (h : n ≤ 20) : okR (n : Int) = true := okR_nat (by omega)
theorem sq20 {n : Nat} (h : n ≤ 20) : n * n ≤ 400 := Nat.mul_le_mul h h
theorem e8 {k : Nat} {t : List Int} {s : Sto} (ht : 0 < t.length) (hn : t.length ≤ 20) (hs : Cl s) : run F (k + 3) 8 [.tup (t.map .int)] s = .ok (.tup (frees t)) s ∧ prL (frees t) := by
  have h7 : ∀ acc, prL acc → ∀ b' L', L' ≤ 1000 → run F (k + 2) 7 [.tup (t.map .int), .int (b' : Nat), .int (L' : Nat)] (s ++ [.lst acc]) = .ok (.bl (fr t b' L')) (s ++ [.lst acc]) := fun acc hp b' L' h' => by
    rw [e7 ht h' (hs.lst (clean_acc hp)), rk_fr]
  rw [run_at F8 rfl]
  generalize run F (k + 2) = cl at h7 ⊢
  simp only [f8, evSs, evS, evE, evEs, ok_bind, ok_thn, nx_seq, rt_seq, ok_calm, lift_some, rd_int, rd_bl, rd_tup, rd_lst, rd_rep, rd_scr, seqO_lst, seqO_tup, setTg1, bAdd, bSub, cLt, cLe, cGt, cGe, cEq, cNe, lenT, lenL, bInt, getT, getLs, idT, idL, omap, List.map_cons, List.map_nil, List.replicate, List.cons_append, List.nil_append, List.append_nil, List.getElem?_cons_zero, List.getElem?_cons_succ, List.set_cons_zero, List.set_cons_succ, List.length_map, List.length_cons, List.length_nil, wipeE, if_true, arr, Option.bind_some, List.reverse_nil, tupL, par2, par3, Nat.zero_add, Nat.reduceAdd, cap0, cap1, cap2, cap3, ok20 hn, Int.toNat_natCast]
  have hq := sq20 hn
  obtain ⟨env', s', h1, ⟨h2, h3, a', c', d', h4⟩⟩ := forL_gat (f := fun y env1 s2 => evSs cl l8_1 (env1.set 1 (some y)) s2) (g := hF t) (c := t.length) (M := 1000) (xs := rangeD 0 t.length) (acc := [])
    (I := fun acc env s' => prL acc ∧ s' = s ++ [.lst acc] ∧ ∃ a c d, env = [some (.tup (t.map .int)), a, some (.int t.length), some (.loc s.length), c, d]) (env := [some (.tup (t.map .int)), none, some (.int t.length), some (.loc s.length), none, none]) (s := s ++ [.lst []])
    (fun x hx acc env s' hl ⟨q1, q2, a, c, d, q3⟩ => by
      obtain ⟨j, hj, rfl⟩ := mem_range hx
      subst q2 q3
      simp only [List.set_cons_zero, List.set_cons_succ]
      obtain ⟨c', d', hc, hp⟩ := o8 (b := j) (a := a) (c := c) (d := d) ht hn q1 (by omega) h7
      rw [hF_at, Int.zero_add]
      exact ⟨_, _, hc, hp, rfl, _, _, _, rfl⟩)
    (fun x _ => hF_len) (by rw [len_range, List.length_nil]; omega) ⟨.nil, rfl, none, none, none, rfl⟩
  rw [h1, h3, h4]
  simp only [evSs, evS, evE, evEs, ok_bind, ok_thn, nx_seq, rt_seq, ok_calm, lift_some, rd_int, rd_bl, rd_tup, rd_lst, rd_rep, rd_scr, seqO_lst, seqO_tup, setTg1, bAdd, bSub, cLt, cLe, cGt, cGe, cEq, cNe, lenT, lenL, bInt, getT, getLs, idT, idL, omap, List.map_cons, List.map_nil, List.replicate, List.cons_append, List.nil_append, List.append_nil, List.getElem?_cons_zero, List.getElem?_cons_succ, List.set_cons_zero, List.set_cons_succ, List.length_map, List.length_cons, List.length_nil, wipeE, if_true, arr, Option.bind_some, List.reverse_nil, tupL, par2, par3, Nat.zero_add, Nat.reduceAdd, cap0, cap1, cap2, cap3, rd_end]
  rw [List.nil_append] at h2
  exact ⟨end_ext hs (clean_acc h2), h2⟩
end K15

set_option Elab.async false
set_option linter.all false
set_option maxRecDepth 100000
set_option maxHeartbeats 4000000
namespace K15
open T5 PySem
/-! ### gathered pairs are sorted -/
def gG (c : Nat → Nat → Bool) (b : Nat) (x : D) : List D :=
  match x with
  | .int i => if c b i.toNat then [.tup [.int b, .int i]] else []
  | _ => []
def hG (c : Nat → Nat → Bool) (lo m : Nat) (x : D) : List D :=
  match x with
  | .int i => (rangeD lo m).flatMap (gG c i.toNat)
  | _ => []
def dG (c : Nat → Nat → Bool) (lo n m : Nat) : List D := (rangeD 0 n).flatMap (hG c lo m)
theorem frees_eq (t : List Int) : frees t = dG (cF t) 1 t.length t.length := rfl
def pI (c : Nat → Nat → Bool) (lo b j : Nat) : List (Int × Int) := if c b (lo + j) then [((b : Int), ((lo + j : Nat) : Int))] else []
def pG (c : Nat → Nat → Bool) (lo n m : Nat) : List (Int × Int) := (List.range n).flatMap fun b => (List.range m).flatMap (pI c lo b)
theorem gG_at {c : Nat → Nat → Bool} {lo b j : Nat} : gG c b (.int ((lo : Int) + (j : Int))) = (pI c lo b j).map ofP := by
  unfold gG pI
  have e : ((lo : Int) + (j : Int)).toNat = lo + j := by omega
  simp only
  rw [e]
  split <;> rfl
theorem hG_at {c : Nat → Nat → Bool} {lo m b : Nat} : hG c lo m (.int (0 + (b : Int))) = ((List.range m).flatMap (pI c lo b)).map ofP := by
  unfold hG rangeD
  simp only [Int.zero_add, Int.toNat_natCast]
  rw [List.flatMap_map, List.map_flatMap]
  simp only [gG_at]
theorem dG_eq (c : Nat → Nat → Bool) (lo n m : Nat) : dG c lo n m = (pG c lo n m).map ofP := by
  unfold dG pG
  rw [List.map_flatMap]
  show ((List.range n).map fun i => D.int ((0 : Int) + (i : Nat))).flatMap (hG c lo m) = _
  rw [List.flatMap_map]
  simp only [hG_at]
theorem pI_mem {c : Nat → Nat → Bool} {lo b j : Nat} {p : Int × Int} (h : p ∈ pI c lo b j) : p = ((b : Int), ((lo + j : Nat) : Int)) ∧ c b (lo + j) = true := by
  unfold pI at h
  split at h
  · rename_i hc
    exact ⟨List.mem_singleton.mp h, hc⟩
  · cases h
theorem pG_mem {c : Nat → Nat → Bool} {lo n m : Nat} {p : Int × Int} (h : p ∈ pG c lo n m) : ∃ b j : Nat, b < n ∧ j < m ∧ p = ((b : Int), ((lo + j : Nat) : Int)) ∧ c b (lo + j) = true := by
  unfold pG at h
  obtain ⟨b, hb, h⟩ := List.mem_flatMap.mp h
  obtain ⟨j, hj, h⟩ := List.mem_flatMap.mp h
  obtain ⟨e, hc⟩ := pI_mem h
  exact ⟨b, j, List.mem_range.mp hb, List.mem_range.mp hj, e, hc⟩
theorem pG_sorted (c : Nat → Nat → Bool) (lo n m : Nat) : (pG c lo n m).Pairwise fun a b => leP a b = true := by
  unfold pG
  rw [List.pairwise_flatMap]
  refine ⟨fun b _ => ?_, ?_⟩
  · rw [List.pairwise_flatMap]
    refine ⟨fun j _ => ?_, ?_⟩
    · unfold pI
      split <;> simp
    · refine List.pairwise_lt_range.imp fun {j k} hjk p hp q hq => ?_
      rw [(pI_mem hp).1, (pI_mem hq).1]
      unfold leP
      simp
      omega
  · refine List.pairwise_lt_range.imp fun {b d} hbd p hp q hq => ?_
    obtain ⟨_, _, hp⟩ := List.mem_flatMap.mp hp
    obtain ⟨_, _, hq⟩ := List.mem_flatMap.mp hq
    rw [(pI_mem hp).1, (pI_mem hq).1]
    unfold leP
    simp
    omega
theorem srtP_ok : ∀ {ps : List (Int × Int)}, (ps.Pairwise fun a b => leP a b = true) → srtP ps = ps
  | [], _ => rfl
  | x :: r, h => by
    obtain ⟨h1, h2⟩ := List.pairwise_cons.mp h
    show insP x (srtP r) = _
    rw [srtP_ok h2]
    cases r with
    | nil => rfl
    | cons y r =>
      show (if leP x y = true then x :: y :: r else y :: insP x r) = _
      rw [if_pos (h1 y (List.mem_cons_self ..))]
theorem prs_ok : ∀ ps : List (Int × Int), prs (ps.map ofP) = some ps
  | [] => rfl
  | p :: r => by
    show (prs (r.map ofP)).map ((p.1, p.2) :: ·) = _
    rw [prs_ok r]
    rfl
theorem srt_ok {ps : List (Int × Int)} (h : ps.Pairwise fun a b => leP a b = true) : biD .sorted [.lst (ps.map ofP)] = some (.lst (ps.map ofP)) := by
  show srtD (ps.map ofP) = _
  unfold srtD
  cases ps with
  | nil => rfl
  | cons p r =>
    have e : intsOf ((p :: r).map ofP) = none := rfl
    rw [e]
    simp only
    rw [prs_ok]
    show some (D.lst ((srtP (p :: r)).map ofP)) = _
    rw [srtP_ok h]
theorem dG_sorted (c : Nat → Nat → Bool) (lo n m : Nat) : biD .sorted [.lst (dG c lo n m)] = some (.lst (dG c lo n m)) := by
  rw [dG_eq]
  exact srt_ok (pG_sorted c lo n m)
theorem gG_len {c : Nat → Nat → Bool} {b : Nat} {x : D} : (gG c b x).length ≤ 1 := by
  unfold gG
  split
  · split <;> simp
  · simp
theorem hG_len {c : Nat → Nat → Bool} {lo m : Nat} {x : D} : (hG c lo m x).length ≤ m := by
  unfold hG
  split
  · rename_i i
    have := flat_len (g := gG c i.toNat) (c := 1) (xs := rangeD lo m) fun x _ => gG_len
    rw [len_range] at this
    exact Nat.le_trans this (by omega)
  · simp
/-- two loops that gather pairs -/
theorem two_loops {f : Nat → D → T5.Env → Sto → SR} {g : D → T5.Env → Sto → SR} {c : Nat → Nat → Bool} {lo n m : Nat} {s : Sto} {J0 : T5.Env → Prop} {J : Nat → T5.Env → Prop} {env : T5.Env} (hn : n ≤ 21) (hm : m ≤ 21) (hJ : J0 env) (hJJ : ∀ b env, J b env → J0 env)
    (hg : ∀ b, b < n → ∀ env acc, prL acc → acc.length + m ≤ 1000 → J0 env → ∃ env0, g (.int b) env (s ++ [.lst acc]) = (forL (f b) (rangeD lo m) env0 (s ++ [.lst acc])).seq SR.nx ∧ J b env0)
    (hf : ∀ b L, b < n → lo ≤ L → L < lo + m → ∀ env acc, prL acc → acc.length < cap → J b env → ∃ env', f b (.int (L : Nat)) env (s ++ [.lst acc]) = .nx env' (s ++ [.lst (acc ++ if c b L then [.tup [.int b, .int L]] else [])]) ∧ J b env') :
    ∃ env', forL g (rangeD 0 n) env (s ++ [.lst []]) = .nx env' (s ++ [.lst (dG c lo n m)]) ∧ J0 env' ∧ prL (dG c lo n m) := by
  have hq : m * n ≤ 21 * 21 := Nat.mul_le_mul hm hn
  obtain ⟨env', s', h1, ⟨h2, h3, h4⟩⟩ := forL_gat (f := g) (g := hG c lo m) (c := m) (M := 1000) (xs := rangeD 0 n) (acc := []) (I := fun acc env s' => prL acc ∧ s' = s ++ [.lst acc] ∧ J0 env) (env := env) (s := s ++ [.lst []])
    (fun x hx acc env s' hl ⟨q1, q2, q3⟩ => by
      obtain ⟨b, hb, rfl⟩ := mem_range hx
      subst q2
      obtain ⟨env0, hc, hJ0⟩ := hg b hb env acc q1 hl q3
      obtain ⟨env1, s1, k1, ⟨k2, k3, k4⟩⟩ := forL_gat (f := f b) (g := gG c b) (c := 1) (M := 1000) (xs := rangeD lo m) (acc := acc) (I := fun acc env s' => prL acc ∧ s' = s ++ [.lst acc] ∧ J b env) (env := env0) (s := s ++ [.lst acc])
        (fun x hx acc env s' hl ⟨q1, q2, q3⟩ => by
          obtain ⟨j, hj, rfl⟩ := mem_range hx
          subst q2
          obtain ⟨env', hc, hJ'⟩ := hf b (lo + j) hb (by omega) (by omega) env acc q1 (show acc.length < cap by unfold cap; omega) q3
          have e : gG c b (.int ((lo : Int) + (j : Int))) = if c b (lo + j) then [.tup [.int b, .int ((lo + j : Nat) : Int)]] else [] := by
            rw [gG_at]
            unfold pI
            split <;> rfl
          rw [e]
          exact ⟨_, _, hc, prL.app q1 prL.one, rfl, hJ'⟩)
        (fun x _ => gG_len) (by rw [len_range]; omega) ⟨q1, rfl, hJ0⟩
      have e : hG c lo m (.int (0 + (b : Int))) = (rangeD lo m).flatMap (gG c b) := by
        unfold hG
        simp only [Int.zero_add, Int.toNat_natCast]
      rw [e, Int.zero_add, hc, k1, k3]
      exact ⟨env1, _, rfl, k2, rfl, hJJ b _ k4⟩)
    (fun x _ => hG_len) (by rw [len_range, List.length_nil]; omega) ⟨.nil, rfl, hJ⟩
  rw [List.nil_append] at h2 h3
  rw [h1, h3]
  exact ⟨env', rfl, h4, h2⟩
end K15

set_option Elab.async false
set_option linter.all false
set_option maxRecDepth 100000
set_option maxHeartbeats 4000000
namespace K15
open T5 PySem
theorem i21 {cl : Calls} {t : List Int} {b L : Nat} {s : Sto} {acc : List D} {c d e : Option D} (ht : 0 < t.length) (hn : t.length ≤ 20) (hL : L ≤ t.length) (ha : acc.length < cap)
    (h20 : ∀ b' L', L' ≤ 100 → cl 20 [.tup (t.map .int), .int (b' : Nat), .int (L' : Nat)] (s ++ [.lst acc]) = .ok (.bl (fr t b' L')) (s ++ [.lst acc])) :
    ∃ c' d' e', evSs cl l21_0 [some (.tup (t.map .int)), some (.int b), some (.int t.length), some (.loc s.length), some (.int L), c, d, e] (s ++ [.lst acc]) = .nx [some (.tup (t.map .int)), some (.int b), some (.int t.length), some (.loc s.length), some (.int L), c', d', e'] (s ++ [.lst (acc ++ if cF t b L then [.tup [.int b, .int L]] else [])]) := by
  have hm : ∀ i, binD .mod (.int i) (.int (t.length : Int)) = some (.int (i % (t.length : Int))) := fun i => bMod (by omega)
  have hb := bef_eq (b := b) ht
  have heq : ((L : Int) == (t.length : Int)) = (L == t.length) := by
    by_cases h : L = t.length
    · simp [h]
    · have h2 : ¬ (L : Int) = (t.length : Int) := by omega
      rw [beq_eq_false_iff_ne.mpr h, beq_eq_false_iff_ne.mpr h2]
  unfold l21_0
  simp only [evSs, evS, evE, evEs, ok_bind, ok_thn, nx_seq, rt_seq, ok_calm, lift_some, rd_int, rd_bl, rd_tup, rd_lst, rd_rep, rd_scr, seqO_lst, seqO_tup, setTg1, bAdd, bSub, cLt, cLe, cGt, cGe, cEq, cNe, lenT, lenL, bInt, getT, getLs, idT, idL, omap, List.map_cons, List.map_nil, List.replicate, List.cons_append, List.nil_append, List.append_nil, List.getElem?_cons_zero, List.getElem?_cons_succ, List.set_cons_zero, List.set_cons_succ, List.length_map, List.length_cons, List.length_nil, wipeE, if_true, arr, Option.bind_some, List.reverse_nil, tupL, par2, par3, Nat.zero_add, Nat.reduceAdd, cap0, cap1, cap2, cap3, h20 b L (by omega)]
  unfold cF
  cases hA : fr t b L
  · exact ⟨c, d, e, by simp [nx_seq]⟩
  · simp only [evSs, evS, evE, evEs, ok_bind, ok_thn, nx_seq, rt_seq, ok_calm, lift_some, rd_int, rd_bl, rd_tup, rd_lst, rd_rep, rd_scr, seqO_lst, seqO_tup, setTg1, bAdd, bSub, cLt, cLe, cGt, cGe, cEq, cNe, lenT, lenL, bInt, getT, getLs, idT, idL, omap, List.map_cons, List.map_nil, List.replicate, List.cons_append, List.nil_append, List.append_nil, List.getElem?_cons_zero, List.getElem?_cons_succ, List.set_cons_zero, List.set_cons_succ, List.length_map, List.length_cons, List.length_nil, wipeE, if_true, arr, Option.bind_some, List.reverse_nil, tupL, par2, par3, Nat.zero_add, Nat.reduceAdd, cap0, cap1, cap2, cap3, s1, hm, hb, h20 b (L + 1) (by omega), h20 (bef b t.length) (L + 1) (by omega), heq]
    refine ⟨some (.int (bef b t.length : Nat)), some (.bl (fr t b (L + 1))), some (.bl (fr t (bef b t.length) (L + 1))), ?_⟩
    cases hB : (L == t.length)
    · cases hC : fr t b (L + 1)
      · cases hE : fr t (bef b t.length) (L + 1)
        · simp only [evSs, evS, evE, evEs, ok_bind, ok_thn, nx_seq, rt_seq, ok_calm, lift_some, rd_int, rd_bl, rd_tup, rd_lst, rd_rep, rd_scr, seqO_lst, seqO_tup, setTg1, bAdd, bSub, cLt, cLe, cGt, cGe, cEq, cNe, lenT, lenL, bInt, getT, getLs, idT, idL, omap, List.map_cons, List.map_nil, List.replicate, List.cons_append, List.nil_append, List.append_nil, List.getElem?_cons_zero, List.getElem?_cons_succ, List.set_cons_zero, List.set_cons_succ, List.length_map, List.length_cons, List.length_nil, wipeE, if_true, arr, Option.bind_some, List.reverse_nil, tupL, par2, par3, Nat.zero_add, Nat.reduceAdd, cap0, cap1, cap2, cap3, Bool.not_false, isLL_end, app_end ha, Bool.and_self, Bool.false_or]
        · simp only [evSs, evS, evE, evEs, ok_bind, ok_thn, nx_seq, rt_seq, ok_calm, lift_some, rd_int, rd_bl, rd_tup, rd_lst, rd_rep, rd_scr, seqO_lst, seqO_tup, setTg1, bAdd, bSub, cLt, cLe, cGt, cGe, cEq, cNe, lenT, lenL, bInt, getT, getLs, idT, idL, omap, List.map_cons, List.map_nil, List.replicate, List.cons_append, List.nil_append, List.append_nil, List.getElem?_cons_zero, List.getElem?_cons_succ, List.set_cons_zero, List.set_cons_succ, List.length_map, List.length_cons, List.length_nil, wipeE, if_true, arr, Option.bind_some, List.reverse_nil, tupL, par2, par3, Nat.zero_add, Nat.reduceAdd, cap0, cap1, cap2, cap3, Bool.not_false, Bool.not_true, Bool.and_false, Bool.false_or]
          simp [nx_seq]
      · simp only [evSs, evS, evE, evEs, ok_bind, ok_thn, nx_seq, rt_seq, ok_calm, lift_some, rd_int, rd_bl, rd_tup, rd_lst, rd_rep, rd_scr, seqO_lst, seqO_tup, setTg1, bAdd, bSub, cLt, cLe, cGt, cGe, cEq, cNe, lenT, lenL, bInt, getT, getLs, idT, idL, omap, List.map_cons, List.map_nil, List.replicate, List.cons_append, List.nil_append, List.append_nil, List.getElem?_cons_zero, List.getElem?_cons_succ, List.set_cons_zero, List.set_cons_succ, List.length_map, List.length_cons, List.length_nil, wipeE, if_true, arr, Option.bind_some, List.reverse_nil, tupL, par2, par3, Nat.zero_add, Nat.reduceAdd, cap0, cap1, cap2, cap3, Bool.not_false, Bool.not_true, Bool.and_false, Bool.false_and, Bool.false_or]
        simp [nx_seq]
    · simp only [evSs, evS, evE, evEs, ok_bind, ok_thn, nx_seq, rt_seq, ok_calm, lift_some, rd_int, rd_bl, rd_tup, rd_lst, rd_rep, rd_scr, seqO_lst, seqO_tup, setTg1, bAdd, bSub, cLt, cLe, cGt, cGe, cEq, cNe, lenT, lenL, bInt, getT, getLs, idT, idL, omap, List.map_cons, List.map_nil, List.replicate, List.cons_append, List.nil_append, List.append_nil, List.getElem?_cons_zero, List.getElem?_cons_succ, List.set_cons_zero, List.set_cons_succ, List.length_map, List.length_cons, List.length_nil, wipeE, if_true, arr, Option.bind_some, List.reverse_nil, tupL, par2, par3, Nat.zero_add, Nat.reduceAdd, cap0, cap1, cap2, cap3, isLL_end, app_end ha, Bool.true_or, Bool.and_self]
theorem e21 {k : Nat} {t : List Int} {s : Sto} (ht : 0 < t.length) (hn : t.length ≤ 20) (hs : Cl s) : run F (k + 3) 21 [.tup (t.map .int)] s = .ok (.tup (frees t)) s := by
  have h20 : ∀ acc, prL acc → ∀ b' L', L' ≤ 100 → run F (k + 2) 20 [.tup (t.map .int), .int (b' : Nat), .int (L' : Nat)] (s ++ [.lst acc]) = .ok (.bl (fr t b' L')) (s ++ [.lst acc]) := fun acc hp b' L' h' => e20 ht h' (hs.lst (clean_acc hp))
  rw [run_at F21 rfl]
  generalize run F (k + 2) = cl at h20 ⊢
  simp only [f21, evSs, evS, evE, evEs, ok_bind, ok_thn, nx_seq, rt_seq, ok_calm, lift_some, rd_int, rd_bl, rd_tup, rd_lst, rd_rep, rd_scr, seqO_lst, seqO_tup, setTg1, bAdd, bSub, cLt, cLe, cGt, cGe, cEq, cNe, lenT, lenL, bInt, getT, getLs, idT, idL, omap, List.map_cons, List.map_nil, List.replicate, List.cons_append, List.nil_append, List.append_nil, List.getElem?_cons_zero, List.getElem?_cons_succ, List.set_cons_zero, List.set_cons_succ, List.length_map, List.length_cons, List.length_nil, wipeE, if_true, arr, Option.bind_some, List.reverse_nil, tupL, par2, par3, Nat.zero_add, Nat.reduceAdd, cap0, cap1, cap2, cap3, ok20 hn, Int.toNat_natCast]
  have e1 : ((t.length : Int) + 1 - 1).toNat = t.length := by omega
  obtain ⟨env', h1, ⟨a, c, d, e, f, h2⟩, h3⟩ := two_loops (f := fun b y env1 s2 => evSs cl l21_0 (env1.set 4 (some y)) s2) (g := fun y env1 s2 => evSs cl l21_1 (env1.set 1 (some y)) s2) (c := cF t) (lo := 1) (n := t.length) (m := t.length) (s := s)
    (J0 := fun env => ∃ a c d e f, env = [some (.tup (t.map .int)), a, some (.int t.length), some (.loc s.length), c, d, e, f]) (J := fun b env => ∃ c d e f, env = [some (.tup (t.map .int)), some (.int b), some (.int t.length), some (.loc s.length), c, d, e, f])
    (env := [some (.tup (t.map .int)), none, some (.int t.length), some (.loc s.length), none, none, none, none]) (by omega) (by omega) ⟨_, _, _, _, _, rfl⟩ (fun b env ⟨c, d, e, f, h⟩ => ⟨_, _, _, _, _, h⟩)
    (fun b hb env acc hp hl ⟨a, c, d, e, f, h⟩ => by
      subst h
      refine ⟨_, ?_, c, d, e, f, rfl⟩
      unfold l21_1
      simp only [evSs, evS, evE, evEs, ok_bind, ok_thn, nx_seq, rt_seq, ok_calm, lift_some, rd_int, rd_bl, rd_tup, rd_lst, rd_rep, rd_scr, seqO_lst, seqO_tup, setTg1, bAdd, bSub, cLt, cLe, cGt, cGe, cEq, cNe, lenT, lenL, bInt, getT, getLs, idT, idL, omap, List.map_cons, List.map_nil, List.replicate, List.cons_append, List.nil_append, List.append_nil, List.getElem?_cons_zero, List.getElem?_cons_succ, List.set_cons_zero, List.set_cons_succ, List.length_map, List.length_cons, List.length_nil, wipeE, if_true, arr, Option.bind_some, List.reverse_nil, tupL, par2, par3, Nat.zero_add, Nat.reduceAdd, cap0, cap1, cap2, cap3, okR1 hn, e1]
      rfl)
    (fun b L hb h1 h2 env acc hp ha ⟨c, d, e, f, h⟩ => by
      subst h
      simp only [List.set_cons_zero, List.set_cons_succ]
      obtain ⟨c', d', e', hc⟩ := i21 (b := b) (L := L) (c := d) (d := e) (e := f) ht hn (by omega) ha (h20 acc hp)
      exact ⟨_, hc, _, _, _, _, rfl⟩)
  rw [h1, h2]
  simp only [evSs, evS, evE, evEs, ok_bind, ok_thn, nx_seq, rt_seq, ok_calm, lift_some, rd_int, rd_bl, rd_tup, rd_lst, rd_rep, rd_scr, seqO_lst, seqO_tup, setTg1, bAdd, bSub, cLt, cLe, cGt, cGe, cEq, cNe, lenT, lenL, bInt, getT, getLs, idT, idL, omap, List.map_cons, List.map_nil, List.replicate, List.cons_append, List.nil_append, List.append_nil, List.getElem?_cons_zero, List.getElem?_cons_succ, List.set_cons_zero, List.set_cons_succ, List.length_map, List.length_cons, List.length_nil, wipeE, if_true, arr, Option.bind_some, List.reverse_nil, tupL, par2, par3, Nat.zero_add, Nat.reduceAdd, cap0, cap1, cap2, cap3, rd_end]
  rw [dG_sorted]
  simp only [evSs, evS, evE, evEs, ok_bind, ok_thn, nx_seq, rt_seq, ok_calm, lift_some, rd_int, rd_bl, rd_tup, rd_lst, rd_rep, rd_scr, seqO_lst, seqO_tup, setTg1, bAdd, bSub, cLt, cLe, cGt, cGe, cEq, cNe, lenT, lenL, bInt, getT, getLs, idT, idL, omap, List.map_cons, List.map_nil, List.replicate, List.cons_append, List.nil_append, List.append_nil, List.getElem?_cons_zero, List.getElem?_cons_succ, List.set_cons_zero, List.set_cons_succ, List.length_map, List.length_cons, List.length_nil, wipeE, if_true, arr, Option.bind_some, List.reverse_nil, tupL, par2, par3, Nat.zero_add, Nat.reduceAdd, cap0, cap1, cap2, cap3]
  exact end_ext hs (clean_acc h3)
/-! ### full stretches -/
def bl (t : List Int) : Int := t.sum / (t.length : Int)
def aft (b n : Nat) : Nat := (b + 1) % n
def cU (t : List Int) (b L : Nat) : Bool := (rk t b L == bl t) && ((L == 0) || (!(rk t b (L - 1) == bl t) && !(rk t (aft b t.length) (L - 1) == bl t)))
def fulls (t : List Int) : List D := dG (cU t) 0 t.length (t.length + 1)
theorem aft_eq {b n : Nat} : ((b : Int) + 1) % (n : Int) = ((aft b n : Nat) : Int) := by
  unfold aft
  rw [Int.natCast_emod]
  rfl
theorem i9 {cl : Calls} {t : List Int} {b L : Nat} {s : Sto} {acc : List D} {c : Option D} (ht : 0 < t.length) (hn : t.length ≤ 20) (hL : L ≤ t.length) (ha : acc.length < cap)
    (h6 : ∀ b' L', L' ≤ 1000 → cl 6 [.tup (t.map .int), .int (b' : Nat), .int (L' : Nat)] (s ++ [.lst acc]) = .ok (.int (rk t b' L')) (s ++ [.lst acc])) :
    ∃ c', evSs cl l9_0 [some (.tup (t.map .int)), some (.int (bl t)), some (.int b), some (.int t.length), some (.loc s.length), some (.int L), c] (s ++ [.lst acc]) = .nx [some (.tup (t.map .int)), some (.int (bl t)), some (.int b), some (.int t.length), some (.loc s.length), some (.int L), c'] (s ++ [.lst (acc ++ if cU t b L then [.tup [.int b, .int L]] else [])]) := by
  have hm : ∀ i, binD .mod (.int i) (.int (t.length : Int)) = some (.int (i % (t.length : Int))) := fun i => bMod (by omega)
  unfold l9_0
  simp only [evSs, evS, evE, evEs, ok_bind, ok_thn, nx_seq, rt_seq, ok_calm, lift_some, rd_int, rd_bl, rd_tup, rd_lst, rd_rep, rd_scr, seqO_lst, seqO_tup, setTg1, bAdd, bSub, cLt, cLe, cGt, cGe, cEq, cNe, lenT, lenL, bInt, getT, getLs, idT, idL, omap, List.map_cons, List.map_nil, List.replicate, List.cons_append, List.nil_append, List.append_nil, List.getElem?_cons_zero, List.getElem?_cons_succ, List.set_cons_zero, List.set_cons_succ, List.length_map, List.length_cons, List.length_nil, wipeE, if_true, arr, Option.bind_some, List.reverse_nil, tupL, par2, par3, Nat.zero_add, Nat.reduceAdd, cap0, cap1, cap2, cap3, h6 b L (by omega)]
  unfold cU
  cases hA : (rk t b L == bl t)
  · exact ⟨c, by simp [nx_seq]⟩
  · by_cases hB : L = 0
    · subst hB
      refine ⟨some (.bl false), ?_⟩
      simp only [evSs, evS, evE, evEs, ok_bind, ok_thn, nx_seq, rt_seq, ok_calm, lift_some, rd_int, rd_bl, rd_tup, rd_lst, rd_rep, rd_scr, seqO_lst, seqO_tup, setTg1, bAdd, bSub, cLt, cLe, cGt, cGe, cEq, cNe, lenT, lenL, bInt, getT, getLs, idT, idL, omap, List.map_cons, List.map_nil, List.replicate, List.cons_append, List.nil_append, List.append_nil, List.getElem?_cons_zero, List.getElem?_cons_succ, List.set_cons_zero, List.set_cons_succ, List.length_map, List.length_cons, List.length_nil, wipeE, if_true, arr, Option.bind_some, List.reverse_nil, tupL, par2, par3, Nat.zero_add, Nat.reduceAdd, cap0, cap1, cap2, cap3, Int.natCast_zero, Int.lt_irrefl, decide_false, isLL_end, app_end ha, Bool.not_false, beq_self_eq_true, Bool.true_or, Bool.and_self]
    · have hB' : (0 : Int) < (L : Int) := by omega
      have hB2 : (L == 0) = false := by simpa using hB
      have hL1 : (L : Int) - 1 = ((L - 1 : Nat) : Int) := by omega
      simp only [evSs, evS, evE, evEs, ok_bind, ok_thn, nx_seq, rt_seq, ok_calm, lift_some, rd_int, rd_bl, rd_tup, rd_lst, rd_rep, rd_scr, seqO_lst, seqO_tup, setTg1, bAdd, bSub, cLt, cLe, cGt, cGe, cEq, cNe, lenT, lenL, bInt, getT, getLs, idT, idL, omap, List.map_cons, List.map_nil, List.replicate, List.cons_append, List.nil_append, List.append_nil, List.getElem?_cons_zero, List.getElem?_cons_succ, List.set_cons_zero, List.set_cons_succ, List.length_map, List.length_cons, List.length_nil, wipeE, if_true, arr, Option.bind_some, List.reverse_nil, tupL, par2, par3, Nat.zero_add, Nat.reduceAdd, cap0, cap1, cap2, cap3, decide_eq_true hB', hL1, h6 b (L - 1) (by omega), hm, aft_eq, hB2, h6 (aft b t.length) (L - 1) (by omega), Bool.true_and, Bool.false_or]
      cases hC : (rk t b (L - 1) == bl t)
      · cases hE : (rk t (aft b t.length) (L - 1) == bl t)
        · refine ⟨some (.bl false), ?_⟩
          simp only [evSs, evS, evE, evEs, ok_bind, ok_thn, nx_seq, rt_seq, ok_calm, lift_some, rd_int, rd_bl, rd_tup, rd_lst, rd_rep, rd_scr, seqO_lst, seqO_tup, setTg1, bAdd, bSub, cLt, cLe, cGt, cGe, cEq, cNe, lenT, lenL, bInt, getT, getLs, idT, idL, omap, List.map_cons, List.map_nil, List.replicate, List.cons_append, List.nil_append, List.append_nil, List.getElem?_cons_zero, List.getElem?_cons_succ, List.set_cons_zero, List.set_cons_succ, List.length_map, List.length_cons, List.length_nil, wipeE, if_true, arr, Option.bind_some, List.reverse_nil, tupL, par2, par3, Nat.zero_add, Nat.reduceAdd, cap0, cap1, cap2, cap3, Bool.not_false, isLL_end, app_end ha, Bool.and_self]
        · refine ⟨some (.bl false), ?_⟩
          simp [nx_seq, ok_bind, ok_thn, evSs]
      · refine ⟨some (.bl true), ?_⟩
        simp [nx_seq, ok_bind, ok_thn, evSs]
end K15

set_option Elab.async false
set_option linter.all false
set_option maxRecDepth 100000
set_option maxHeartbeats 4000000
namespace K15
open T5 PySem
theorem sumT {t : List Int} : biD .sum [.tup (t.map .int)] = some (.int t.sum) := by
  show (sumD (t.map .int)).map D.int = _
  rw [sumD_ints]
  rfl
theorem okR2 {n : Nat} (h : n ≤ 20) : okR ((n : Int) + 1) = true := by
  have : ((n : Int) + 1) = ((n + 1 : Nat) : Int) := rfl
  rw [this]
  exact okR_nat (by omega)
theorem e9 {k : Nat} {t : List Int} {s : Sto} (ht : 0 < t.length) (hn : t.length ≤ 20) (hs : Cl s) : run F (k + 2) 9 [.tup (t.map .int)] s = .ok (.tup (fulls t)) s ∧ prL (fulls t) := by
  have h6 : ∀ acc, prL acc → ∀ b' L', L' ≤ 1000 → run F (k + 1) 6 [.tup (t.map .int), .int (b' : Nat), .int (L' : Nat)] (s ++ [.lst acc]) = .ok (.int (rk t b' L')) (s ++ [.lst acc]) := fun acc hp b' L' h' => e6 ht h' (hs.lst (clean_acc hp))
  have hd : binD .fdiv (.int t.sum) (.int (t.length : Int)) = some (.int (bl t)) := bDiv (by omega) (by omega)
  rw [run_at F9 rfl]
  generalize run F (k + 1) = cl at h6 ⊢
  simp only [f9, evSs, evS, evE, evEs, ok_bind, ok_thn, nx_seq, rt_seq, ok_calm, lift_some, rd_int, rd_bl, rd_tup, rd_lst, rd_rep, rd_scr, seqO_lst, seqO_tup, setTg1, bAdd, bSub, cLt, cLe, cGt, cGe, cEq, cNe, lenT, lenL, bInt, getT, getLs, idT, idL, omap, List.map_cons, List.map_nil, List.replicate, List.cons_append, List.nil_append, List.append_nil, List.getElem?_cons_zero, List.getElem?_cons_succ, List.set_cons_zero, List.set_cons_succ, List.length_map, List.length_cons, List.length_nil, wipeE, if_true, arr, Option.bind_some, List.reverse_nil, tupL, par2, par3, Nat.zero_add, Nat.reduceAdd, cap0, cap1, cap2, cap3, ok20 hn, Int.toNat_natCast, sumT, hd]
  have e1 : ((t.length : Int) + 1).toNat = t.length + 1 := by omega
  obtain ⟨env', h1, ⟨a, c, d, h2⟩, h3⟩ := two_loops (f := fun b y env1 s2 => evSs cl l9_0 (env1.set 5 (some y)) s2) (g := fun y env1 s2 => evSs cl l9_1 (env1.set 2 (some y)) s2) (c := cU t) (lo := 0) (n := t.length) (m := t.length + 1) (s := s)
    (J0 := fun env => ∃ a c d, env = [some (.tup (t.map .int)), some (.int (bl t)), a, some (.int t.length), some (.loc s.length), c, d]) (J := fun b env => ∃ c d, env = [some (.tup (t.map .int)), some (.int (bl t)), some (.int b), some (.int t.length), some (.loc s.length), c, d])
    (env := [some (.tup (t.map .int)), some (.int (bl t)), none, some (.int t.length), some (.loc s.length), none, none]) (by omega) (by omega) ⟨_, _, _, rfl⟩ (fun b env ⟨c, d, h⟩ => ⟨_, _, _, h⟩)
    (fun b hb env acc hp hl ⟨a, c, d, h⟩ => by
      subst h
      refine ⟨_, ?_, c, d, rfl⟩
      unfold l9_1
      simp only [evSs, evS, evE, evEs, ok_bind, ok_thn, nx_seq, rt_seq, ok_calm, lift_some, rd_int, rd_bl, rd_tup, rd_lst, rd_rep, rd_scr, seqO_lst, seqO_tup, setTg1, bAdd, bSub, cLt, cLe, cGt, cGe, cEq, cNe, lenT, lenL, bInt, getT, getLs, idT, idL, omap, List.map_cons, List.map_nil, List.replicate, List.cons_append, List.nil_append, List.append_nil, List.getElem?_cons_zero, List.getElem?_cons_succ, List.set_cons_zero, List.set_cons_succ, List.length_map, List.length_cons, List.length_nil, wipeE, if_true, arr, Option.bind_some, List.reverse_nil, tupL, par2, par3, Nat.zero_add, Nat.reduceAdd, cap0, cap1, cap2, cap3, okR2 hn, e1]
      rfl)
    (fun b L hb h1 h2 env acc hp ha ⟨c, d, h⟩ => by
      subst h
      simp only [List.set_cons_zero, List.set_cons_succ]
      obtain ⟨c', hc⟩ := i9 (b := b) (L := L) (c := d) ht hn (by omega) ha (h6 acc hp)
      exact ⟨_, hc, _, _, rfl⟩)
  rw [h1, h2]
  simp only [evSs, evS, evE, evEs, ok_bind, ok_thn, nx_seq, rt_seq, ok_calm, lift_some, rd_int, rd_bl, rd_tup, rd_lst, rd_rep, rd_scr, seqO_lst, seqO_tup, setTg1, bAdd, bSub, cLt, cLe, cGt, cGe, cEq, cNe, lenT, lenL, bInt, getT, getLs, idT, idL, omap, List.map_cons, List.map_nil, List.replicate, List.cons_append, List.nil_append, List.append_nil, List.getElem?_cons_zero, List.getElem?_cons_succ, List.set_cons_zero, List.set_cons_succ, List.length_map, List.length_cons, List.length_nil, wipeE, if_true, arr, Option.bind_some, List.reverse_nil, tupL, par2, par3, Nat.zero_add, Nat.reduceAdd, cap0, cap1, cap2, cap3, rd_end]
  exact ⟨end_ext hs (clean_acc h3), h3⟩
theorem i22 {cl : Calls} {t : List Int} {b L : Nat} {s : Sto} {acc : List D} {c d : Option D} (ht : 0 < t.length) (hn : t.length ≤ 20) (hL : L ≤ t.length) (ha : acc.length < cap)
    (h19 : ∀ b' L', L' ≤ 1000 → cl 19 [.tup (t.map .int), .int (b' : Nat), .int (L' : Nat)] (s ++ [.lst acc]) = .ok (.int (rk t b' L')) (s ++ [.lst acc])) :
    ∃ c' d', evSs cl l22_0 [some (.tup (t.map .int)), some (.int b), some (.int t.length), some (.int (bl t)), some (.loc s.length), some (.int L), c, d] (s ++ [.lst acc]) = .nx [some (.tup (t.map .int)), some (.int b), some (.int t.length), some (.int (bl t)), some (.loc s.length), some (.int L), c', d'] (s ++ [.lst (acc ++ if cU t b L then [.tup [.int b, .int L]] else [])]) := by
  have hm : ∀ i, binD .mod (.int i) (.int (t.length : Int)) = some (.int (i % (t.length : Int))) := fun i => bMod (by omega)
  unfold l22_0
  simp only [evSs, evS, evE, evEs, ok_bind, ok_thn, nx_seq, rt_seq, ok_calm, lift_some, rd_int, rd_bl, rd_tup, rd_lst, rd_rep, rd_scr, seqO_lst, seqO_tup, setTg1, bAdd, bSub, cLt, cLe, cGt, cGe, cEq, cNe, lenT, lenL, bInt, getT, getLs, idT, idL, omap, List.map_cons, List.map_nil, List.replicate, List.cons_append, List.nil_append, List.append_nil, List.getElem?_cons_zero, List.getElem?_cons_succ, List.set_cons_zero, List.set_cons_succ, List.length_map, List.length_cons, List.length_nil, wipeE, if_true, arr, Option.bind_some, List.reverse_nil, tupL, par2, par3, Nat.zero_add, Nat.reduceAdd, cap0, cap1, cap2, cap3, h19 b L (by omega)]
  unfold cU
  cases hA : (rk t b L == bl t)
  · exact ⟨c, d, by simp [nx_seq]⟩
  · simp only [evSs, evS, evE, evEs, ok_bind, ok_thn, nx_seq, rt_seq, ok_calm, lift_some, rd_int, rd_bl, rd_tup, rd_lst, rd_rep, rd_scr, seqO_lst, seqO_tup, setTg1, bAdd, bSub, cLt, cLe, cGt, cGe, cEq, cNe, lenT, lenL, bInt, getT, getLs, idT, idL, omap, List.map_cons, List.map_nil, List.replicate, List.cons_append, List.nil_append, List.append_nil, List.getElem?_cons_zero, List.getElem?_cons_succ, List.set_cons_zero, List.set_cons_succ, List.length_map, List.length_cons, List.length_nil, wipeE, if_true, arr, Option.bind_some, List.reverse_nil, tupL, par2, par3, Nat.zero_add, Nat.reduceAdd, cap0, cap1, cap2, cap3, hm, aft_eq]
    by_cases hB : L = 0
    · subst hB
      refine ⟨some (.int (aft b t.length : Nat)), some (.bl false), ?_⟩
      simp only [evSs, evS, evE, evEs, ok_bind, ok_thn, nx_seq, rt_seq, ok_calm, lift_some, rd_int, rd_bl, rd_tup, rd_lst, rd_rep, rd_scr, seqO_lst, seqO_tup, setTg1, bAdd, bSub, cLt, cLe, cGt, cGe, cEq, cNe, lenT, lenL, bInt, getT, getLs, idT, idL, omap, List.map_cons, List.map_nil, List.replicate, List.cons_append, List.nil_append, List.append_nil, List.getElem?_cons_zero, List.getElem?_cons_succ, List.set_cons_zero, List.set_cons_succ, List.length_map, List.length_cons, List.length_nil, wipeE, if_true, arr, Option.bind_some, List.reverse_nil, tupL, par2, par3, Nat.zero_add, Nat.reduceAdd, cap0, cap1, cap2, cap3, Int.natCast_zero, Int.lt_irrefl, decide_false, isLL_end, app_end ha, Bool.not_false, beq_self_eq_true, Bool.true_or, Bool.and_self]
    · have hB' : (0 : Int) < (L : Int) := by omega
      have hB2 : (L == 0) = false := by simpa using hB
      have hL1 : (L : Int) - 1 = ((L - 1 : Nat) : Int) := by omega
      simp only [evSs, evS, evE, evEs, ok_bind, ok_thn, nx_seq, rt_seq, ok_calm, lift_some, rd_int, rd_bl, rd_tup, rd_lst, rd_rep, rd_scr, seqO_lst, seqO_tup, setTg1, bAdd, bSub, cLt, cLe, cGt, cGe, cEq, cNe, lenT, lenL, bInt, getT, getLs, idT, idL, omap, List.map_cons, List.map_nil, List.replicate, List.cons_append, List.nil_append, List.append_nil, List.getElem?_cons_zero, List.getElem?_cons_succ, List.set_cons_zero, List.set_cons_succ, List.length_map, List.length_cons, List.length_nil, wipeE, if_true, arr, Option.bind_some, List.reverse_nil, tupL, par2, par3, Nat.zero_add, Nat.reduceAdd, cap0, cap1, cap2, cap3, decide_eq_true hB', hL1, h19 b (L - 1) (by omega), hB2, h19 (aft b t.length) (L - 1) (by omega), Bool.true_and, Bool.false_or]
      cases hC : (rk t b (L - 1) == bl t)
      · cases hE : (rk t (aft b t.length) (L - 1) == bl t)
        · refine ⟨some (.int (aft b t.length : Nat)), some (.bl false), ?_⟩
          simp only [evSs, evS, evE, evEs, ok_bind, ok_thn, nx_seq, rt_seq, ok_calm, lift_some, rd_int, rd_bl, rd_tup, rd_lst, rd_rep, rd_scr, seqO_lst, seqO_tup, setTg1, bAdd, bSub, cLt, cLe, cGt, cGe, cEq, cNe, lenT, lenL, bInt, getT, getLs, idT, idL, omap, List.map_cons, List.map_nil, List.replicate, List.cons_append, List.nil_append, List.append_nil, List.getElem?_cons_zero, List.getElem?_cons_succ, List.set_cons_zero, List.set_cons_succ, List.length_map, List.length_cons, List.length_nil, wipeE, if_true, arr, Option.bind_some, List.reverse_nil, tupL, par2, par3, Nat.zero_add, Nat.reduceAdd, cap0, cap1, cap2, cap3, Bool.not_false, isLL_end, app_end ha, Bool.and_self]
        · refine ⟨some (.int (aft b t.length : Nat)), some (.bl true), ?_⟩
          simp only [evSs, evS, evE, evEs, ok_bind, ok_thn, nx_seq, rt_seq, ok_calm, lift_some, rd_int, rd_bl, rd_tup, rd_lst, rd_rep, rd_scr, seqO_lst, seqO_tup, setTg1, bAdd, bSub, cLt, cLe, cGt, cGe, cEq, cNe, lenT, lenL, bInt, getT, getLs, idT, idL, omap, List.map_cons, List.map_nil, List.replicate, List.cons_append, List.nil_append, List.append_nil, List.getElem?_cons_zero, List.getElem?_cons_succ, List.set_cons_zero, List.set_cons_succ, List.length_map, List.length_cons, List.length_nil, wipeE, if_true, arr, Option.bind_some, List.reverse_nil, tupL, par2, par3, Nat.zero_add, Nat.reduceAdd, cap0, cap1, cap2, cap3]
          simp [nx_seq, ok_bind, ok_thn, evSs]
      · refine ⟨some (.int (aft b t.length : Nat)), some (.bl true), ?_⟩
        simp only [evSs, evS, evE, evEs, ok_bind, ok_thn, nx_seq, rt_seq, ok_calm, lift_some, rd_int, rd_bl, rd_tup, rd_lst, rd_rep, rd_scr, seqO_lst, seqO_tup, setTg1, bAdd, bSub, cLt, cLe, cGt, cGe, cEq, cNe, lenT, lenL, bInt, getT, getLs, idT, idL, omap, List.map_cons, List.map_nil, List.replicate, List.cons_append, List.nil_append, List.append_nil, List.getElem?_cons_zero, List.getElem?_cons_succ, List.set_cons_zero, List.set_cons_succ, List.length_map, List.length_cons, List.length_nil, wipeE, if_true, arr, Option.bind_some, List.reverse_nil, tupL, par2, par3, Nat.zero_add, Nat.reduceAdd, cap0, cap1, cap2, cap3]
        simp [nx_seq, ok_bind, ok_thn, evSs]
theorem e22 {k : Nat} {t : List Int} {s : Sto} (ht : 0 < t.length) (hn : t.length ≤ 20) (hs : Cl s) : run F (k + 3) 22 [.tup (t.map .int)] s = .ok (.tup (fulls t)) s := by
  have h19 : ∀ acc, prL acc → ∀ b' L', L' ≤ 1000 → run F (k + 2) 19 [.tup (t.map .int), .int (b' : Nat), .int (L' : Nat)] (s ++ [.lst acc]) = .ok (.int (rk t b' L')) (s ++ [.lst acc]) := fun acc hp b' L' h' => e19 ht h' (hs.lst (clean_acc hp))
  have hd : binD .fdiv (.int t.sum) (.int (t.length : Int)) = some (.int (bl t)) := bDiv (by omega) (by omega)
  rw [run_at F22 rfl]
  generalize run F (k + 2) = cl at h19 ⊢
  simp only [f22, evSs, evS, evE, evEs, ok_bind, ok_thn, nx_seq, rt_seq, ok_calm, lift_some, rd_int, rd_bl, rd_tup, rd_lst, rd_rep, rd_scr, seqO_lst, seqO_tup, setTg1, bAdd, bSub, cLt, cLe, cGt, cGe, cEq, cNe, lenT, lenL, bInt, getT, getLs, idT, idL, omap, List.map_cons, List.map_nil, List.replicate, List.cons_append, List.nil_append, List.append_nil, List.getElem?_cons_zero, List.getElem?_cons_succ, List.set_cons_zero, List.set_cons_succ, List.length_map, List.length_cons, List.length_nil, wipeE, if_true, arr, Option.bind_some, List.reverse_nil, tupL, par2, par3, Nat.zero_add, Nat.reduceAdd, cap0, cap1, cap2, cap3, ok20 hn, Int.toNat_natCast, sumT, hd]
  have e1 : ((t.length : Int) + 1).toNat = t.length + 1 := by omega
  obtain ⟨env', h1, ⟨a, c, d, e, h2⟩, h3⟩ := two_loops (f := fun b y env1 s2 => evSs cl l22_0 (env1.set 5 (some y)) s2) (g := fun y env1 s2 => evSs cl l22_1 (env1.set 1 (some y)) s2) (c := cU t) (lo := 0) (n := t.length) (m := t.length + 1) (s := s)
    (J0 := fun env => ∃ a c d e, env = [some (.tup (t.map .int)), a, some (.int t.length), some (.int (bl t)), some (.loc s.length), c, d, e]) (J := fun b env => ∃ c d e, env = [some (.tup (t.map .int)), some (.int b), some (.int t.length), some (.int (bl t)), some (.loc s.length), c, d, e])
    (env := [some (.tup (t.map .int)), none, some (.int t.length), some (.int (bl t)), some (.loc s.length), none, none, none]) (by omega) (by omega) ⟨_, _, _, _, rfl⟩ (fun b env ⟨c, d, e, h⟩ => ⟨_, _, _, _, h⟩)
    (fun b hb env acc hp hl ⟨a, c, d, e, h⟩ => by
      subst h
      refine ⟨_, ?_, c, d, e, rfl⟩
      unfold l22_1
      simp only [evSs, evS, evE, evEs, ok_bind, ok_thn, nx_seq, rt_seq, ok_calm, lift_some, rd_int, rd_bl, rd_tup, rd_lst, rd_rep, rd_scr, seqO_lst, seqO_tup, setTg1, bAdd, bSub, cLt, cLe, cGt, cGe, cEq, cNe, lenT, lenL, bInt, getT, getLs, idT, idL, omap, List.map_cons, List.map_nil, List.replicate, List.cons_append, List.nil_append, List.append_nil, List.getElem?_cons_zero, List.getElem?_cons_succ, List.set_cons_zero, List.set_cons_succ, List.length_map, List.length_cons, List.length_nil, wipeE, if_true, arr, Option.bind_some, List.reverse_nil, tupL, par2, par3, Nat.zero_add, Nat.reduceAdd, cap0, cap1, cap2, cap3, okR2 hn, e1]
      rfl)
    (fun b L hb h1 h2 env acc hp ha ⟨c, d, e, h⟩ => by
      subst h
      simp only [List.set_cons_zero, List.set_cons_succ]
      obtain ⟨c', d', hc⟩ := i22 (b := b) (L := L) (c := d) (d := e) ht hn (by omega) ha (h19 acc hp)
      exact ⟨_, hc, _, _, _, rfl⟩)
  rw [h1, h2]
  simp only [evSs, evS, evE, evEs, ok_bind, ok_thn, nx_seq, rt_seq, ok_calm, lift_some, rd_int, rd_bl, rd_tup, rd_lst, rd_rep, rd_scr, seqO_lst, seqO_tup, setTg1, bAdd, bSub, cLt, cLe, cGt, cGe, cEq, cNe, lenT, lenL, bInt, getT, getLs, idT, idL, omap, List.map_cons, List.map_nil, List.replicate, List.cons_append, List.nil_append, List.append_nil, List.getElem?_cons_zero, List.getElem?_cons_succ, List.set_cons_zero, List.set_cons_succ, List.length_map, List.length_cons, List.length_nil, wipeE, if_true, arr, Option.bind_some, List.reverse_nil, tupL, par2, par3, Nat.zero_add, Nat.reduceAdd, cap0, cap1, cap2, cap3, rd_end]
  rw [dG_sorted]
  simp only [evSs, evS, evE, evEs, ok_bind, ok_thn, nx_seq, rt_seq, ok_calm, lift_some, rd_int, rd_bl, rd_tup, rd_lst, rd_rep, rd_scr, seqO_lst, seqO_tup, setTg1, bAdd, bSub, cLt, cLe, cGt, cGe, cEq, cNe, lenT, lenL, bInt, getT, getLs, idT, idL, omap, List.map_cons, List.map_nil, List.replicate, List.cons_append, List.nil_append, List.append_nil, List.getElem?_cons_zero, List.getElem?_cons_succ, List.set_cons_zero, List.set_cons_succ, List.length_map, List.length_cons, List.length_nil, wipeE, if_true, arr, Option.bind_some, List.reverse_nil, tupL, par2, par3, Nat.zero_add, Nat.reduceAdd, cap0, cap1, cap2, cap3]
  exact end_ext hs (clean_acc h3)
/-! ### questions of kind, ranks asked for -/
theorem isiI {i : Int} : biD .isi [.int i, .ty "int"] = some (.bl true) := id rfl
theorem isiB' {i : Int} : biD .isi [.int i, .ty "bool"] = some (.bl false) := id rfl
theorem isiT {l : List D} : biD .isi [.tup l, .ty "tuple"] = some (.bl true) := id rfl
theorem rd_ty {s : Sto} {n : String} : rd s (.ty n) = .ty n := id rfl
theorem rd_str {s : Sto} {n : Str} : rd s (.str n) = .str n := id rfl
theorem e0 {k : Nat} {i : Int} {s : Sto} (hs : Cl s) : run F (k + 1) 0 [.int i] s = .ok (.bl true) s := by
  rw [run_at F0 rfl]
  simp only [f0, evSs, evS, evE, evEs, ok_bind, ok_thn, nx_seq, rt_seq, ok_calm, lift_some, rd_int, rd_bl, rd_tup, rd_lst, rd_rep, rd_scr, seqO_lst, seqO_tup, setTg1, bAdd, bSub, cLt, cLe, cGt, cGe, cEq, cNe, lenT, lenL, bInt, getT, getLs, idT, idL, omap, List.map_cons, List.map_nil, List.replicate, List.cons_append, List.nil_append, List.append_nil, List.getElem?_cons_zero, List.getElem?_cons_succ, List.set_cons_zero, List.set_cons_succ, List.length_map, List.length_cons, List.length_nil, wipeE, if_true, arr, Option.bind_some, List.reverse_nil, tupL, par2, par3, Nat.zero_add, Nat.reduceAdd, cap0, cap1, cap2, cap3, rd_ty, isiI, isiB', Bool.not_false]
  exact end_bl hs
theorem e1 {k : Nat} {i : Int} {s : Sto} (hs : Cl s) : run F (k + 2) 1 [.int i] s = .ok (.bl (decide (0 ≤ i))) s := by
  have h0 := @e0 k i s hs
  rw [run_at F1 rfl]
  generalize run F (k + 1) = cl at h0 ⊢
  simp only [f1, evSs, evS, evE, evEs, ok_bind, ok_thn, nx_seq, rt_seq, ok_calm, lift_some, rd_int, rd_bl, rd_tup, rd_lst, rd_rep, rd_scr, seqO_lst, seqO_tup, setTg1, bAdd, bSub, cLt, cLe, cGt, cGe, cEq, cNe, lenT, lenL, bInt, getT, getLs, idT, idL, omap, List.map_cons, List.map_nil, List.replicate, List.cons_append, List.nil_append, List.append_nil, List.getElem?_cons_zero, List.getElem?_cons_succ, List.set_cons_zero, List.set_cons_succ, List.length_map, List.length_cons, List.length_nil, wipeE, if_true, arr, Option.bind_some, List.reverse_nil, tupL, par2, par3, Nat.zero_add, Nat.reduceAdd, cap0, cap1, cap2, cap3, h0]
  exact end_bl hs
theorem e2 {k : Nat} {i n : Int} {s : Sto} (hs : Cl s) (hi : 0 ≤ i) : run F (k + 3) 2 [.int i, .int n] s = .ok (.bl (decide (i < n))) s := by
  have h0 := @e1 k i s hs
  rw [decide_eq_true hi] at h0
  rw [run_at F2 rfl]
  generalize run F (k + 2) = cl at h0 ⊢
  simp only [f2, evSs, evS, evE, evEs, ok_bind, ok_thn, nx_seq, rt_seq, ok_calm, lift_some, rd_int, rd_bl, rd_tup, rd_lst, rd_rep, rd_scr, seqO_lst, seqO_tup, setTg1, bAdd, bSub, cLt, cLe, cGt, cGe, cEq, cNe, lenT, lenL, bInt, getT, getLs, idT, idL, omap, List.map_cons, List.map_nil, List.replicate, List.cons_append, List.nil_append, List.append_nil, List.getElem?_cons_zero, List.getElem?_cons_succ, List.set_cons_zero, List.set_cons_succ, List.length_map, List.length_cons, List.length_nil, wipeE, if_true, arr, Option.bind_some, List.reverse_nil, tupL, par2, par3, Nat.zero_add, Nat.reduceAdd, cap0, cap1, cap2, cap3, h0]
  exact end_bl hs
theorem e3 {k : Nat} {i : Int} {s : Sto} (hs : Cl s) : run F (k + 2) 3 [.int i] s = .ok (.bl (decide (1 ≤ i))) s := by
  have h0 := @e0 k i s hs
  rw [run_at F3 rfl]
  generalize run F (k + 1) = cl at h0 ⊢
  simp only [f3, evSs, evS, evE, evEs, ok_bind, ok_thn, nx_seq, rt_seq, ok_calm, lift_some, rd_int, rd_bl, rd_tup, rd_lst, rd_rep, rd_scr, seqO_lst, seqO_tup, setTg1, bAdd, bSub, cLt, cLe, cGt, cGe, cEq, cNe, lenT, lenL, bInt, getT, getLs, idT, idL, omap, List.map_cons, List.map_nil, List.replicate, List.cons_append, List.nil_append, List.append_nil, List.getElem?_cons_zero, List.getElem?_cons_succ, List.set_cons_zero, List.set_cons_succ, List.length_map, List.length_cons, List.length_nil, wipeE, if_true, arr, Option.bind_some, List.reverse_nil, tupL, par2, par3, Nat.zero_add, Nat.reduceAdd, cap0, cap1, cap2, cap3, h0]
  exact end_bl hs
theorem e4 {k : Nat} {a b : D} {s : Sto} (hs : Cl s) : run F (k + 1) 4 [.tup [a, b], .int 2] s = .ok (.bl true) s := by
  rw [run_at F4 rfl]
  simp only [f4, evSs, evS, evE, evEs, ok_bind, ok_thn, nx_seq, rt_seq, ok_calm, lift_some, rd_int, rd_bl, rd_tup, rd_lst, rd_rep, rd_scr, seqO_lst, seqO_tup, setTg1, bAdd, bSub, cLt, cLe, cGt, cGe, cEq, cNe, lenT, lenL, bInt, getT, getLs, idT, idL, omap, List.map_cons, List.map_nil, List.replicate, List.cons_append, List.nil_append, List.append_nil, List.getElem?_cons_zero, List.getElem?_cons_succ, List.set_cons_zero, List.set_cons_succ, List.length_map, List.length_cons, List.length_nil, wipeE, if_true, arr, Option.bind_some, List.reverse_nil, tupL, par2, par3, Nat.zero_add, Nat.reduceAdd, cap0, cap1, cap2, cap3, rd_ty, isiT]
  exact end_bl hs
theorem ix2a {a b : D} : ixD [a, b] 0 = some a := id rfl
theorem ix2b {a b : D} : ixD [a, b] 1 = some b := id rfl
theorem e5 {k : Nat} {n b L : Int} {s : Sto} (hs : Cl s) (h1 : 1 ≤ n) (h2 : 0 ≤ b) (h3 : b < n) (h4 : 0 ≤ L) (h5 : L ≤ n) : run F (k + 4) 5 [.int n, .tup [.int b, .int L]] s = .ok (.bl true) s := by
  have q3 := @e3 (k + 1) n s hs
  have q4 := @e4 (k + 2) (.int b) (.int L) s hs
  have q2 := @e2 k b n s hs h2
  have q1 := @e1 (k + 1) L s hs
  rw [decide_eq_true h1] at q3
  rw [decide_eq_true h3] at q2
  rw [decide_eq_true h4] at q1
  rw [run_at F5 rfl]
  generalize run F (k + 3) = cl at q1 q2 q3 q4 ⊢
  simp only [f5, evSs, evS, evE, evEs, ok_bind, ok_thn, nx_seq, rt_seq, ok_calm, lift_some, rd_int, rd_bl, rd_tup, rd_lst, rd_rep, rd_scr, seqO_lst, seqO_tup, setTg1, bAdd, bSub, cLt, cLe, cGt, cGe, cEq, cNe, lenT, lenL, bInt, getT, getLs, idT, idL, omap, List.map_cons, List.map_nil, List.replicate, List.cons_append, List.nil_append, List.append_nil, List.getElem?_cons_zero, List.getElem?_cons_succ, List.set_cons_zero, List.set_cons_succ, List.length_map, List.length_cons, List.length_nil, wipeE, if_true, arr, Option.bind_some, List.reverse_nil, tupL, par2, par3, Nat.zero_add, Nat.reduceAdd, cap0, cap1, cap2, cap3, q3, q4, q2, q1, Bool.not_true, ix2a, ix2b, decide_eq_true h5]
  exact end_bl hs
theorem e12 {k : Nat} {w a : D} {s : Sto} (hs : Cl s) : run F (k + 1) 12 [.bl true, w, a] s = .ok .non s := by
  rw [run_at F12 rfl]
  simp only [f12, evSs, evS, evE, evEs, ok_bind, ok_thn, nx_seq, rt_seq, ok_calm, lift_some, rd_int, rd_bl, rd_tup, rd_lst, rd_rep, rd_scr, seqO_lst, seqO_tup, setTg1, bAdd, bSub, cLt, cLe, cGt, cGe, cEq, cNe, lenT, lenL, bInt, getT, getLs, idT, idL, omap, List.map_cons, List.map_nil, List.replicate, List.cons_append, List.nil_append, List.append_nil, List.getElem?_cons_zero, List.getElem?_cons_succ, List.set_cons_zero, List.set_cons_succ, List.length_map, List.length_cons, List.length_nil, wipeE, if_true, arr, Option.bind_some, List.reverse_nil, tupL, par2, par3, Nat.zero_add, Nat.reduceAdd, cap0, cap1, cap2, cap3, Bool.not_true]
  exact fz_same (d := .non) hs rfl
theorem e13 {k : Nat} {t : List Int} {b L : Nat} {s : Sto} (ht : 0 < t.length) (hn : t.length ≤ 20) (hs : Cl s) (hb : b < t.length) (hL : L ≤ t.length) : run F (k + 5) 13 [.tup (t.map .int), .tup [.int b, .int L]] s = .ok (.int (rk t b L)) s := by
  have q5 := @e5 k (t.length : Int) (b : Int) (L : Int) s hs (by omega) (by omega) (by omega) (by omega) (by omega)
  have q12 := @e12 (k + 3) (.str "stretch") (.int (-1)) s hs
  have q6 := @e6 (k + 3) t b L s ht (by omega) hs
  rw [run_at F13 rfl]
  generalize run F (k + 4) = cl at q5 q12 q6 ⊢
  simp only [f13, evSs, evS, evE, evEs, ok_bind, ok_thn, nx_seq, rt_seq, ok_calm, lift_some, rd_int, rd_bl, rd_tup, rd_lst, rd_rep, rd_scr, seqO_lst, seqO_tup, setTg1, bAdd, bSub, cLt, cLe, cGt, cGe, cEq, cNe, lenT, lenL, bInt, getT, getLs, idT, idL, omap, List.map_cons, List.map_nil, List.replicate, List.cons_append, List.nil_append, List.append_nil, List.getElem?_cons_zero, List.getElem?_cons_succ, List.set_cons_zero, List.set_cons_succ, List.length_map, List.length_cons, List.length_nil, wipeE, if_true, arr, Option.bind_some, List.reverse_nil, tupL, par2, par3, Nat.zero_add, Nat.reduceAdd, cap0, cap1, cap2, cap3, rd_str, q5, q12, q6, ix2a, ix2b]
  exact end_int hs
theorem e10 {k : Nat} {t : List Int} {s : Sto} (ht : 0 < t.length) (hn : t.length ≤ 20) (hs : Cl s) : run F (k + 4) 10 [.tup (t.map .int)] s = .ok (.tup (frees t)) s := by
  obtain ⟨q, p⟩ := @e8 k t s ht hn hs
  rw [run_at F10 rfl]
  generalize run F (k + 3) = cl at q ⊢
  simp only [f10, evSs, evS, evE, evEs, ok_bind, ok_thn, nx_seq, rt_seq, ok_calm, lift_some, rd_int, rd_bl, rd_tup, rd_lst, rd_rep, rd_scr, seqO_lst, seqO_tup, setTg1, bAdd, bSub, cLt, cLe, cGt, cGe, cEq, cNe, lenT, lenL, bInt, getT, getLs, idT, idL, omap, List.map_cons, List.map_nil, List.replicate, List.cons_append, List.nil_append, List.append_nil, List.getElem?_cons_zero, List.getElem?_cons_succ, List.set_cons_zero, List.set_cons_succ, List.length_map, List.length_cons, List.length_nil, wipeE, if_true, arr, Option.bind_some, List.reverse_nil, tupL, par2, par3, Nat.zero_add, Nat.reduceAdd, cap0, cap1, cap2, cap3, q]
  exact end_sm (d := .tup (frees t)) hs (clean_acc p)
theorem e11 {k : Nat} {t : List Int} {s : Sto} (ht : 0 < t.length) (hn : t.length ≤ 20) (hs : Cl s) : run F (k + 3) 11 [.tup (t.map .int)] s = .ok (.tup (fulls t)) s := by
  obtain ⟨q, p⟩ := @e9 k t s ht hn hs
  rw [run_at F11 rfl]
  generalize run F (k + 2) = cl at q ⊢
  simp only [f11, evSs, evS, evE, evEs, ok_bind, ok_thn, nx_seq, rt_seq, ok_calm, lift_some, rd_int, rd_bl, rd_tup, rd_lst, rd_rep, rd_scr, seqO_lst, seqO_tup, setTg1, bAdd, bSub, cLt, cLe, cGt, cGe, cEq, cNe, lenT, lenL, bInt, getT, getLs, idT, idL, omap, List.map_cons, List.map_nil, List.replicate, List.cons_append, List.nil_append, List.append_nil, List.getElem?_cons_zero, List.getElem?_cons_succ, List.set_cons_zero, List.set_cons_succ, List.length_map, List.length_cons, List.length_nil, wipeE, if_true, arr, Option.bind_some, List.reverse_nil, tupL, par2, par3, Nat.zero_add, Nat.reduceAdd, cap0, cap1, cap2, cap3, q]
  exact end_sm (d := .tup (fulls t)) hs (clean_acc p)
end K15

set_option Elab.async false
set_option linter.all false
set_option maxRecDepth 100000
set_option maxHeartbeats 4000000
namespace K15
open T5 PySem
theorem e14 {k : Nat} {t : List Int} : ∃ u : List Int, run F (k + 1) 14 [.scr (t.map .int)] [] = .ok (.loc 0) [fe u 0 0 0] := by
  obtain ⟨u, hu⟩ := cut_ints t none (some 62)
  refine ⟨u, ?_⟩
  rw [run_at F14 rfl]
  have h1 : slcD none (some 62) (.scr (t.map .int)) = some (.lst (u.map .int)) := by
    show some (D.lst (cutD (t.map .int) none (some 62))) = _
    rw [hu]
  have h2 : biD .list [.lst (u.map .int)] = some (.lst (u.map .int)) := id rfl
  simp only [f14, evSs, evS, evE, evEs, ok_bind, ok_thn, nx_seq, rt_seq, ok_calm, lift_some, rd_int, rd_bl, rd_tup, rd_lst, rd_rep, rd_scr, seqO_lst, seqO_tup, setTg1, bAdd, bSub, cLt, cLe, cGt, cGe, cEq, cNe, lenT, lenL, bInt, getT, getLs, idT, idL, omap, List.map_cons, List.map_nil, List.replicate, List.cons_append, List.nil_append, List.append_nil, List.getElem?_cons_zero, List.getElem?_cons_succ, List.set_cons_zero, List.set_cons_succ, List.length_map, List.length_cons, List.length_nil, wipeE, if_true, arr, Option.bind_some, List.reverse_nil, tupL, par2, par3, Nat.zero_add, Nat.reduceAdd, cap0, cap1, cap2, cap3, partD, h1, h2, fe_new]
  rfl
def tm15 : CSs := (.cons (.asg [4] (.bin .mod (.bi .int (.cons (.bin .add (.bin .add (.bin .mod (.bi .int (.cons (.var 3) .nil)) (.con (.int (1000001431)))) (.bin .mul (.con (.int (67003))) (.idx (.var 0) (.con (.str "count"))))) (.con (.int (673)))) .nil)) (.con (.int (2147480837))))) (.cons (.asg [4] (.bin .mod (.bi .int (.cons (.bin .add (.bin .add (.bin .mul (.var 4) (.var 4)) (.bin .mul (.con (.int (13700047))) (.idx (.var 0) (.con (.str "count"))))) (.con (.int (673)))) .nil)) (.con (.int (2147480827))))) (.cons (.ret (.bin .mod (.bi .int (.cons (.bin .fdiv (.bin .mod (.bi .int (.cons (.bin .add (.bin .mul (.var 4) (.var 4)) (.bin .mul (.con (.int (619))) (.var 4))) .nil)) (.con (.int (2147480803)))) (.con (.int (32)))) .nil)) (.var 1))) .nil)))
def tl15 : CSs := (.cons (.iff (.and (.cmp .ge (.var 3) (.bin .pow (.con (.int (10))) (.con (.int (18))))) (.cmp .lt (.var 2) (.bi .len (.cons (.idx (.var 0) (.con (.str "cells"))) .nil)))) (.cons (.setI (.var 0) (.con (.str "left")) (.bin .fdiv (.var 3) (.var 1))) (.cons (.ret (.bin .mod (.bi .int (.cons (.var 3) .nil)) (.var 1))) .nil)) .nil) (.cons (.asg [4] (.bin .mod (.bi .int (.cons (.bin .add (.bin .add (.bin .mod (.bi .int (.cons (.var 3) .nil)) (.con (.int (1000001431)))) (.bin .mul (.con (.int (67003))) (.idx (.var 0) (.con (.str "count"))))) (.con (.int (673)))) .nil)) (.con (.int (2147480837))))) (.cons (.asg [4] (.bin .mod (.bi .int (.cons (.bin .add (.bin .add (.bin .mul (.var 4) (.var 4)) (.bin .mul (.con (.int (13700047))) (.idx (.var 0) (.con (.str "count"))))) (.con (.int (673)))) .nil)) (.con (.int (2147480827))))) (.cons (.ret (.bin .mod (.bi .int (.cons (.bin .fdiv (.bin .mod (.bi .int (.cons (.bin .add (.bin .mul (.var 4) (.var 4)) (.bin .mul (.con (.int (619))) (.var 4))) .nil)) (.con (.int (2147480803)))) (.con (.int (32)))) .nil)) (.var 1))) .nil))))
theorem e15 {k : Nat} {u : List Int} {a l c m : Int} {r : Sto} (hm : 0 < m) (hm2 : m < 1073741824) (hr : cleanS (r.length + 1) r = true) :
    ∃ v a' l' c', 0 ≤ v ∧ v < m ∧ run F (k + 1) 15 [.loc 0, .int m] (fe u a l c :: r) = .ok (.int v) (fe u a' l' c' :: r) := by
  have m1 : ∀ i, binD .mod (.int i) (.int m) = some (.int (i % m)) := fun i => bMod hm
  have m2 : ∀ i, binD .mod (.int i) (.int 1000001431) = some (.int (i % 1000001431)) := fun i => bMod (by decide)
  have m3 : ∀ i, binD .mod (.int i) (.int 2147480837) = some (.int (i % 2147480837)) := fun i => bMod (by decide)
  have m4 : ∀ i, binD .mod (.int i) (.int 2147480827) = some (.int (i % 2147480827)) := fun i => bMod (by decide)
  have m5 : ∀ i, binD .mod (.int i) (.int 2147480803) = some (.int (i % 2147480803)) := fun i => bMod (by decide)
  have d1 : ∀ i, binD .fdiv (.int i) (.int m) = some (.int (i / m)) := fun i => bDiv hm hm2
  have d2 : ∀ i, binD .fdiv (.int i) (.int 32) = some (.int (i / 32)) := fun i => bDiv (by decide) (by decide)
  have p1 : ∀ i, binD .mul (.int 67003) (.int i) = some (.int (67003 * i)) := fun i => bMul (.inl (by decide))
  have p2 : ∀ i, binD .mul (.int 13700047) (.int i) = some (.int (13700047 * i)) := fun i => bMul (.inl (by decide))
  have p3 : ∀ i, binD .mul (.int 619) (.int i) = some (.int (619 * i)) := fun i => bMul (.inl (by decide))
  have p4 : ∀ i, binD .mul (.int (i % 2147480837)) (.int (i % 2147480837)) = some (.int (i % 2147480837 * (i % 2147480837))) := fun i => bMul (.inl ⟨by omega, by omega⟩)
  have p5 : ∀ i, binD .mul (.int (i % 2147480827)) (.int (i % 2147480827)) = some (.int (i % 2147480827 * (i % 2147480827))) := fun i => bMul (.inl ⟨by omega, by omega⟩)
  have rng : ∀ i, 0 ≤ i % m ∧ i % m < m := fun i => ⟨Int.emod_nonneg _ (by omega), Int.emod_lt_of_pos _ hm⟩
  rw [run_at F15 rfl]
  simp only [f15, evSs, evS, evE, evEs, ok_bind, ok_thn, nx_seq, rt_seq, ok_calm, lift_some, rd_int, rd_bl, rd_tup, rd_lst, rd_rep, rd_scr, seqO_lst, seqO_tup, setTg1, bAdd, bSub, cLt, cLe, cGt, cGe, cEq, cNe, lenT, lenL, bInt, getT, getLs, idT, idL, omap, List.map_cons, List.map_nil, List.replicate, List.cons_append, List.nil_append, List.append_nil, List.getElem?_cons_zero, List.getElem?_cons_succ, List.set_cons_zero, List.set_cons_succ, List.length_map, List.length_cons, List.length_nil, wipeE, if_true, arr, Option.bind_some, List.reverse_nil, tupL, par2, par3, Nat.zero_add, Nat.reduceAdd, cap0, cap1, cap2, cap3, fe_count, set_count, fe_left]
  by_cases hl : 0 < l
  · rw [decide_eq_true hl]
    simp only [evSs, evS, evE, evEs, ok_bind, ok_thn, nx_seq, rt_seq, ok_calm, lift_some, rd_int, rd_bl, rd_tup, rd_lst, rd_rep, rd_scr, seqO_lst, seqO_tup, setTg1, bAdd, bSub, cLt, cLe, cGt, cGe, cEq, cNe, lenT, lenL, bInt, getT, getLs, idT, idL, omap, List.map_cons, List.map_nil, List.replicate, List.cons_append, List.nil_append, List.append_nil, List.getElem?_cons_zero, List.getElem?_cons_succ, List.set_cons_zero, List.set_cons_succ, List.length_map, List.length_cons, List.length_nil, wipeE, if_true, arr, Option.bind_some, List.reverse_nil, tupL, par2, par3, Nat.zero_add, Nat.reduceAdd, cap0, cap1, cap2, cap3, fe_left, m1, d1, set_left]
    exact ⟨_, _, _, _, (rng _).1, (rng _).2, end_int (s := fe u a (l / m) (c + 1) :: r) (cl_fe hr)⟩
  · rw [decide_eq_false hl]
    simp only [evSs, evS, evE, evEs, ok_bind, ok_thn, nx_seq, rt_seq, ok_calm, lift_some, rd_int, rd_bl, rd_tup, rd_lst, rd_rep, rd_scr, seqO_lst, seqO_tup, setTg1, bAdd, bSub, cLt, cLe, cGt, cGe, cEq, cNe, lenT, lenL, bInt, getT, getLs, idT, idL, omap, List.map_cons, List.map_nil, List.replicate, List.cons_append, List.nil_append, List.append_nil, List.getElem?_cons_zero, List.getElem?_cons_succ, List.set_cons_zero, List.set_cons_succ, List.length_map, List.length_cons, List.length_nil, wipeE, if_true, arr, Option.bind_some, List.reverse_nil, tupL, par2, par3, Nat.zero_add, Nat.reduceAdd, cap0, cap1, cap2, cap3, fe_at, set_at, fe_cells, fe_count, neNil, pow18]
    have tail : ∀ x : Int, ∃ v a' l' c', 0 ≤ v ∧ v < m ∧ endF false (r.length + 1) (evSs (run F k) tl15 [some (.loc 0), some (.int m), some (.int a), some (.int x), none, none] (fe u (a + 1) l (c + 1) :: r)) = .ok (.int v) (fe u a' l' c' :: r) := fun x => by
      unfold tl15
      simp only [evSs, evS, evE, evEs, ok_bind, ok_thn, nx_seq, rt_seq, ok_calm, lift_some, rd_int, rd_bl, rd_tup, rd_lst, rd_rep, rd_scr, seqO_lst, seqO_tup, setTg1, bAdd, bSub, cLt, cLe, cGt, cGe, cEq, cNe, lenT, lenL, bInt, getT, getLs, idT, idL, omap, List.map_cons, List.map_nil, List.replicate, List.cons_append, List.nil_append, List.append_nil, List.getElem?_cons_zero, List.getElem?_cons_succ, List.set_cons_zero, List.set_cons_succ, List.length_map, List.length_cons, List.length_nil, wipeE, if_true, arr, Option.bind_some, List.reverse_nil, tupL, par2, par3, Nat.zero_add, Nat.reduceAdd, cap0, cap1, cap2, cap3, pow18, fe_cells]
      have fin : ∃ v a' l' c', 0 ≤ v ∧ v < m ∧ endF false (r.length + 1) (evSs (run F k) tm15 [some (.loc 0), some (.int m), some (.int a), some (.int x), none, none] (fe u (a + 1) l (c + 1) :: r)) = .ok (.int v) (fe u a' l' c' :: r) := by
        unfold tm15
        simp only [evSs, evS, evE, evEs, ok_bind, ok_thn, nx_seq, rt_seq, ok_calm, lift_some, rd_int, rd_bl, rd_tup, rd_lst, rd_rep, rd_scr, seqO_lst, seqO_tup, setTg1, bAdd, bSub, cLt, cLe, cGt, cGe, cEq, cNe, lenT, lenL, bInt, getT, getLs, idT, idL, omap, List.map_cons, List.map_nil, List.replicate, List.cons_append, List.nil_append, List.append_nil, List.getElem?_cons_zero, List.getElem?_cons_succ, List.set_cons_zero, List.set_cons_succ, List.length_map, List.length_cons, List.length_nil, wipeE, if_true, arr, Option.bind_some, List.reverse_nil, tupL, par2, par3, Nat.zero_add, Nat.reduceAdd, cap0, cap1, cap2, cap3, fe_count, m2, m3, m4, m5, p1, p2, p3, p4, p5, d2, m1]
        exact ⟨_, _, _, _, (rng _).1, (rng _).2, end_int (s := fe u (a + 1) l (c + 1) :: r) (cl_fe hr)⟩
      unfold tm15 at fin
      by_cases h1 : (1000000000000000000 : Int) ≤ x
      · by_cases h2 : a < (u.length : Int)
        · simp only [evSs, evS, evE, evEs, ok_bind, ok_thn, nx_seq, rt_seq, ok_calm, lift_some, rd_int, rd_bl, rd_tup, rd_lst, rd_rep, rd_scr, seqO_lst, seqO_tup, setTg1, bAdd, bSub, cLt, cLe, cGt, cGe, cEq, cNe, lenT, lenL, bInt, getT, getLs, idT, idL, omap, List.map_cons, List.map_nil, List.replicate, List.cons_append, List.nil_append, List.append_nil, List.getElem?_cons_zero, List.getElem?_cons_succ, List.set_cons_zero, List.set_cons_succ, List.length_map, List.length_cons, List.length_nil, wipeE, if_true, arr, Option.bind_some, List.reverse_nil, tupL, par2, par3, Nat.zero_add, Nat.reduceAdd, cap0, cap1, cap2, cap3, decide_eq_true h1, decide_eq_true h2, fe_cells, d1, m1, set_left]
          exact ⟨_, _, _, _, (rng _).1, (rng _).2, end_int (s := fe u (a + 1) (x / m) (c + 1) :: r) (cl_fe hr)⟩
        · simp only [evSs, evS, evE, evEs, ok_bind, ok_thn, nx_seq, rt_seq, ok_calm, lift_some, rd_int, rd_bl, rd_tup, rd_lst, rd_rep, rd_scr, seqO_lst, seqO_tup, setTg1, bAdd, bSub, cLt, cLe, cGt, cGe, cEq, cNe, lenT, lenL, bInt, getT, getLs, idT, idL, omap, List.map_cons, List.map_nil, List.replicate, List.cons_append, List.nil_append, List.append_nil, List.getElem?_cons_zero, List.getElem?_cons_succ, List.set_cons_zero, List.set_cons_succ, List.length_map, List.length_cons, List.length_nil, wipeE, if_true, arr, Option.bind_some, List.reverse_nil, tupL, par2, par3, Nat.zero_add, Nat.reduceAdd, cap0, cap1, cap2, cap3, decide_eq_true h1, decide_eq_false h2, fe_cells]
          simpa only [evSs, evS, evE, evEs, ok_bind, ok_thn, nx_seq, rt_seq, ok_calm, lift_some, rd_int, rd_bl, rd_tup, rd_lst, rd_rep, rd_scr, seqO_lst, seqO_tup, setTg1, bAdd, bSub, cLt, cLe, cGt, cGe, cEq, cNe, lenT, lenL, bInt, getT, getLs, idT, idL, omap, List.map_cons, List.map_nil, List.replicate, List.cons_append, List.nil_append, List.append_nil, List.getElem?_cons_zero, List.getElem?_cons_succ, List.set_cons_zero, List.set_cons_succ, List.length_map, List.length_cons, List.length_nil, wipeE, if_true, arr, Option.bind_some, List.reverse_nil, tupL, par2, par3, Nat.zero_add, Nat.reduceAdd, cap0, cap1, cap2, cap3] using fin
      · simp only [evSs, evS, evE, evEs, ok_bind, ok_thn, nx_seq, rt_seq, ok_calm, lift_some, rd_int, rd_bl, rd_tup, rd_lst, rd_rep, rd_scr, seqO_lst, seqO_tup, setTg1, bAdd, bSub, cLt, cLe, cGt, cGe, cEq, cNe, lenT, lenL, bInt, getT, getLs, idT, idL, omap, List.map_cons, List.map_nil, List.replicate, List.cons_append, List.nil_append, List.append_nil, List.getElem?_cons_zero, List.getElem?_cons_succ, List.set_cons_zero, List.set_cons_succ, List.length_map, List.length_cons, List.length_nil, wipeE, if_true, arr, Option.bind_some, List.reverse_nil, tupL, par2, par3, Nat.zero_add, Nat.reduceAdd, cap0, cap1, cap2, cap3, decide_eq_false h1]
        simpa only [evSs, evS, evE, evEs, ok_bind, ok_thn, nx_seq, rt_seq, ok_calm, lift_some, rd_int, rd_bl, rd_tup, rd_lst, rd_rep, rd_scr, seqO_lst, seqO_tup, setTg1, bAdd, bSub, cLt, cLe, cGt, cGe, cEq, cNe, lenT, lenL, bInt, getT, getLs, idT, idL, omap, List.map_cons, List.map_nil, List.replicate, List.cons_append, List.nil_append, List.append_nil, List.getElem?_cons_zero, List.getElem?_cons_succ, List.set_cons_zero, List.set_cons_succ, List.length_map, List.length_cons, List.length_nil, wipeE, if_true, arr, Option.bind_some, List.reverse_nil, tupL, par2, par3, Nat.zero_add, Nat.reduceAdd, cap0, cap1, cap2, cap3] using fin
    unfold tl15 at tail
    by_cases hu : u.isEmpty = true
    · rw [hu]
      simp only [evSs, evS, evE, evEs, ok_bind, ok_thn, nx_seq, rt_seq, ok_calm, lift_some, rd_int, rd_bl, rd_tup, rd_lst, rd_rep, rd_scr, seqO_lst, seqO_tup, setTg1, bAdd, bSub, cLt, cLe, cGt, cGe, cEq, cNe, lenT, lenL, bInt, getT, getLs, idT, idL, omap, List.map_cons, List.map_nil, List.replicate, List.cons_append, List.nil_append, List.append_nil, List.getElem?_cons_zero, List.getElem?_cons_succ, List.set_cons_zero, List.set_cons_succ, List.length_map, List.length_cons, List.length_nil, wipeE, if_true, arr, Option.bind_some, List.reverse_nil, tupL, par2, par3, Nat.zero_add, Nat.reduceAdd, cap0, cap1, cap2, cap3, Bool.not_true]
      have := tail 883
      simpa only [evSs, evS, evE, evEs, ok_bind, ok_thn, nx_seq, rt_seq, ok_calm, lift_some, rd_int, rd_bl, rd_tup, rd_lst, rd_rep, rd_scr, seqO_lst, seqO_tup, setTg1, bAdd, bSub, cLt, cLe, cGt, cGe, cEq, cNe, lenT, lenL, bInt, getT, getLs, idT, idL, omap, List.map_cons, List.map_nil, List.replicate, List.cons_append, List.nil_append, List.append_nil, List.getElem?_cons_zero, List.getElem?_cons_succ, List.set_cons_zero, List.set_cons_succ, List.length_map, List.length_cons, List.length_nil, wipeE, if_true, arr, Option.bind_some, List.reverse_nil, tupL, par2, par3, Nat.zero_add, Nat.reduceAdd, cap0, cap1, cap2, cap3, pow18, fe_cells, fe_count] using this
    · have hu' : u.isEmpty = false := by simpa using hu
      have hlen : 0 < u.length := by
        cases u with
        | nil => exact absurd rfl hu
        | cons => simp
      have m6 : ∀ i, binD .mod (.int i) (.int (u.length : Int)) = some (.int (i % (u.length : Int))) := fun i => bMod (by omega)
      have ej : a % (u.length : Int) = (((a % (u.length : Int)).toNat : Nat) : Int) := (Int.toNat_of_nonneg (Int.emod_nonneg _ (by omega))).symm
      have hj : (a % (u.length : Int)).toNat < u.length := by
        have := Int.emod_lt_of_pos a (show (0 : Int) < (u.length : Int) by omega)
        omega
      have hx : ixD (u.map .int) (a % (u.length : Int)) = some (.int (u.getD (a % (u.length : Int)).toNat 0)) := by
        rw [ej]
        exact ixD_ints hj
      rw [hu']
      simp only [evSs, evS, evE, evEs, ok_bind, ok_thn, nx_seq, rt_seq, ok_calm, lift_some, rd_int, rd_bl, rd_tup, rd_lst, rd_rep, rd_scr, seqO_lst, seqO_tup, setTg1, bAdd, bSub, cLt, cLe, cGt, cGe, cEq, cNe, lenT, lenL, bInt, getT, getLs, idT, idL, omap, List.map_cons, List.map_nil, List.replicate, List.cons_append, List.nil_append, List.append_nil, List.getElem?_cons_zero, List.getElem?_cons_succ, List.set_cons_zero, List.set_cons_succ, List.length_map, List.length_cons, List.length_nil, wipeE, if_true, arr, Option.bind_some, List.reverse_nil, tupL, par2, par3, Nat.zero_add, Nat.reduceAdd, cap0, cap1, cap2, cap3, Bool.not_false, m6, hx]
      have := tail (u.getD (a % (u.length : Int)).toNat 0)
      simpa only [evSs, evS, evE, evEs, ok_bind, ok_thn, nx_seq, rt_seq, ok_calm, lift_some, rd_int, rd_bl, rd_tup, rd_lst, rd_rep, rd_scr, seqO_lst, seqO_tup, setTg1, bAdd, bSub, cLt, cLe, cGt, cGe, cEq, cNe, lenT, lenL, bInt, getT, getLs, idT, idL, omap, List.map_cons, List.map_nil, List.replicate, List.cons_append, List.nil_append, List.append_nil, List.getElem?_cons_zero, List.getElem?_cons_succ, List.set_cons_zero, List.set_cons_succ, List.length_map, List.length_cons, List.length_nil, wipeE, if_true, arr, Option.bind_some, List.reverse_nil, tupL, par2, par3, Nat.zero_add, Nat.reduceAdd, cap0, cap1, cap2, cap3, pow18, fe_cells, fe_count] using this
end K15

set_option Elab.async false
set_option linter.all false
set_option maxRecDepth 100000
set_option maxHeartbeats 4000000
namespace K15
open T5 PySem
theorem dr15 {k : Nat} {u : List Int} : Dr (run F (k + 1)) 15 u := fun a l c m r h1 h2 h3 => e15 h1 h2 h3
theorem okL {n : Nat} (h : n ≤ 20) : (decide ((n : Int) ≤ 100000) && decide ((-100000 : Int) ≤ (n : Int))) = true := by
  rw [decide_eq_true (by omega), decide_eq_true (by omega)]
  rfl
theorem i16 {cl : Calls} {u w g : List Int} {a l c n : Int} {r : Sto} {lap spot : Option D} (hD : Dr cl 15 u) (hw : 0 < w.length) (hw2 : w.length ≤ 20) (hg : g.length ≤ 20) (hr : cleanS (r.length + 1) r = true) :
    ∃ (w' g' : List Int) (a' l' c' : Int) (spot' : Option D), w'.length + 1 = w.length ∧ g'.length = g.length + 1 ∧ evSs cl l16_0 [some (.loc 0), some (.int n), lap, some (.lst (w.map .int)), some (.loc (r.length + 1)), spot] (fe u a l c :: (r ++ [.lst (g.map .int)])) =
      .nx [some (.loc 0), some (.int n), lap, some (.lst (w'.map .int)), some (.loc (r.length + 1)), spot'] (fe u a' l' c' :: (r ++ [.lst (g'.map .int)])) := by
  obtain ⟨v, a', l', c', h1, h2, h3⟩ := hD a l c (w.length : Int) (r ++ [.lst (g.map .int)]) (by omega) (by omega) (clean_fe hr (cleanI g))
  obtain ⟨v, rfl⟩ : ∃ j : Nat, v = (j : Int) := ⟨v.toNat, by omega⟩
  have hv : v < w.length := by omega
  have e1 : (v : Int) + 1 = ((v + 1 : Nat) : Int) := rfl
  have hc : (g.map D.int).length < cap := by rw [List.length_map]; unfold cap; omega
  have hadd : binD .add (.lst ((w.take v).map .int)) (.lst ((w.drop (v + 1)).map .int)) = some (.lst ((w.take v ++ w.drop (v + 1)).map .int)) := by
    rw [addL (by simp only [List.length_map, List.length_take, List.length_drop]; unfold cap; omega), List.map_append]
  refine ⟨w.take v ++ w.drop (v + 1), g ++ [w.getD v 0], a', l', c', some (.int v), ?_, ?_, ?_⟩
  · rw [List.length_append, List.length_take, List.length_drop]
    omega
  · simp
  · unfold l16_0
    simp only [evSs, evS, evE, evEs, ok_bind, ok_thn, nx_seq, rt_seq, ok_calm, lift_some, rd_int, rd_bl, rd_tup, rd_lst, rd_rep, rd_scr, seqO_lst, seqO_tup, setTg1, bAdd, bSub, cLt, cLe, cGt, cGe, cEq, cNe, lenT, lenL, bInt, getT, getLs, idT, idL, omap, List.map_cons, List.map_nil, List.replicate, List.cons_append, List.nil_append, List.append_nil, List.getElem?_cons_zero, List.getElem?_cons_succ, List.set_cons_zero, List.set_cons_succ, List.length_map, List.length_cons, List.length_nil, wipeE, if_true, arr, Option.bind_some, List.reverse_nil, tupL, par2, par3, Nat.zero_add, Nat.reduceAdd, cap0, cap1, cap2, cap3, h3, isLL_fe, ixD_ints hv, app_fe hc, partN, partI, slcL, e1, cut_take (show v ≤ w.length by omega), cut_drop (show v + 1 ≤ w.length by omega), hadd, List.map_append]
theorem e16 {k : Nat} {u : List Int} {a l c : Int} {n : Nat} {r : Sto} (hn : n ≤ 20) (hr : cleanS (r.length + 1) r = true) :
    ∃ (g : List Int) (a' l' c' : Int), g.length = n ∧ run F (k + 2) 16 [.loc 0, .int n] (fe u a l c :: r) = .ok (.lst (g.map .int)) (fe u a' l' c' :: r) := by
  have hD := @dr15 k u
  rw [run_at F16 rfl]
  generalize run F (k + 1) = cl at hD ⊢
  simp only [f16, evSs, evS, evE, evEs, ok_bind, ok_thn, nx_seq, rt_seq, ok_calm, lift_some, rd_int, rd_bl, rd_tup, rd_lst, rd_rep, rd_scr, seqO_lst, seqO_tup, setTg1, bAdd, bSub, cLt, cLe, cGt, cGe, cEq, cNe, lenT, lenL, bInt, getT, getLs, idT, idL, omap, List.map_cons, List.map_nil, List.replicate, List.cons_append, List.nil_append, List.append_nil, List.getElem?_cons_zero, List.getElem?_cons_succ, List.set_cons_zero, List.set_cons_succ, List.length_map, List.length_cons, List.length_nil, wipeE, if_true, arr, Option.bind_some, List.reverse_nil, tupL, par2, par3, Nat.zero_add, Nat.reduceAdd, cap0, cap1, cap2, cap3, ok20 hn, okL hn, Int.toNat_natCast, range_ints]
  obtain ⟨env', s', h1, ⟨w, g, a', l', c', lap, spot, h2, h3, h4, h5⟩⟩ := forL_inv (f := fun y env1 s2 => evSs cl l16_0 (env1.set 2 (some y)) s2) (xs := ((List.range n).map fun (i : Nat) => (i : Int)).map D.int) (j := 0)
    (I := fun i env s => ∃ (w g : List Int) (a l c : Int) (lap spot : Option D), w.length + i = n ∧ g.length = i ∧ env = [some (.loc 0), some (.int n), lap, some (.lst (w.map .int)), some (.loc (r.length + 1)), spot] ∧ s = fe u a l c :: (r ++ [.lst (g.map .int)]))
    (env := [some (.loc 0), some (.int n), none, some (.lst (((List.range n).map fun (i : Nat) => (i : Int)).map .int)), some (.loc (r.length + 1)), none]) (s := fe u a l c :: (r ++ [.lst (([] : List Int).map .int)]))
    (fun i x hx env s ⟨w, g, a, l, c, lap, spot, q1, q2, q3, q4⟩ => by
      have hi : i < n := by
        have := (List.getElem?_eq_some_iff.mp hx).1
        simpa using this
      subst q3 q4
      simp only [List.set_cons_zero, List.set_cons_succ]
      obtain ⟨w', g', a', l', c', spot', z1, z2, z3⟩ := i16 (n := n) (lap := some x) (spot := spot) (a := a) (l := l) (c := c) (g := g) hD (show 0 < w.length by omega) (by omega) (by omega) hr
      exact ⟨_, _, z3, w', g', a', l', c', _, _, by omega, by omega, rfl, rfl⟩)
    ⟨_, [], a, l, c, none, none, by simp, rfl, rfl, rfl⟩
  rw [h4, h5] at h1
  refine ⟨g, a', l', c', by simpa using h3, ?_⟩
  rw [List.map_nil] at h1
  rw [h1]
  simp only [evSs, evS, evE, evEs, ok_bind, ok_thn, nx_seq, rt_seq, ok_calm, lift_some, rd_int, rd_bl, rd_tup, rd_lst, rd_rep, rd_scr, seqO_lst, seqO_tup, setTg1, bAdd, bSub, cLt, cLe, cGt, cGe, cEq, cNe, lenT, lenL, bInt, getT, getLs, idT, idL, omap, List.map_cons, List.map_nil, List.replicate, List.cons_append, List.nil_append, List.append_nil, List.getElem?_cons_zero, List.getElem?_cons_succ, List.set_cons_zero, List.set_cons_succ, List.length_map, List.length_cons, List.length_nil, wipeE, if_true, arr, Option.bind_some, List.reverse_nil, tupL, par2, par3, Nat.zero_add, Nat.reduceAdd, cap0, cap1, cap2, cap3]
  exact end_fe hr (cl_fe hr) (cleanI g)
end K15

set_option Elab.async false
set_option linter.all false
set_option maxRecDepth 100000
set_option maxHeartbeats 4000000
namespace K15
open T5 PySem
theorem bi1 {cl : Calls} {b : Bi} {e : CE} {env : T5.Env} {s s1 : Sto} {d : D} (h : evE cl e env s = .ok d s1) : evE cl (.bi b (.cons e .nil)) env s = lift (biD b [rd s1 d]) s1 := by
  rw [evE, evEs, h]
  simp only [evEs, ok_bind, List.map_cons, List.map_nil]
theorem gen_lc {cl : Calls} {own tg : List Nat} {e : CE} {env : T5.Env} {xs : List Int} {s : Sto} {I : Sto → Prop} {P : Int → Prop} {y : Nat} (hI : I s) (hl : xs.length ≤ 1000)
    (h : ∀ x ∈ xs, ∀ s, I s → ∃ v s', evE cl e ((wipeE env own).set y (some (.int x))) s = .ok (.int v) s' ∧ P v ∧ I s') :
    ∃ (t : List Int) (s' : Sto), lcL (fun z s2 => (match setTg (wipeE env own) [y] z with
        | some env2 => (evE cl (.con (.bl true)) env2 s2).bind fun b s3 => (match b with
          | .bl true => (evE cl e env2 s3).bind fun d s4 => .ok (some d) s4
          | .bl false => .ok none s3
          | _ => .bad)
        | none => .bad)) (xs.map .int) [] s = .ok (t.map .int) s' ∧ t.length = xs.length ∧ (∀ i ∈ t, P i) ∧ I s' := by
  obtain ⟨ds, s', h1, h2, h3, h4⟩ := lcL_inv (f := fun z s2 => (match setTg (wipeE env own) [y] z with
        | some env2 => (evE cl (.con (.bl true)) env2 s2).bind fun b s3 => (match b with
          | .bl true => (evE cl e env2 s3).bind fun d s4 => .ok (some d) s4
          | .bl false => .ok none s3
          | _ => .bad)
        | none => .bad)) (I := I) (Pd := fun d => ∃ i, d = .int i ∧ P i) (xs := xs.map .int) (acc := []) hI (fun x hx s hs => by
    obtain ⟨i, hi, rfl⟩ := List.mem_map.mp hx
    obtain ⟨v, s', k1, k2, k3⟩ := h i hi s hs
    refine ⟨.int v, s', ?_, ⟨v, rfl, k2⟩, k3⟩
    simp only [setTg1, evE, ok_bind, k1]) (by rw [List.length_map, List.length_nil]; unfold cap; omega)
  obtain ⟨t, rfl, ht⟩ := ints_of h3
  refine ⟨t, s', by simpa using h1, by simpa using h2, ht, h4⟩
theorem ev_lc {cl : Calls} {own : List Nat} {y : Nat} {e it : CE} {env : T5.Env} {xs : List Int} {s s1 : Sto} {I : Sto → Prop} {P : Int → Prop} (hit : evE cl it env s = .ok (.lst (xs.map .int)) s1) (hI : I s1) (hl : xs.length ≤ 1000)
    (h : ∀ x ∈ xs, ∀ s, I s → ∃ v s', evE cl e ((wipeE env own).set y (some (.int x))) s = .ok (.int v) s' ∧ P v ∧ I s') :
    ∃ (t : List Int) (s' : Sto), evE cl (.lc own [y] e it (.con (.bl true))) env s = .ok (.lst (t.map .int)) s' ∧ t.length = xs.length ∧ (∀ i ∈ t, P i) ∧ I s' := by
  obtain ⟨t, s', h1, h2, h3, h4⟩ := gen_lc (cl := cl) (own := own) (tg := [y]) (e := e) (env := env) (xs := xs) (s := s1) (I := I) (P := P) (y := y) hI hl h
  refine ⟨t, s', ?_, h2, h3, h4⟩
  unfold evE
  rw [hit, ok_bind]
  simp only [seqO_lst]
  exact congrArg (fun z : R (List D) => z.calm.bind fun ds s5 => R.ok (D.lst ds) s5) h1
def tl17 : CSs := (.cons (.asg [3] (.lc [7] [7] e17_1 (.rng1 (.var 2)) (.con (.bl true)))) (.cons (.ret (.bi .tuple (.cons (.lc [8] [8] e17_2 (.var 3) (.con (.bl true))) .nil))) .nil))
def s17 : CS := (.iff (.cmp .eq (.var 5) (.con (.int (1)))) (.cons (.asg [6] (.call 15 [.inl 0, .inl 1] (.cons (.var 0) (.cons (.bin .add (.var 2) (.con (.int (1)))) .nil)) .nil)) (.cons (.ret (.bin .mul (.tup (.cons (.var 6) .nil)) (.var 2))) .nil)) .nil)
def tm17 : CSs := (.cons (.iff (.cmp .eq (.var 5) (.con (.int (1)))) (.cons (.asg [6] (.call 15 [.inl 0, .inl 1] (.cons (.var 0) (.cons (.bin .add (.var 2) (.con (.int (1)))) .nil)) .nil)) (.cons (.ret (.bin .mul (.tup (.cons (.var 6) .nil)) (.var 2))) .nil)) .nil) (.cons (.asg [3] (.lc [7] [7] e17_1 (.rng1 (.var 2)) (.con (.bl true)))) (.cons (.ret (.bi .tuple (.cons (.lc [8] [8] e17_2 (.var 3) (.con (.bl true))) .nil))) .nil)))
def rb17 : CSs := (.cons (.asg [4] (.lc [7] [7] e17_0 (.rng1 (.var 2)) (.con (.bl true)))) (.cons (.asg [4] (.ite (.cmp .eq (.bi .lenset (.cons (.var 4) .nil)) (.var 2)) (.var 4) (.lr1 (.var 2)))) .nil))
def r17 : CS := (.iff (.cmp .eq (.var 5) (.con (.int (0)))) rb17 .nil)
theorem e17 {k : Nat} {u : List Int} {a l c : Int} {lim : Nat} (hl : 1 ≤ lim) (hl2 : lim ≤ 10) :
    ∃ (t : List Int) (a' l' c' : Int), 0 < t.length ∧ t.length ≤ 10 ∧ (∀ i ∈ t, 0 ≤ i ∧ i ≤ 20) ∧ run F (k + 3) 17 [.loc 0, .int lim] [fe u a l c] = .ok (.tup (t.map .int)) [fe u a' l' c'] := by
  have hD := @dr15 (k + 1) u
  have hS := fun a l c n (hn : n ≤ 20) => @e16 k u a l c n [] hn rfl
  rw [run_at F17 rfl]
  generalize run F (k + 2) = cl at hD hS ⊢
  obtain ⟨v, a1, l1, c1, b1, b2, d1⟩ := hD a l c (lim : Int) [] (by omega) (by omega) rfl
  obtain ⟨n, hn⟩ : ∃ n : Nat, 1 + v = (n : Int) := ⟨(1 + v).toNat, by omega⟩
  have n1 : 0 < n := by omega
  have n2 : n ≤ 10 := by omega
  obtain ⟨g, a2, l2, c2, g1, d2⟩ := hS a1 l1 c1 n (by omega)
  obtain ⟨w, a3, l3, c3, w1, w2, d3⟩ := hD a2 l2 c2 5 [] (by omega) (by omega) rfl
  have hm : ∀ i, binD .mod (.int i) (.int (n : Int)) = some (.int (i % (n : Int))) := fun i => bMod (by omega)
  have hmul : ∀ i, binD .mul (.int (n : Int)) (.int i) = some (.int ((n : Int) * i)) := fun i => bMul (.inl ⟨by omega, by omega⟩)
  have rng : ∀ i : Int, 0 ≤ i % (n : Int) ∧ i % (n : Int) < (n : Int) := fun i => ⟨Int.emod_nonneg _ (by omega), Int.emod_lt_of_pos _ (by omega)⟩
  -- the last two statements
  have tail : ∀ (g : List Int) (a l c : Int) (x3 x6 : Option D), g.length = n → ∃ (t : List Int) (a' l' c' : Int), 0 < t.length ∧ t.length ≤ 10 ∧ (∀ i ∈ t, 0 ≤ i ∧ i ≤ 20) ∧
      endF false 1 (evSs cl tl17 [some (.loc 0), some (.int lim), some (.int n), x3, some (.lst (g.map .int)), some (.int w), x6, none, none] [fe u a l c]) = .ok (.tup (t.map .int)) [fe u a' l' c'] := by
    intro g a l c x3 x6 hg
    unfold tl17
    obtain ⟨p, s1, q1, q2, q3, rfl⟩ := ev_lc (cl := cl) (own := [7]) (y := 7) (e := e17_1) (it := .rng1 (.var 2)) (env := [some (.loc 0), some (.int lim), some (.int n), x3, some (.lst (g.map .int)), some (.int w), x6, none, none]) (xs := (List.range n).map fun (i : Nat) => (i : Int)) (s := [fe u a l c]) (s1 := [fe u a l c])
      (I := fun s => s = [fe u a l c]) (P := fun i => 0 ≤ i ∧ i < (n : Int)) (by simp only [evSs, evS, evE, evEs, ok_bind, ok_thn, nx_seq, rt_seq, ok_calm, lift_some, rd_int, rd_bl, rd_tup, rd_lst, rd_rep, rd_scr, seqO_lst, seqO_tup, setTg1, bAdd, bSub, cLt, cLe, cGt, cGe, cEq, cNe, lenT, lenL, bInt, getT, getLs, idT, idL, omap, List.map_cons, List.map_nil, List.replicate, List.cons_append, List.nil_append, List.append_nil, List.getElem?_cons_zero, List.getElem?_cons_succ, List.set_cons_zero, List.set_cons_succ, List.length_map, List.length_cons, List.length_nil, wipeE, if_true, arr, Option.bind_some, List.reverse_nil, tupL, par2, par3, Nat.zero_add, Nat.reduceAdd, cap0, cap1, cap2, cap3, ok20 (show n ≤ 20 by omega), Int.toNat_natCast, range_ints]) rfl (by simp; omega) (fun x hx s hs => by
        obtain ⟨i, hi, rfl⟩ := List.mem_map.mp hx
        have hi := List.mem_range.mp hi
        subst hs
        refine ⟨(g.getD i 0 - (i : Int)) % (n : Int), _, ?_, rng _, rfl⟩
        unfold e17_1
        simp only [evSs, evS, evE, evEs, ok_bind, ok_thn, nx_seq, rt_seq, ok_calm, lift_some, rd_int, rd_bl, rd_tup, rd_lst, rd_rep, rd_scr, seqO_lst, seqO_tup, setTg1, bAdd, bSub, cLt, cLe, cGt, cGe, cEq, cNe, lenT, lenL, bInt, getT, getLs, idT, idL, omap, List.map_cons, List.map_nil, List.replicate, List.cons_append, List.nil_append, List.append_nil, List.getElem?_cons_zero, List.getElem?_cons_succ, List.set_cons_zero, List.set_cons_succ, List.length_map, List.length_cons, List.length_nil, wipeE, if_true, arr, Option.bind_some, List.reverse_nil, tupL, par2, par3, Nat.zero_add, Nat.reduceAdd, cap0, cap1, cap2, cap3, ixD_ints (show i < g.length by omega), hm])
    rw [List.length_map, List.length_range] at q2
    obtain ⟨t, s2, r1, r2, r3, ⟨a', l', c', rfl⟩⟩ := ev_lc (cl := cl) (own := [8]) (y := 8) (e := e17_2) (it := .var 3) (env := [some (.loc 0), some (.int lim), some (.int n), some (.lst (p.map .int)), some (.lst (g.map .int)), some (.int w), x6, none, none]) (xs := p) (s := [fe u a l c]) (s1 := [fe u a l c])
      (I := fun s => ∃ a l c, s = [fe u a l c]) (P := fun i => 0 ≤ i ∧ i ≤ 20) (by simp only [evSs, evS, evE, evEs, ok_bind, ok_thn, nx_seq, rt_seq, ok_calm, lift_some, rd_int, rd_bl, rd_tup, rd_lst, rd_rep, rd_scr, seqO_lst, seqO_tup, setTg1, bAdd, bSub, cLt, cLe, cGt, cGe, cEq, cNe, lenT, lenL, bInt, getT, getLs, idT, idL, omap, List.map_cons, List.map_nil, List.replicate, List.cons_append, List.nil_append, List.append_nil, List.getElem?_cons_zero, List.getElem?_cons_succ, List.set_cons_zero, List.set_cons_succ, List.length_map, List.length_cons, List.length_nil, wipeE, if_true, arr, Option.bind_some, List.reverse_nil, tupL, par2, par3, Nat.zero_add, Nat.reduceAdd, cap0, cap1, cap2, cap3]) ⟨_, _, _, rfl⟩ (by omega) (fun x hx s ⟨a, l, c, hs⟩ => by
        subst hs
        unfold e17_2
        by_cases h0 : 0 < x
        · refine ⟨x, _, ?_, ?_, ⟨a, l, c, rfl⟩⟩
          · simp only [evSs, evS, evE, evEs, ok_bind, ok_thn, nx_seq, rt_seq, ok_calm, lift_some, rd_int, rd_bl, rd_tup, rd_lst, rd_rep, rd_scr, seqO_lst, seqO_tup, setTg1, bAdd, bSub, cLt, cLe, cGt, cGe, cEq, cNe, lenT, lenL, bInt, getT, getLs, idT, idL, omap, List.map_cons, List.map_nil, List.replicate, List.cons_append, List.nil_append, List.append_nil, List.getElem?_cons_zero, List.getElem?_cons_succ, List.set_cons_zero, List.set_cons_succ, List.length_map, List.length_cons, List.length_nil, wipeE, if_true, arr, Option.bind_some, List.reverse_nil, tupL, par2, par3, Nat.zero_add, Nat.reduceAdd, cap0, cap1, cap2, cap3, decide_eq_true h0]
          · have := q3 x hx
            omega
        · obtain ⟨z, a', l', c', z1, z2, z3⟩ := hD a l c 2 [] (by omega) (by omega) rfl
          refine ⟨(n : Int) * z, _, ?_, ?_, ⟨a', l', c', rfl⟩⟩
          · simp only [evSs, evS, evE, evEs, ok_bind, ok_thn, nx_seq, rt_seq, ok_calm, lift_some, rd_int, rd_bl, rd_tup, rd_lst, rd_rep, rd_scr, seqO_lst, seqO_tup, setTg1, bAdd, bSub, cLt, cLe, cGt, cGe, cEq, cNe, lenT, lenL, bInt, getT, getLs, idT, idL, omap, List.map_cons, List.map_nil, List.replicate, List.cons_append, List.nil_append, List.append_nil, List.getElem?_cons_zero, List.getElem?_cons_succ, List.set_cons_zero, List.set_cons_succ, List.length_map, List.length_cons, List.length_nil, wipeE, if_true, arr, Option.bind_some, List.reverse_nil, tupL, par2, par3, Nat.zero_add, Nat.reduceAdd, cap0, cap1, cap2, cap3, decide_eq_false h0, z3, hmul]
          · have : z = 0 ∨ z = 1 := by omega
            rcases this with rfl | rfl <;> omega)
    refine ⟨t, a', l', c', by omega, by omega, r3, ?_⟩
    simp only [evSs, evS, evEs, q1, ok_thn, setTg1, nx_seq, List.set_cons_zero, List.set_cons_succ]
    rw [bi1 r1]
    simp only [rd_lst, tupL, lift_some, ok_thn, rt_seq]
    exact end_sm (s := [fe u a' l' c']) (d := .tup (t.map .int)) (cl_fe rfl) (cleanI t _)
  have mid : ∀ (g : List Int) (a l c : Int), g.length = n → ∃ (t : List Int) (a' l' c' : Int), 0 < t.length ∧ t.length ≤ 10 ∧ (∀ i ∈ t, 0 ≤ i ∧ i ≤ 20) ∧
      endF false 1 (evSs cl tm17 [some (.loc 0), some (.int lim), some (.int n), none, some (.lst (g.map .int)), some (.int w), none, none, none] [fe u a l c]) = .ok (.tup (t.map .int)) [fe u a' l' c'] := by
    intro g a l c hg
    have e : tm17 = .cons s17 tl17 := rfl
    rw [e]
    unfold s17
    by_cases h1 : w = 1
    · subst h1
      obtain ⟨z, a', l', c', z1, z2, z3⟩ := hD a l c ((n : Int) + 1) [] (by omega) (by omega) rfl
      refine ⟨List.replicate n z, a', l', c', by simpa using n1, by simpa using n2, fun i hi => ?_, ?_⟩
      · rw [(List.mem_replicate.mp hi).2]
        omega
      · have hmul2 : binD .mul (.tup [.int z]) (.int (n : Int)) = some (.tup ((List.replicate n z).map .int)) := by
          show (if (decide ((1 : Int) ≤ (n : Int)) && decide ((n : Int) ≤ 1000) && Nat.ble 1 1000 && Nat.blt 0 1) = true then some (D.tup (List.replicate (n : Int).toNat [D.int z]).flatten) else none) = _
          rw [decide_eq_true (by omega), decide_eq_true (by omega), if_pos (by rfl), Int.toNat_natCast, List.map_replicate]
          congr 2
          induction n with
          | zero => rfl
          | succ m ih => simp [List.replicate_succ]
        rw [evSs]
        simp only [evSs, evS, evE, evEs, ok_bind, ok_thn, nx_seq, rt_seq, ok_calm, lift_some, rd_int, rd_bl, rd_tup, rd_lst, rd_rep, rd_scr, seqO_lst, seqO_tup, setTg1, bAdd, bSub, cLt, cLe, cGt, cGe, cEq, cNe, lenT, lenL, bInt, getT, getLs, idT, idL, omap, List.map_cons, List.map_nil, List.replicate, List.cons_append, List.nil_append, List.append_nil, List.getElem?_cons_zero, List.getElem?_cons_succ, List.set_cons_zero, List.set_cons_succ, List.length_map, List.length_cons, List.length_nil, wipeE, if_true, arr, Option.bind_some, List.reverse_nil, tupL, par2, par3, Nat.zero_add, Nat.reduceAdd, cap0, cap1, cap2, cap3, beq_self_eq_true, z3, hmul2]
        exact end_sm (s := [fe u a' l' c']) (d := .tup ((List.replicate n z).map .int)) (cl_fe rfl) (cleanI _ _)
    · have h1' : (w == 1) = false := beq_eq_false_iff_ne.mpr h1
      obtain ⟨t, a', l', c', t1, t2, t3, t4⟩ := tail g a l c none none hg
      refine ⟨t, a', l', c', t1, t2, t3, ?_⟩
      rw [evSs]
      generalize tl17 = T at t4 ⊢
      simp only [evS, evE, evEs, ok_bind, ok_thn, rd_int, cEq, omap, lift_some, h1', List.getElem?_cons_zero, List.getElem?_cons_succ, nx_seq]
      simp only [evSs, nx_seq]
      exact t4
  have e : f17.body = .cons (.asg [2] (.bin .add (.con (.int (1))) (.call 15 [.inl 0, .inl 1] (.cons (.var 0) (.cons (.var 1) .nil)) .nil))) (.cons (.asg [4, 5] (.tup (.cons (.call 16 [.inl 0, .inl 1] (.cons (.var 0) (.cons (.var 2) .nil)) .nil) (.cons (.call 15 [.inl 0, .inl 1] (.cons (.var 0) (.cons (.con (.int (5))) .nil)) .nil) .nil)))) (.cons r17 tm17)) := rfl
  rw [e]
  generalize hT : tm17 = T at mid ⊢
  unfold r17
  simp only [f17, evSs, evS, evE, evEs, ok_bind, ok_thn, nx_seq, rt_seq, ok_calm, lift_some, rd_int, rd_bl, rd_tup, rd_lst, rd_rep, rd_scr, seqO_lst, seqO_tup, setTg1, bAdd, bSub, cLt, cLe, cGt, cGe, cEq, cNe, lenT, lenL, bInt, getT, getLs, idT, idL, omap, List.map_cons, List.map_nil, List.replicate, List.cons_append, List.nil_append, List.append_nil, List.getElem?_cons_zero, List.getElem?_cons_succ, List.set_cons_zero, List.set_cons_succ, List.length_map, List.length_cons, List.length_nil, wipeE, if_true, arr, Option.bind_some, List.reverse_nil, tupL, par2, par3, Nat.zero_add, Nat.reduceAdd, cap0, cap1, cap2, cap3, d1, hn, d2, d3, setTg2]
  by_cases h0 : w = 0
  · subst h0
    simp only [beq_self_eq_true]
    obtain ⟨p, s1, q1, q2, q3, ⟨a4, l4, c4, rfl⟩⟩ := ev_lc (cl := cl) (own := [7]) (y := 7) (e := e17_0) (it := .rng1 (.var 2)) (env := [some (.loc 0), some (.int lim), some (.int n), none, some (.lst (g.map .int)), some (.int 0), none, none, none]) (xs := (List.range n).map fun (i : Nat) => (i : Int)) (s := [fe u a3 l3 c3]) (s1 := [fe u a3 l3 c3])
      (I := fun s => ∃ a l c, s = [fe u a l c]) (P := fun i => 0 ≤ i ∧ i < (n : Int)) (by simp only [evSs, evS, evE, evEs, ok_bind, ok_thn, nx_seq, rt_seq, ok_calm, lift_some, rd_int, rd_bl, rd_tup, rd_lst, rd_rep, rd_scr, seqO_lst, seqO_tup, setTg1, bAdd, bSub, cLt, cLe, cGt, cGe, cEq, cNe, lenT, lenL, bInt, getT, getLs, idT, idL, omap, List.map_cons, List.map_nil, List.replicate, List.cons_append, List.nil_append, List.append_nil, List.getElem?_cons_zero, List.getElem?_cons_succ, List.set_cons_zero, List.set_cons_succ, List.length_map, List.length_cons, List.length_nil, wipeE, if_true, arr, Option.bind_some, List.reverse_nil, tupL, par2, par3, Nat.zero_add, Nat.reduceAdd, cap0, cap1, cap2, cap3, ok20 (show n ≤ 20 by omega), Int.toNat_natCast, range_ints]) ⟨_, _, _, rfl⟩ (by simp; omega) (fun x hx s ⟨a, l, c, hs⟩ => by
        subst hs
        obtain ⟨z, a', l', c', z1, z2, z3⟩ := hD a l c 2 [] (by omega) (by omega) rfl
        refine ⟨(x + 1 + z) % (n : Int), _, ?_, rng _, ⟨a', l', c', rfl⟩⟩
        unfold e17_0
        simp only [evSs, evS, evE, evEs, ok_bind, ok_thn, nx_seq, rt_seq, ok_calm, lift_some, rd_int, rd_bl, rd_tup, rd_lst, rd_rep, rd_scr, seqO_lst, seqO_tup, setTg1, bAdd, bSub, cLt, cLe, cGt, cGe, cEq, cNe, lenT, lenL, bInt, getT, getLs, idT, idL, omap, List.map_cons, List.map_nil, List.replicate, List.cons_append, List.nil_append, List.append_nil, List.getElem?_cons_zero, List.getElem?_cons_succ, List.set_cons_zero, List.set_cons_succ, List.length_map, List.length_cons, List.length_nil, wipeE, if_true, arr, Option.bind_some, List.reverse_nil, tupL, par2, par3, Nat.zero_add, Nat.reduceAdd, cap0, cap1, cap2, cap3, z3, hm])
    rw [List.length_map, List.length_range] at q2
    have hb : ∃ p' : List Int, p'.length = n ∧ evSs cl rb17 [some (.loc 0), some (.int lim), some (.int n), none, some (.lst (g.map .int)), some (.int 0), none, none, none] [fe u a3 l3 c3] = .nx [some (.loc 0), some (.int lim), some (.int n), none, some (.lst (p'.map .int)), some (.int 0), none, none, none] [fe u a4 l4 c4] := by
      have hls : ∃ z : Int, biD .lenset [.lst (p.map .int)] = some (.int z) := by
        refine ⟨((PyProof.Rows.firstMet (fun i => p.getD i 0) p.length).length : Nat), ?_⟩
        show (intsOf (p.map .int)).bind (fun ns => if Nat.ble ns.length 4000 = true then some (D.int (PyProof.Rows.firstMet (fun i => ns.getD i 0) ns.length).length) else none) = _
        rw [intsOf_ints, Option.bind_some, if_pos (Nat.ble_eq.mpr (by omega))]
      obtain ⟨z, hz⟩ := hls
      unfold rb17
      rw [evSs, evS, q1]
      by_cases hzn : z = (n : Int)
      · refine ⟨p, by omega, ?_⟩
        simp only [evSs, evS, evE, evEs, ok_bind, ok_thn, nx_seq, rt_seq, ok_calm, lift_some, rd_int, rd_bl, rd_tup, rd_lst, rd_rep, rd_scr, seqO_lst, seqO_tup, setTg1, bAdd, bSub, cLt, cLe, cGt, cGe, cEq, cNe, lenT, lenL, bInt, getT, getLs, idT, idL, omap, List.map_cons, List.map_nil, List.replicate, List.cons_append, List.nil_append, List.append_nil, List.getElem?_cons_zero, List.getElem?_cons_succ, List.set_cons_zero, List.set_cons_succ, List.length_map, List.length_cons, List.length_nil, wipeE, if_true, arr, Option.bind_some, List.reverse_nil, tupL, par2, par3, Nat.zero_add, Nat.reduceAdd, cap0, cap1, cap2, cap3, hz, hzn, beq_self_eq_true]
      · refine ⟨(List.range n).map fun (i : Nat) => (i : Int), by simp, ?_⟩
        have hzn' : (z == (n : Int)) = false := beq_eq_false_iff_ne.mpr hzn
        simp only [evSs, evS, evE, evEs, ok_bind, ok_thn, nx_seq, rt_seq, ok_calm, lift_some, rd_int, rd_bl, rd_tup, rd_lst, rd_rep, rd_scr, seqO_lst, seqO_tup, setTg1, bAdd, bSub, cLt, cLe, cGt, cGe, cEq, cNe, lenT, lenL, bInt, getT, getLs, idT, idL, omap, List.map_cons, List.map_nil, List.replicate, List.cons_append, List.nil_append, List.append_nil, List.getElem?_cons_zero, List.getElem?_cons_succ, List.set_cons_zero, List.set_cons_succ, List.length_map, List.length_cons, List.length_nil, wipeE, if_true, arr, Option.bind_some, List.reverse_nil, tupL, par2, par3, Nat.zero_add, Nat.reduceAdd, cap0, cap1, cap2, cap3, hz, hzn', okL (show n ≤ 20 by omega), Int.toNat_natCast, range_ints]
    obtain ⟨p', hp1, hp2⟩ := hb
    rw [hp2]
    obtain ⟨t, a', l', c', t1, t2, t3, t4⟩ := mid p' a4 l4 c4 hp1
    refine ⟨t, a', l', c', t1, t2, t3, ?_⟩
    simp only [nx_seq]
    exact t4
  · have h0' : (w == 0) = false := beq_eq_false_iff_ne.mpr h0
    simp only [h0']
    obtain ⟨t, a', l', c', t1, t2, t3, t4⟩ := mid g a3 l3 c3 g1
    refine ⟨t, a', l', c', t1, t2, t3, ?_⟩
    simp only [nx_seq]
    exact t4
end K15

set_option Elab.async false
set_option linter.all false
set_option maxRecDepth 100000
set_option maxHeartbeats 4000000
namespace K15
open T5 PySem
theorem smL_prs : ∀ ps : List (Int × Int), (∀ p ∈ ps, p.1.natAbs < 400 ∧ p.2.natAbs < 400) → smL (ps.map ofP) = true
  | [], _ => rfl
  | p :: r, h => by
    show ((decide (p.1.natAbs < 400) && (decide (p.2.natAbs < 400) && true)) && smL (r.map ofP)) = true
    rw [smL_prs r fun q hq => h q (List.mem_cons_of_mem _ hq), decide_eq_true (h p (List.mem_cons_self ..)).1, decide_eq_true (h p (List.mem_cons_self ..)).2]
    rfl
theorem bkL_prs : ∀ ps : List (Int × Int), bkL (ps.map ofP) = 3 * ps.length
  | [] => rfl
  | p :: r => by
    show (0 + 1 + (0 + 1 + 0)) + 1 + bkL (r.map ofP) = 3 * (r.length + 1)
    rw [bkL_prs r]
    omega
theorem dpL_prs : ∀ ps : List (Int × Int), dpL (ps.map ofP) ≤ 1
  | [] => Nat.zero_le _
  | p :: r => by
    show max (max 0 (max 0 0) + 1) (dpL (r.map ofP)) ≤ 1
    have := dpL_prs r
    omega
theorem dG_len {c : Nat → Nat → Bool} {lo n m : Nat} : (pG c lo n m).length ≤ m * n := by
  have h := flat_len (g := hG c lo m) (c := m) (xs := rangeD 0 n) fun x _ => hG_len
  rw [len_range] at h
  have e : (dG c lo n m).length = (pG c lo n m).length := by rw [dG_eq, List.length_map]
  rw [← e]
  exact h
theorem dG_sm {c : Nat → Nat → Bool} {lo n m : Nat} (hn : n ≤ 100) (hm : lo + m ≤ 100) : smL (dG c lo n m) = true := by
  rw [dG_eq]
  refine smL_prs _ fun p hp => ?_
  obtain ⟨b, j, h1, h2, rfl, _⟩ := pG_mem hp
  exact ⟨by simp only; omega, by simp only; omega⟩
theorem rep_t {t : List Int} (h : ∀ i ∈ t, 0 ≤ i ∧ i ≤ 20) (hl : t.length ≤ 10) : biD .repr [.tup (t.map .int)] = some (.rep (.tup (t.map .int))) :=
  repD_ok (d := .tup (t.map .int)) (smL_ints t fun i hi => by have := h i hi; omega) (by show dpL (t.map .int) + 1 ≤ 64; rw [dpL_ints]; omega) (by show bkL (t.map .int) ≤ 5000; rw [bkL_ints]; omega)
theorem rep_d {t : List Int} (hl : t.length ≤ 10) : biD .repr [.tup [.tup (frees t), .tup (fulls t)]] = some (.rep (.tup [.tup (frees t), .tup (fulls t)])) := by
  have q1 : t.length * t.length ≤ 10 * 10 := Nat.mul_le_mul hl hl
  have q2 : (t.length + 1) * t.length ≤ 11 * 10 := Nat.mul_le_mul (by omega) hl
  have l1 := dG_len (c := cF t) (lo := 1) (n := t.length) (m := t.length)
  have l2 := dG_len (c := cU t) (lo := 0) (n := t.length) (m := t.length + 1)
  refine repD_ok (d := .tup [.tup (frees t), .tup (fulls t)]) ?_ ?_ ?_
  · show (smL (frees t) && (smL (fulls t) && true)) = true
    rw [frees_eq, dG_sm (by omega) (by omega)]
    unfold fulls
    rw [dG_sm (by omega) (by omega)]
    rfl
  · show max (dpL (frees t) + 1) (max (dpL (fulls t) + 1) 0) + 1 ≤ 64
    rw [frees_eq]
    unfold fulls
    rw [dG_eq, dG_eq]
    have := dpL_prs (pG (cF t) 1 t.length t.length)
    have := dpL_prs (pG (cU t) 0 t.length (t.length + 1))
    omega
  · show bkL (frees t) + 1 + (bkL (fulls t) + 1 + 0) ≤ 5000
    rw [frees_eq]
    unfold fulls
    rw [dG_eq, dG_eq, bkL_prs, bkL_prs]
    omega
theorem neRep {d : D} : cmpD .ne (.rep d) (.rep d) = some false := by
  show (eqq (.rep d) (.rep d)).map (! ·) = _
  rw [eqq_rep]
  rfl
theorem ne00 : cmpD .ne (.lst []) (.lst []) = some false := neNil []
theorem ev_none {cl : Calls} {own : List Nat} {y : Nat} {e it c : CE} {env : T5.Env} {xs : List D} {s : Sto} (hit : evE cl it env s = .ok (.tup xs) s) (hl : xs.length ≤ 1000)
    (h : ∀ x ∈ xs, evE cl c ((wipeE env own).set y (some x)) s = .ok (.bl false) s) : evE cl (.lc own [y] e it c) env s = .ok (.lst []) s := by
  unfold evE
  rw [hit, ok_bind]
  simp only [seqO_tup]
  refine congrArg (fun z : R (List D) => z.calm.bind fun ds s5 => R.ok (D.lst ds) s5) (a₂ := R.ok [] s) ?_
  rw [lcL_pure (g := fun _ => none) (fun x hx => ?_) (by rw [List.length_nil]; unfold cap; omega)]
  · congr 1
    simp
  · simp only [setTg1]
    rw [h x hx]
    rfl
theorem item_ix {a b : D} : T5.idxD (.tup [a, b]) (.int 0) = some a := id rfl
theorem lims (i : Nat) (h : i < 3) : ∃ lim : Nat, 1 ≤ lim ∧ lim ≤ 10 ∧ ixD [D.int 10, D.int 6, D.int 4] (i : Int) = some (.int lim) := by
  have : i = 0 ∨ i = 1 ∨ i = 2 := by omega
  rcases this with rfl | rfl | rfl
  · exact ⟨10, by omega, by omega, rfl⟩
  · exact ⟨6, by omega, by omega, rfl⟩
  · exact ⟨4, by omega, by omega, rfl⟩
def Env9 (env : T5.Env) : Prop := ∃ x0 x2 x3 x4 x5 x6 x7 x8, env = [x0, some (.loc 0), x2, x3, x4, x5, x6, x7, x8]
def y0 : CS := (.asg [3] (.call 17 [.inl 0, .inl 1] (.cons (.var 1) (.cons (.idx (.lst (.cons (.con (.int (10))) (.cons (.con (.int (6))) (.cons (.con (.int (4))) .nil)))) (.var 2)) .nil)) .nil))
def y1 : CS := (.par [6, 7] (.cons (.bi .repr (.cons (.var 3) .nil)) (.cons (.tup (.cons (.call 21 [.inl 0] (.cons (.var 3) .nil) .nil) (.cons (.call 22 [.inl 0] (.cons (.var 3) .nil) .nil) .nil))) .nil)))
def y5 : CS := (.iff (.cmp .ne (.bi .repr (.cons (.tup (.cons (.call 10 [.inl 0] (.cons (.var 3) .nil) .nil) (.cons (.call 11 [.inl 0] (.cons (.var 3) .nil) .nil) .nil))) .nil)) (.bi .repr (.cons (.var 7) .nil))) (.cons (.ret (.con (.bl false))) .nil) .nil)
def y6 : CS := (.asg [4] (.tup (.cons (.call 10 [.inl 0] .nil (.cons (.var 3) .nil)) (.cons (.call 11 [.inl 0] .nil (.cons (.var 3) .nil)) .nil))))
def y7 : CS := (.iff (.or (.cmp .ne (.bi .repr (.cons (.var 4) .nil)) (.bi .repr (.cons (.var 7) .nil))) (.cmp .ne (.bi .repr (.cons (.var 3) .nil)) (.var 6))) (.cons (.ret (.con (.bl false))) .nil) .nil)
def y2s : CS := (.iff (.cmp .ne (.lc [8] [8] (.var 8) (.idx (.var 7) (.con (.int (0)))) c23_0) (.lst .nil)) (.cons (.ret (.con (.bl false))) .nil) .nil)
def y4 : CSs := (.cons (.iff (.cmp .ne (.lc [8] [8] (.var 8) (.idx (.var 7) (.con (.int (1)))) c23_1) (.lst .nil)) (.cons (.ret (.con (.bl false))) .nil) .nil) .nil)
def y3 : CSs := (.cons (.asg [5] (.bin .fdiv (.bi .sum (.cons (.var 3) .nil)) (.bi .len (.cons (.var 3) .nil)))) (.cons (.iff (.cmp .ne (.lc [8] [8] (.var 8) (.idx (.var 7) (.con (.int (1)))) c23_1) (.lst .nil)) (.cons (.ret (.con (.bl false))) .nil) .nil) .nil))
def y2 : CSs := (.cons (.iff (.cmp .ne (.lc [8] [8] (.var 8) (.idx (.var 7) (.con (.int (0)))) c23_0) (.lst .nil)) (.cons (.ret (.con (.bl false))) .nil) .nil) (.cons (.asg [5] (.bin .fdiv (.bi .sum (.cons (.var 3) .nil)) (.bi .len (.cons (.var 3) .nil)))) (.cons (.iff (.cmp .ne (.lc [8] [8] (.var 8) (.idx (.var 7) (.con (.int (1)))) c23_1) (.lst .nil)) (.cons (.ret (.con (.bl false))) .nil) .nil) .nil)))
theorem lap {cl : Calls} {u : List Int} {a l c : Int} {i : Nat} {x0 x3 x4 x5 x6 x7 x8 : Option D} (hi : i < 3)
    (h17 : ∀ lim : Nat, 1 ≤ lim → lim ≤ 10 → ∃ (t : List Int) (a' l' c' : Int), 0 < t.length ∧ t.length ≤ 10 ∧ (∀ i ∈ t, 0 ≤ i ∧ i ≤ 20) ∧ cl 17 [.loc 0, .int lim] [fe u a l c] = .ok (.tup (t.map .int)) [fe u a' l' c'])
    (h21 : ∀ (t : List Int) (s : Sto), 0 < t.length → t.length ≤ 20 → Cl s → cl 21 [.tup (t.map .int)] s = .ok (.tup (frees t)) s) (h22 : ∀ (t : List Int) (s : Sto), 0 < t.length → t.length ≤ 20 → Cl s → cl 22 [.tup (t.map .int)] s = .ok (.tup (fulls t)) s)
    (h10 : ∀ (t : List Int) (s : Sto), 0 < t.length → t.length ≤ 20 → Cl s → cl 10 [.tup (t.map .int)] s = .ok (.tup (frees t)) s) (h11 : ∀ (t : List Int) (s : Sto), 0 < t.length → t.length ≤ 20 → Cl s → cl 11 [.tup (t.map .int)] s = .ok (.tup (fulls t)) s)
    (h13 : ∀ (t : List Int) (b L : Nat) (s : Sto), 0 < t.length → t.length ≤ 20 → Cl s → b < t.length → L ≤ t.length → cl 13 [.tup (t.map .int), .tup [.int b, .int L]] s = .ok (.int (rk t b L)) s) :
    ∃ (env' : T5.Env) (a' l' c' : Int), Env9 env' ∧ evSs cl l23_2 [x0, some (.loc 0), some (.int i), x3, x4, x5, x6, x7, x8] [fe u a l c] = .nx env' [fe u a' l' c'] := by
  obtain ⟨lim, m1, m2, m3⟩ := lims i hi
  obtain ⟨t, a', l', c', t1, t2, t3, t4⟩ := h17 lim m1 m2
  have cs : Cl [fe u a' l' c'] := cl_fe rfl
  have g21 := h21 t _ t1 (by omega) cs
  have g22 := h22 t _ t1 (by omega) cs
  have g10 := h10 t _ t1 (by omega) cs
  have g11 := h11 t _ t1 (by omega) cs
  have r1 := rep_t t3 t2
  have r2 := rep_d t2
  have hd : binD .fdiv (.int t.sum) (.int (t.length : Int)) = some (.int (bl t)) := bDiv (by omega) (by omega)
  let e1 : T5.Env := [x0, some (.loc 0), some (.int i), some (.tup (t.map .int)), some (.tup [.tup (frees t), .tup (fulls t)]), x5, some (.rep (.tup (t.map .int))), some (.tup [.tup (frees t), .tup (fulls t)]), x8]
  let e2 : T5.Env := [x0, some (.loc 0), some (.int i), some (.tup (t.map .int)), some (.tup [.tup (frees t), .tup (fulls t)]), some (.int (bl t)), some (.rep (.tup (t.map .int))), some (.tup [.tup (frees t), .tup (fulls t)]), x8]
  have q1 : t.length * t.length ≤ 10 * 10 := Nat.mul_le_mul t2 t2
  have q2 : (t.length + 1) * t.length ≤ 11 * 10 := Nat.mul_le_mul (by omega) t2
  have n1 : evE cl (.lc [8] [8] (.var 8) (.idx (.var 7) (.con (.int 0))) c23_0) e1 [fe u a' l' c'] = .ok (.lst []) [fe u a' l' c'] := by
    refine ev_none (xs := frees t) ?_ ?_ fun x hx => ?_
    · simp only [e1, evSs, evS, evE, evEs, ok_bind, ok_thn, nx_seq, rt_seq, ok_calm, lift_some, rd_int, rd_bl, rd_tup, rd_lst, rd_rep, rd_scr, seqO_lst, seqO_tup, setTg1, bAdd, bSub, cLt, cLe, cGt, cGe, cEq, cNe, lenT, lenL, bInt, getT, getLs, idT, idL, omap, List.map_cons, List.map_nil, List.replicate, List.cons_append, List.nil_append, List.append_nil, List.getElem?_cons_zero, List.getElem?_cons_succ, List.set_cons_zero, List.set_cons_succ, List.length_map, List.length_cons, List.length_nil, wipeE, if_true, arr, Option.bind_some, List.reverse_nil, tupL, par2, par3, Nat.zero_add, Nat.reduceAdd, cap0, cap1, cap2, cap3, ix2a]
    · rw [frees_eq, dG_eq, List.length_map]
      exact Nat.le_trans dG_len (by omega)
    · rw [frees_eq, dG_eq] at hx
      obtain ⟨p, hp, rfl⟩ := List.mem_map.mp hx
      obtain ⟨b, j, k1, k2, rfl, k3⟩ := pG_mem hp
      have hf : fr t b (1 + j) = true := (Bool.and_eq_true_iff.mp k3).1
      rw [← rk_fr] at hf
      unfold c23_0
      simp only [e1, ofP, evSs, evS, evE, evEs, ok_bind, ok_thn, nx_seq, rt_seq, ok_calm, lift_some, rd_int, rd_bl, rd_tup, rd_lst, rd_rep, rd_scr, seqO_lst, seqO_tup, setTg1, bAdd, bSub, cLt, cLe, cGt, cGe, cEq, cNe, lenT, lenL, bInt, getT, getLs, idT, idL, omap, List.map_cons, List.map_nil, List.replicate, List.cons_append, List.nil_append, List.append_nil, List.getElem?_cons_zero, List.getElem?_cons_succ, List.set_cons_zero, List.set_cons_succ, List.length_map, List.length_cons, List.length_nil, wipeE, if_true, arr, Option.bind_some, List.reverse_nil, tupL, par2, par3, Nat.zero_add, Nat.reduceAdd, cap0, cap1, cap2, cap3, h13 t b (1 + j) _ t1 (by omega) cs k1 (by omega), ix2b, hf, Bool.not_true]
  have n2 : evE cl (.lc [8] [8] (.var 8) (.idx (.var 7) (.con (.int 1))) c23_1) e2 [fe u a' l' c'] = .ok (.lst []) [fe u a' l' c'] := by
    refine ev_none (xs := fulls t) ?_ ?_ fun x hx => ?_
    · simp only [e2, evSs, evS, evE, evEs, ok_bind, ok_thn, nx_seq, rt_seq, ok_calm, lift_some, rd_int, rd_bl, rd_tup, rd_lst, rd_rep, rd_scr, seqO_lst, seqO_tup, setTg1, bAdd, bSub, cLt, cLe, cGt, cGe, cEq, cNe, lenT, lenL, bInt, getT, getLs, idT, idL, omap, List.map_cons, List.map_nil, List.replicate, List.cons_append, List.nil_append, List.append_nil, List.getElem?_cons_zero, List.getElem?_cons_succ, List.set_cons_zero, List.set_cons_succ, List.length_map, List.length_cons, List.length_nil, wipeE, if_true, arr, Option.bind_some, List.reverse_nil, tupL, par2, par3, Nat.zero_add, Nat.reduceAdd, cap0, cap1, cap2, cap3, ix2b]
    · unfold fulls
      rw [dG_eq, List.length_map]
      exact Nat.le_trans dG_len (by omega)
    · unfold fulls at hx
      rw [dG_eq] at hx
      obtain ⟨p, hp, rfl⟩ := List.mem_map.mp hx
      obtain ⟨b, j, k1, k2, rfl, k3⟩ := pG_mem hp
      have hf : (rk t b (0 + j) == bl t) = true := (Bool.and_eq_true_iff.mp k3).1
      rw [Nat.zero_add] at hf
      unfold c23_1
      simp only [e2, ofP, evSs, evS, evE, evEs, ok_bind, ok_thn, nx_seq, rt_seq, ok_calm, lift_some, rd_int, rd_bl, rd_tup, rd_lst, rd_rep, rd_scr, seqO_lst, seqO_tup, setTg1, bAdd, bSub, cLt, cLe, cGt, cGe, cEq, cNe, lenT, lenL, bInt, getT, getLs, idT, idL, omap, List.map_cons, List.map_nil, List.replicate, List.cons_append, List.nil_append, List.append_nil, List.getElem?_cons_zero, List.getElem?_cons_succ, List.set_cons_zero, List.set_cons_succ, List.length_map, List.length_cons, List.length_nil, wipeE, if_true, arr, Option.bind_some, List.reverse_nil, tupL, par2, par3, Nat.zero_add, Nat.reduceAdd, cap0, cap1, cap2, cap3, h13 t b j _ t1 (by omega) cs k1 (by omega), hf, Bool.not_true]
  refine ⟨e2, a', l', c', ⟨_, _, _, _, _, _, _, _, rfl⟩, ?_⟩
  have last : evSs cl y4 e2 [fe u a' l' c'] = .nx e2 [fe u a' l' c'] := by
    unfold y4
    rw [evSs, evS, evE, n2, ok_bind]
    simp only [evSs, evS, evE, evEs, ok_bind, ok_thn, nx_seq, rt_seq, ok_calm, lift_some, rd_int, rd_bl, rd_tup, rd_lst, rd_rep, rd_scr, seqO_lst, seqO_tup, setTg1, bAdd, bSub, cLt, cLe, cGt, cGe, cEq, cNe, lenT, lenL, bInt, getT, getLs, idT, idL, omap, List.map_cons, List.map_nil, List.replicate, List.cons_append, List.nil_append, List.append_nil, List.getElem?_cons_zero, List.getElem?_cons_succ, List.set_cons_zero, List.set_cons_succ, List.length_map, List.length_cons, List.length_nil, wipeE, if_true, arr, Option.bind_some, List.reverse_nil, tupL, par2, par3, Nat.zero_add, Nat.reduceAdd, cap0, cap1, cap2, cap3, ne00]
  have mid2 : evSs cl y3 e1 [fe u a' l' c'] = .nx e2 [fe u a' l' c'] := by
    have e : y3 = .cons (.asg [5] (.bin .fdiv (.bi .sum (.cons (.var 3) .nil)) (.bi .len (.cons (.var 3) .nil)))) y4 := rfl
    rw [e, evSs]
    generalize y4 = Y at last ⊢
    simp only [e1, evS, evE, evEs, ok_bind, ok_thn, nx_seq, lift_some, rd_tup, rd_int, setTg1, lenT, List.map_cons, List.map_nil, List.getElem?_cons_zero, List.getElem?_cons_succ, List.set_cons_zero, List.set_cons_succ, sumT, List.length_map, hd]
    exact last
  have mid1 : evSs cl y2 e1 [fe u a' l' c'] = .nx e2 [fe u a' l' c'] := by
    have e : y2 = .cons y2s y3 := rfl
    rw [e, evSs]
    generalize y3 = Y at mid2 ⊢
    unfold y2s
    rw [evS, evE, n1, ok_bind]
    simp only [evE, evEs, ok_bind, ok_thn, lift_some, rd_lst, ne00, omap, List.length_nil, cap0, if_true, evSs, nx_seq]
    exact mid2
  have e : l23_2 = .cons y0 (.cons y1 (.cons y5 (.cons y6 (.cons y7 y2)))) := rfl
  rw [e]
  generalize y2 = Y at mid1 ⊢
  unfold y0 y1 y5 y6 y7
  simp only [evSs, evS, evE, evEs, ok_bind, ok_thn, nx_seq, rt_seq, ok_calm, lift_some, rd_int, rd_bl, rd_tup, rd_lst, rd_rep, rd_scr, seqO_lst, seqO_tup, setTg1, bAdd, bSub, cLt, cLe, cGt, cGe, cEq, cNe, lenT, lenL, bInt, getT, getLs, idT, idL, omap, List.map_cons, List.map_nil, List.replicate, List.cons_append, List.nil_append, List.append_nil, List.getElem?_cons_zero, List.getElem?_cons_succ, List.set_cons_zero, List.set_cons_succ, List.length_map, List.length_cons, List.length_nil, wipeE, if_true, arr, Option.bind_some, List.reverse_nil, tupL, par2, par3, Nat.zero_add, Nat.reduceAdd, cap0, cap1, cap2, cap3, m3, t4, r1, r2, g21, g22, g10, g11, neRep]
  exact mid1
end K15

set_option Elab.async false
set_option linter.all false
set_option maxRecDepth 100000
set_option maxHeartbeats 4000000
namespace K15
open T5 PySem
theorem e23 (ns : List Int) : run F 9 23 [.scr (ns.map .int)] [] = .ok (.bl true) [] := by
  obtain ⟨u, hu⟩ := @e14 7 ns
  have h17 := fun a l c lim h1 h2 => @e17 5 u a l c lim h1 h2
  have h21 := fun t s h1 h2 h3 => @e21 5 t s h1 h2 h3
  have h22 := fun t s h1 h2 h3 => @e22 5 t s h1 h2 h3
  have h10 := fun t s h1 h2 h3 => @e10 4 t s h1 h2 h3
  have h11 := fun t s h1 h2 h3 => @e11 5 t s h1 h2 h3
  have h13 := fun t b L s h1 h2 h3 h4 h5 => @e13 3 t b L s h1 h2 h3 h4 h5
  rw [show (9 : Nat) = 8 + 1 from rfl, run_at F23 rfl]
  simp only [Nat.reduceAdd] at hu h17 h21 h22 h10 h11 h13
  generalize run F 8 = cl at hu h17 h21 h22 h10 h11 h13 ⊢
  simp only [f23, evSs, evS, evE, evEs, ok_bind, ok_thn, nx_seq, rt_seq, ok_calm, lift_some, rd_int, rd_bl, rd_tup, rd_lst, rd_rep, rd_scr, seqO_lst, seqO_tup, setTg1, bAdd, bSub, cLt, cLe, cGt, cGe, cEq, cNe, lenT, lenL, bInt, getT, getLs, idT, idL, omap, List.map_cons, List.map_nil, List.replicate, List.cons_append, List.nil_append, List.append_nil, List.getElem?_cons_zero, List.getElem?_cons_succ, List.set_cons_zero, List.set_cons_succ, List.length_map, List.length_cons, List.length_nil, wipeE, if_true, arr, Option.bind_some, List.reverse_nil, tupL, par2, par3, Nat.zero_add, Nat.reduceAdd, cap0, cap1, cap2, cap3, hu, show okR 3 = true from by decide +kernel, show (3 : Int).toNat = 3 from rfl]
  obtain ⟨env', s', h1, ⟨a, l, c, hE, rfl⟩⟩ := forL_inv (f := fun y env1 s2 => evSs cl l23_2 (env1.set 2 (some y)) s2) (xs := rangeD 0 3) (j := 0)
    (I := fun _ env s => ∃ a l c, Env9 env ∧ s = [fe u a l c]) (env := [some (.scr (ns.map .int)), some (.loc 0), none, none, none, none, none, none, none]) (s := [fe u 0 0 0])
    (fun i x hx env s ⟨a, l, c, ⟨x0, x2, x3, x4, x5, x6, x7, x8, q1⟩, q2⟩ => by
      obtain ⟨j, hj, rfl⟩ := mem_range (List.mem_of_getElem? hx)
      subst q1 q2
      simp only [List.set_cons_zero, List.set_cons_succ, Int.zero_add]
      obtain ⟨env', a', l', c', z1, z2⟩ := lap (x0 := x0) (x3 := x3) (x4 := x4) (x5 := x5) (x6 := x6) (x7 := x7) (x8 := x8) hj (h17 a l c) h21 h22 h10 h11 h13
      exact ⟨_, _, z2, a', l', c', z1, rfl⟩)
    ⟨0, 0, 0, ⟨_, _, _, _, _, _, _, _, rfl⟩, rfl⟩
  rw [h1]
  rfl
end K15

set_option Elab.async false
set_option linter.all false
set_option maxRecDepth 100000
set_option maxHeartbeats 0
namespace K15
open PySem PySem.Spec PyProof.Rows L2 T5
def tb : Tb := ⟨fun _ => 0, fun _ => 0, fun _ => []⟩
end K15
open PySem PySem.W PySem.Calls PyProof.Rows
theorem PySem.Challenge.cw_throwshelves_k15_whole_free_and_full_str_holds : PySem.Challenge.rw_throwshelves_k15_whole_free_and_full_str.Holds := by
  w_on; o_law
  refine HandSHeadRun.head_any (r := K15.Rw) (q := view K15.Rw.prog [K15.lawAt]) (H := K15.hk) (ob := K15.ob) (M := 20000) (loose := K15.loose) (d := HandSHeadRun.topDef K15.Rw.prog K15.lawAt) (kwd := []) K15.ob_eq
    (by kernel_rfl) (fun s => by kernel_rfl) K15.runTop (by kernel_rfl) (by kernel_rfl) (by kernel_rfl) (by rfl) (by first | assumption | decide +kernel) (by decide +kernel) ⟨rfl, rfl, rfl, rfl, rfl, by decide +kernel⟩ ?hw ?hc
  case hw => w_witness2
  case hc =>
    refine T5.walk_G (l := PySem.Challenge.rw_throwshelves_k15_whole_free_and_full_str) (n := 63) (k := 9) (gt := K15.gt) (Ds := K15.ds) (T := K15.tb) (i := 23) (x := "_law_script") rfl (by decide) (by kernel_rfl) ⟨rfl, by decide, by decide⟩ rfl (by kernel_rfl) rfl (by kernel_rfl) ?_ ?_
    · intro w mg h Y G
      obtain ⟨K, KX, c⟩ := Y
      exact ⟨K, KX, T5.top_of KX G c K15.bok K15.scs⟩
    · intro ns _ _
      rw [K15.F_eq]
      exact ⟨[], K15.e23 ns⟩
