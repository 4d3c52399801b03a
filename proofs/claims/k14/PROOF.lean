import PyProof.Rows.All
import Wide.All
import OpenK.AllK
import Wide.FinOn
import HandS.ForMost
import HandS.TupAny
import HandS.Style
import PyProof.ReprBulk
import HandS.Evl
import HandS.TupMul
import HandS.Exc
import HandS.Lambda
import HandS.IsInst
import HandS.SortRule
import HandS.SortInts
import HandS.TupSets
import HandS.Zip
import KE.KTupSum
import KE.GoesMore
import PyProof.EnumMake
import PyProof.Draws
import HandS.Iter
import PyProof.WalkInts
import PyProof.WalksMore
import HandS.Star
import HandS.Deep
import HandS.Dict
import HandS.Steps
import KE.KExcSuper
import HandS.ExcInit
import HandS.ExcField
import HandS.ExcIs
import HandS.HeadWalk
import HandS.TryOnly
import HandS.Codes
import HandS.Conv
import HandS.EndTab
import KE.KDictZip
import KE.GoesZip
import PyProof.ListNew
import KE.GoesEnum
import HandS.WordsExc
import HandS.Defaults
import HandS.Words
import HandS.HeadHook2
import HandS.HeadHook4
import HandS.Ends
import HandS.EndBits
import HandS.Head0
import HandS.Head1
import HandS.Head2
import KE.KStateDown
import PySem.Challenge.RW_throwshelves_k14_whole_tables_judged
set_option Elab.async false
set_option linter.all false
set_option maxRecDepth 100000
set_option maxHeartbeats 4000000
/-! T5: own rule: a list or a tuple the other way about, x[::-1]. -/
namespace L2
open PySem PySem.Spec PyProof.Rows HT
theorem adjust_m1 (n : Nat) : Builtin.Slice.sliceAdjust none none (-1) (n : Int) = ((n : Int) - 1, -1) := by
  unfold Builtin.Slice.sliceAdjust
  rfl
theorem places_m1 (n : Nat) : Builtin.Slice.slicePlaces ((n : Int) - 1) (-1) (-1) = n := by
  unfold Builtin.Slice.slicePlaces
  have h1 : ¬ ((-1 : Int) > 0) := by omega
  simp only [h1, if_false, Int.neg_neg, Int.ediv_one]
  split <;> omega
theorem pick_m1 (xs : Array Value) : ((List.range xs.size).filterMap fun (m : Nat) => xs[(((xs.size : Int) - 1) + (m : Int) * (-1)).toNat]?).toArray = xs.toList.reverse.toArray := by
  congr 1
  have e : ((List.range xs.size).filterMap fun (m : Nat) => xs[(((xs.size : Int) - 1) + (m : Int) * (-1)).toNat]?) = (List.range xs.size).filterMap fun m => xs.toList.reverse[m]? := by
    have cg : ∀ (l : List Nat) (f g : Nat → Option Value), (∀ m ∈ l, f m = g m) → l.filterMap f = l.filterMap g := fun l f g h => by
      induction l with
      | nil => rfl
      | cons a r ih => rw [List.filterMap_cons, List.filterMap_cons, h a (List.mem_cons_self ..), ih fun m hm => h m (List.mem_cons_of_mem _ hm)]
    refine cg _ _ _ fun m hm => ?_
    have hm := List.mem_range.mp hm
    have e1 : (((xs.size : Int) - 1) + (m : Int) * (-1)).toNat = xs.size - 1 - m := by omega
    have hl : m < xs.toList.length := by rw [Array.length_toList]; exact hm
    show xs[(((xs.size : Int) - 1) + (m : Int) * (-1)).toNat]? = xs.toList.reverse[m]?
    rw [e1, List.getElem?_reverse hl, Array.length_toList, Array.getElem?_toList]
  rw [e]
  have h2 : ∀ (l : List Value) (n : Nat), l.length = n → (List.range n).filterMap (fun m => l[m]?) = l := fun l => by
    induction l with
    | nil => intro n hn; subst hn; rfl
    | cons a r ih =>
      intro n hn
      subst hn
      rw [List.length_cons, List.range_succ_eq_map, List.filterMap_cons]
      simp only [List.getElem?_cons_zero, List.filterMap_map]
      congr 1
      exact ih r.length rfl
  exact h2 _ _ (by rw [List.length_reverse, Array.length_toList])
section
variable {prog : Program} {w : World} {A : Around} {E : Value → Shared → Prop} {s : Shared}
theorem sliceApplied_m1 {sl : Addr} {vl vu vk : Value} {n : Nat} {Q : Int × Int × Nat → Shared → Prop} (hs : s.heap.IsSliceOf sl vl vu vk) (pl : IsPart vl none) (pu : IsPart vu none) (pk : IsPart vk (some (-1)))
    (h : Q ((n : Int) - 1, -1, n) s) : wpAny (model prog w) A (Builtin.Slice.sliceApplied (.ref sl) (pure (n : Int))) Q E s := by
  obtain ⟨os, hos, hcs, hds⟩ := id hs
  unfold Builtin.Slice.sliceApplied Builtin.Slice.sliceFields
  refine wpAny_bind (wpAny_bind (wpAny_field hos hds (x := vl) rfl (wpAny_bind (wpAny_field hos hds (x := vu) rfl (wpAny_bind (wpAny_field hos hds (x := vk) rfl (wpAny_pure ?_)))))))
  refine wpAny_bind (slicePart_ pk ?_)
  show wpAny _ _ (if ((-1 : Int) == 0) = true then _ else _) _ _ s
  rw [if_neg (by decide)]
  refine wpAny_bind (slicePart_ pl (wpAny_bind (slicePart_ pu (wpAny_bind (wpAny_pure ?_)))))
  show wpAny _ _ (match Builtin.Slice.sliceAdjust none none (-1) (n : Int) with | (lo, hi) => pure (lo, (-1 : Int), Builtin.Slice.slicePlaces lo hi (-1))) _ _ s
  rw [adjust_m1 n]
  show wpAny _ _ (pure ((n : Int) - 1, (-1 : Int), Builtin.Slice.slicePlaces ((n : Int) - 1) (-1) (-1))) _ _ s
  rw [places_m1]
  exact wpAny_pure h
theorem getItem_tuple_rev {t sl : Addr} {items : Array Value} {vl vu vk : Value} {Q : Value → Shared → Prop} (ht : IsTup s.heap t items) (hs : s.heap.IsSliceOf sl vl vu vk) (pl : IsPart vl none) (pu : IsPart vu none) (pk : IsPart vk (some (-1)))
    (h : Q (.ref s.heap.objs.size) { s with heap := s.heap.push { cls := .type "tuple", data := .seq items.toList.reverse.toArray } })
    (hsz : items.size ≤ sizeLine) : wpAny (model prog w) A (getItem (.ref t) (.ref sl)) Q E s := by
  have htake : sizeOk (.seq items.toList.reverse.toArray) := by
    show items.toList.reverse.toArray.size ≤ sizeLine
    rw [List.size_toArray, List.length_reverse, Array.length_toList]
    omega
  obtain ⟨os, hos, hcs, hds⟩ := id hs
  have hTs : s.TypeIs (.ref sl) "slice" := ⟨os, hos, hcs⟩
  unfold getItem
  try with_reducible refine wpAny_holding ?_
  first | refine wpAny_bind (wpAny_pure ?_) | skip
  refine wpAny_bind (wpAny_sequenceKey ht.typeIs (by decide) ?_)
  refine wpAny_bind (wpAny_callSpecial?_slot (name := Str.ofString "__getitem__") ht.typeIs PyProof.Rows.slot_tuple_getitem
    (wpAny_call_entry PyProof.Rows.slot_tuple_getitem ht.typeIs entry_tuple_getitem ?_ (args_tuple_getitem _ _)))
  show wpAny _ _ (Builtin.Tuple.tupleItemsOf (.ref t) >>= _) _ _ s
  refine wpAny_bind (tupleItemsOf_ ht ?_)
  refine wpAny_bind (wpAny_typeOf hTs ?_)
  rw [if_pos (by decide)]
  refine wpAny_bind (sliceApplied_m1 hs pl pu pk ?_)
  have hno : ¬ (((items.size : Int) - 1 == 0 && (-1 : Int) == 1 && items.size == items.size) = true) := by
    intro q
    rw [Bool.and_eq_true, Bool.and_eq_true] at q
    exact absurd q.1.2 (by decide)
  show wpAny _ _ (if ((items.size : Int) - 1 == 0 && (-1 : Int) == 1 && items.size == items.size) = true then _ else _) _ _ s
  rw [if_neg hno, pick_m1]
  first
    | exact wpAny_bind (m := Builtin.Tuple.tupleExact _) (wpAny_newObj_type (wpAny_pure ⟨_, rfl, wpAny_pure h⟩) htake)
    | exact wpAny_bind (m := Builtin.Tuple.tupleExact _) (wpAny_newObj_type (wpAny_bind (wpAny_pure (wpAny_pure ⟨_, rfl, wpAny_pure h⟩))) htake)
    | exact wpAny_bind (wpAny_bind (m := Builtin.Tuple.tupleExact _) (wpAny_newObj_type (wpAny_pure (wpAny_pure ⟨_, rfl, wpAny_pure h⟩)) htake))
    | exact wpAny_bind (wpAny_bind (m := Builtin.Tuple.tupleExact _) (wpAny_newObj_type (wpAny_pure ⟨_, rfl, wpAny_pure h⟩) htake))
end
section
variable {X : Cx}
/-- x[::-1], x a list or a tuple -/
def tRevLT (K : PySem.W.Frag) (te : TE) : TE := fun σ H Q => te σ H fun x H1 => ∃ a xs, x = .ref a ∧ ((SqL K H1 a xs ∧ ∀ p, H1 p = none → Q (.ref p) (upd H1 p (.lst xs.reverse))) ∨ (SqT K H1 a xs ∧ ∀ p, H1 p = none → Q (.ref p) (upd H1 p (.tup xs.reverse))))
theorem pe_revLT {e : Expr} {te : TE} {k : Nat} {p1 p2 p3 pos : Pos} (he : PE X e te) : PE X (.Subscript e (.Slice none none (some (.UnaryOp .USub (.Constant (.int 1) k p1) p2)) p3) pos) (tRevLT X.K te) := by
  refine ⟨fun pins s σ H Q I h => ?_⟩
  refine Subscript_ (thn (he.run pins s σ H _ I h) fun v s1 ⟨x, H1, I1, r1, q1⟩ => ?_)
  obtain ⟨a, xs, ex, hx⟩ := q1
  subst ex
  cases r1
  have hst : PO X (some (.UnaryOp .USub (.Constant (.int 1) k p1) p2)) (tPart (tUn (rU fun i => .int (-i)) (tC (.int 1)))) := po_some (pe_un un_neg pe_int)
  refine wpAny_Slice (thn (po_none.run pins s1 σ H1 (fun o H2 => o = none ∧ H2 = H1) I1 ⟨rfl, rfl⟩) fun vl s2 ⟨l, H2, I2, pl, el, e2⟩ => ?_)
  subst el e2
  refine thn (po_none.run pins s2 σ H2 (fun o H3 => o = none ∧ H3 = H2) I2 ⟨rfl, rfl⟩) fun vu s3 ⟨u, H3, I3, pu, eu, e3⟩ => ?_
  subst eu e3
  refine thn (hst.run pins s3 σ H3 (fun o H4 => o = some (-1) ∧ H4 = H3) I3 ⟨1, rfl, -1, rfl, rfl, rfl⟩) fun vs s4 ⟨o, H4, I4, ps, eo, e4⟩ => ?_
  subst eo e4
  have I5 : Inv X pins σ H4 { s4 with heap := s4.heap.push { cls := .type "slice", data := .fields #[vl, vu, vs] } } := I4.kept (t' := s4.toks) fun b ob q => Heap.get?_push_of_some _ q
  show wpAny (model X.prog X.w) X.A (subscriptTail e (.Slice none none (some (.UnaryOp .USub (.Constant (.int 1) k p1) p2)) p3) (.ref a) (.ref s4.heap.objs.size)) (EP X pins σ Q) X.xe { s4 with heap := s4.heap.push { cls := .type "slice", data := .fields #[vl, vu, vs] } }
  rcases hx with ⟨hx, q⟩ | ⟨hx, q⟩
  · obtain ⟨its, r, ht, hz⟩ := I5.list hx
    have hlen := r.length
    refine tail_any (ops := [.ref a, .ref s4.heap.objs.size]) ht.isList.typeIs (PySem.slot_list_getitem.lookup) ?_ (by with_unfolding_all rfl)
    refine wpAny_getItem_list_slice ht.isList (Heap.IsSliceOf.new _ vl vu vs) pl pu ps (by decide) ?_ (by rw [List.size_toArray]; omega)
    rw [PySem.W.krv_pick]
    refine ⟨.ref _, _, I5.laid (t' := s4.toks) (o := .lst xs.reverse) (fun b ob q => Heap.get?_push_of_some _ q) (Nat.le_refl _) ?_, rfl, q _ (I5.hok.fresh (Nat.le_refl _))⟩
    exact ⟨by rw [List.length_reverse]; exact hz, _, 0, r.reverse, Heap.get?_push_size _ rfl⟩
  · obtain ⟨its, r, ht, hz⟩ := I5.tuple hx
    have hlen := r.length
    refine tail_any (ops := [.ref a, .ref s4.heap.objs.size]) ht.typeIs (PyProof.Rows.slot_tuple_getitem.lookup) ?_ (by with_unfolding_all rfl)
    refine getItem_tuple_rev ht (Heap.IsSliceOf.new _ vl vu vs) pl pu ps ?_ (by rw [List.size_toArray]; omega)
    refine ⟨.ref _, _, I5.laid (t' := s4.toks) (o := .tup xs.reverse) (fun b ob q => Heap.get?_push_of_some _ q) (Nat.le_refl _) ?_, rfl, q _ (I5.hok.fresh (Nat.le_refl _))⟩
    exact ⟨by rw [List.length_reverse]; exact hz, _, r.reverse, IsTup.new _ _⟩
end
end L2

set_option Elab.async false
set_option linter.all false
set_option maxRecDepth 100000
/-! T5: a small core language over plain data, and its evaluator. -/
namespace T5
open PySem

/-- data: lists within (lst) never change; what may change lies in the store (loc) -/
inductive D where
  | non
  | bl (b : Bool)
  | int (i : Int)
  | str (x : Str)
  | rep (d : D)
  | tup (ds : List D)
  | lst (ds : List D)
  | scr (ds : List D)
  | kt (ds : List D)
  | loc (n : Nat)
  | fn (i : Nat)
  | ty (n : String)
  | pin (k : Nat)

/-- the store's objects -/
inductive SO where
  | lst (ds : List D)
  | dic (kvs : List (L2.Key × D))
abbrev Sto := List SO
abbrev Env := List (Option D)

/-- what an evaluation comes to -/
inductive R (α : Type) where
  | ok (a : α) (s : Sto)
  | err (c : Nat) (ds : List D) (s : Sto)
  | bad
def R.bind {α β : Type} (r : R α) (f : α → Sto → R β) : R β :=
  match r with
  | .ok a s => f a s
  | .err c ds s => .err c ds s
  | .bad => .bad
/-- a plain result, or none -/
def lift {α : Type} (o : Option α) (s : Sto) : R α :=
  match o with
  | some a => .ok a s
  | none => .bad

/-! ### equality of data, kinds of data -/
mutual
def eqD : D → D → Bool
  | .non, .non => true
  | .bl a, .bl b => a == b
  | .int a, .int b => a == b
  | .str a, .str b => decide (a = b)
  | .rep a, .rep b => eqD a b
  | .tup a, .tup b => eqL a b
  | .lst a, .lst b => eqL a b
  | .scr a, .scr b => eqL a b
  | .kt a, .kt b => eqL a b
  | .loc a, .loc b => a == b
  | .fn a, .fn b => a == b
  | .ty a, .ty b => a == b
  | .pin a, .pin b => a == b
  | _, _ => false
def eqL : List D → List D → Bool
  | [], [] => true
  | a :: r, b :: t => eqD a b && eqL r t
  | _, _ => false
end
-- no place of the store at n or above
mutual
def clean (n : Nat) : D → Bool
  | .tup ds => cleanL n ds
  | .lst ds => cleanL n ds
  | .scr ds => cleanL n ds
  | .kt ds => cleanL n ds
  | .loc m => Nat.blt m n
  | .rep d => clean n d
  | _ => true
def cleanL (n : Nat) : List D → Bool
  | [] => true
  | d :: r => clean n d && cleanL n r
end
def cleanKv (n : Nat) : List (L2.Key × D) → Bool
  | [] => true
  | p :: r => clean n p.2 && cleanKv n r
def cleanO (n : Nat) : SO → Bool
  | .lst ds => cleanL n ds
  | .dic kvs => cleanKv n kvs
def cleanS (n : Nat) : List SO → Bool
  | [] => true
  | o :: r => cleanO n o && cleanS n r

-- no pin of this number within
mutual
def pf (k : Nat) : D → Bool
  | .tup ds => pfL k ds
  | .lst ds => pfL k ds
  | .scr ds => pfL k ds
  | .kt ds => pfL k ds
  | .pin j => !(Nat.beq j k)
  | _ => true
def pfL (k : Nat) : List D → Bool
  | [] => true
  | d :: r => pf k d && pfL k r
end
def pfKv (k : Nat) : List (L2.Key × D) → Bool
  | [] => true
  | p :: r => pf k p.2 && pfKv k r
def pfO (k : Nat) : SO → Bool
  | .lst ds => pfL k ds
  | .dic kvs => pfKv k kvs
def pfS (k : Nat) : List SO → Bool
  | [] => true
  | o :: r => pfO k o && pfS k r
def pfE (k : Nat) : Env → Bool
  | [] => true
  | none :: r => pfE k r
  | some d :: r => pf k d && pfE k r

-- as a datum of the library
mutual
def toP : D → Option PyData
  | .non => some .none
  | .bl b => some (.bool b)
  | .int i => some (.int i)
  | .str x => some (.str x)
  | .tup ds => (toPs ds).map .tuple
  | .lst ds => (toPs ds).map .list
  | _ => none
def toPs : List D → Option (List PyData)
  | [] => some []
  | d :: r => (toP d).bind fun p => (toPs r).map fun ps => p :: ps
end
/-- a == b -/
def eqq (a b : D) : Option Bool :=
  match a, b with
  | .rep x, .rep y => if eqD x y then some true else none
  | .int i, .int j => some (i == j)
  | a, b => (toP a).bind fun p => (toP b).bind fun q => if SeqAt.shaped p && SeqAt.shaped q then some (PyData.eqv p q) else none
/-- a list of the store read -/
def rd (s : Sto) (d : D) : D :=
  match d with
  | .loc n => (match s[n]? with
    | some (.lst ds) => .lst ds
    | _ => d)
  | _ => d
def cap : Nat := 100000
def big64 (i : Int) : Bool := decide (-(2 ^ 64) < i) && decide (i < 2 ^ 64)

inductive BOp where
  | add | sub | mul | fdiv | mod | pow
inductive COp where
  | lt | le | gt | ge | eq | ne | is | isnot | mem | nmem
/-- two-place operations -/
def addD : D → D → Option D
  | .int i, .int j => some (.int (i + j))
  | .tup a, .tup b => if Nat.ble (a.length + b.length) cap then some (.tup (a ++ b)) else none
  | .lst a, .lst b => if Nat.ble (a.length + b.length) cap then some (.lst (a ++ b)) else none
  | _, _ => none
def subD : D → D → Option D
  | .int i, .int j => some (.int (i - j))
  | _, _ => none
def mulD : D → D → Option D
  | .int i, .int j => if big64 i || big64 j then some (.int (i * j)) else none
  | .tup a, .int k => if decide (1 ≤ k) && decide (k ≤ 1000) && Nat.ble a.length 1000 && Nat.blt 0 a.length then some (.tup (List.replicate k.toNat a).flatten) else none
  | .lst a, .int k => if decide (0 ≤ k) && decide (k ≤ 1000) && Nat.ble a.length 1000 then some (.lst (List.replicate k.toNat a).flatten) else none
  | _, _ => none
def fdivD : D → D → Option D
  | .int i, .int j => if decide (0 < j) && decide (j < 1073741824) then some (.int (i / j)) else none
  | _, _ => none
def modD : D → D → Option D
  | .int i, .int j => if decide (0 < j) then some (.int (i % j)) else none
  | _, _ => none
def powD : D → D → Option D
  | .int i, .int j => if decide (0 ≤ j) && decide (j ≤ 1000000) && big64 i then some (.int (i ^ j.toNat)) else none
  | _, _ => none
def binD : BOp → D → D → Option D
  | .add => addD
  | .sub => subD
  | .mul => mulD
  | .fdiv => fdivD
  | .mod => modD
  | .pow => powD
/-- comparisons -/
def ordD (f : Int → Int → Bool) : D → D → Option Bool
  | .int i, .int j => some (f i j)
  | _, _ => none
/-- x is None -/
def isN : D → Option Bool
  | .non => some true
  | .bl _ => some false
  | .int _ => some false
  | .str _ => some false
  | .tup _ => some false
  | .lst _ => some false
  | .scr _ => some false
  | .kt _ => some false
  | .loc _ => some false
  | _ => none
def isD (a b : D) : Option Bool :=
  match b with
  | .non => isN a
  | .bl y => (match a with
    | .bl x => some (x == y)
    | _ => none)
  | _ => none
/-- flat data -/
def flatD : D → Option L2.V
  | .non => some .non
  | .bl b => some (.bl b)
  | .int i => some (.int i)
  | .str x => some (.str x)
  | _ => none
def flatL : List D → Option (List L2.V)
  | [] => some []
  | d :: r => (flatD d).bind fun v => (flatL r).map (v :: ·)
def memF (a : D) (ds : List D) : Option Bool := (flatD a).bind fun v => (flatL ds).map fun vs => L2.inV v vs
/-- a in b -/
def memD (a b : D) : Option Bool :=
  match b with
  | .lst ds => (match memF a ds with
    | some x => some x
    | none => (toP a).bind fun p => (toPs ds).bind fun ps => if SeqAt.shaped p && SeqAt.shaped (.list ps) then some (ps.any fun z => PyData.eqv z p) else none)
  | .tup ds => memF a ds
  | .kt ds => memF a ds
  | _ => none
def cmpD : COp → D → D → Option Bool
  | .lt => ordD fun i j => decide (i < j)
  | .le => ordD fun i j => decide (i ≤ j)
  | .gt => ordD fun i j => decide (j < i)
  | .ge => ordD fun i j => decide (j ≤ i)
  | .eq => eqq
  | .ne => fun a b => (eqq a b).map (! ·)
  | .is => isD
  | .isnot => fun a b => (isD a b).map (! ·)
  | .mem => memD
  | .nmem => fun a b => (memD a b).map (! ·)

/-- an item -/
def ixD (ds : List D) (i : Int) : Option D := (L2.ixN ds.length i).bind fun j => ds[j]?
def idxD : D → D → Option D
  | .tup ds, .int i => ixD ds i
  | .lst ds, .int i => ixD ds i
  | .scr ds, .int i => ixD ds i
  | _, _ => none
/-- a cut -/
def cutD (ds : List D) (lo hi : Option Int) : List D := (ds.drop (HT.sIx ds.length 0 lo)).take (HT.sIx ds.length ds.length hi - HT.sIx ds.length 0 lo)
def partD : D → Option (Option Int)
  | .non => some none
  | .int i => some (some i)
  | _ => none
def slcD (l h : Option Int) : D → Option D
  | .lst ds => some (.lst (cutD ds l h))
  | .scr ds => some (.lst (cutD ds l h))
  | .tup ds => some (.tup (cutD ds l h))
  | _ => none
def sumD : List D → Option Int
  | [] => some 0
  | .int i :: r => (sumD r).map (i + ·)
  | _ => none
def intsOf : List D → Option (List Int)
  | [] => some []
  | .int i :: r => (intsOf r).map (i :: ·)
  | _ => none
/-- pairs of intsOf -/
def prs : List D → Option (List (Int × Int))
  | [] => some []
  | .tup [.int i, .int j] :: r => (prs r).map ((i, j) :: ·)
  | _ => none
def insI (x : Int) : List Int → List Int
  | [] => [x]
  | y :: r => if x ≤ y then x :: y :: r else y :: insI x r
def srtI : List Int → List Int
  | [] => []
  | x :: r => insI x (srtI r)
def leP (a b : Int × Int) : Bool := decide (a.1 < b.1) || (a.1 == b.1 && decide (a.2 ≤ b.2))
def insP (x : Int × Int) : List (Int × Int) → List (Int × Int)
  | [] => [x]
  | y :: r => if leP x y then x :: y :: r else y :: insP x r
def srtP : List (Int × Int) → List (Int × Int)
  | [] => []
  | x :: r => insP x (srtP r)
def ofI (i : Int) : D := .int i
def ofP (p : Int × Int) : D := .tup [.int p.1, .int p.2]
/-- tuples of whole numbers, all of one length -/
def tupsOf (d : Nat) : List D → Option (List (List Int))
  | [] => some []
  | .tup xs :: r => (intsOf xs).bind fun ns => if Nat.beq ns.length d && ns.all (fun i => decide (0 ≤ i) && decide (i < 1048576)) then (tupsOf d r).map (ns :: ·) else none
  | _ => none
def leL : List Int → List Int → Bool
  | [], _ => true
  | _ :: _, [] => false
  | x :: a, y :: b => decide (x < y) || (x == y && leL a b)
def insL (x : List Int) : List (List Int) → List (List Int)
  | [] => [x]
  | y :: r => if leL x y then x :: y :: r else y :: insL x r
def srtL : List (List Int) → List (List Int)
  | [] => []
  | x :: r => insL x (srtL r)
def ofL (ns : List Int) : D := .tup (ns.map ofI)
def wid : List D → Nat
  | .tup xs :: _ => xs.length
  | _ => 0
def srtD (ds : List D) : Option D :=
  match intsOf ds with
  | some ns => some (.lst ((srtI ns).map ofI))
  | none => (match prs ds with
    | some ps => some (.lst ((srtP ps).map ofP))
    | none => if Nat.blt ds.length 64 && Nat.ble 1 (wid ds) then (tupsOf (wid ds) ds).map fun l => .lst ((srtL l).map ofL) else none)
def repD (d : D) : Option D :=
  (toP d).bind fun p => if SeqAt.shaped p && p.showable && p.leavesShort 2000 && Nat.ble p.bulk 5000 then some (.rep d) else none
/-- the types that a datum is asked for -/
def tyOk (t : String) : Bool := t == "int" || t == "bool" || t == "str" || t == "tuple" || t == "list"
def isiD (d : D) (t : String) : Option Bool :=
  match d with
  | .non => some (t == "NoneType")
  | .bl _ => some (t == "bool" || t == "int")
  | .int _ => some (t == "int")
  | .str _ => some (t == "str")
  | .tup _ => some (t == "tuple")
  | .lst _ => some (t == "list")
  | _ => none
def rangeD (lo : Int) (n : Nat) : List D := (List.range n).map fun i => .int (lo + (i : Nat))
def downD (hi : Int) (n : Nat) : List D := (List.range n).map fun i => .int (hi + (i : Nat) * -1)
def okR (i : Int) : Bool := decide (-(2 ^ 60) ≤ i) && decide (i ≤ 2 ^ 60)

inductive Bi where
  | len | sum | int | list | tuple | sorted | lenset | repr | isi | all | any | max | min | abs
/-- built-ins, by data (lists of the store are read ahead) -/
def lenD : List D → Option D
  | [.tup ds] => some (.int ds.length)
  | [.lst ds] => some (.int ds.length)
  | [.scr ds] => some (.int ds.length)
  | _ => none
def sumB : List D → Option D
  | [.tup ds] => (sumD ds).map .int
  | [.lst ds] => (sumD ds).map .int
  | _ => none
def intB : List D → Option D
  | [.int i] => some (.int i)
  | [.bl b] => some (.int (if b then 1 else 0))
  | _ => none
def listB : List D → Option D
  | [.lst ds] => some (.lst ds)
  | [.tup ds] => some (.lst ds)
  | [.scr ds] => some (.lst ds)
  | _ => none
def tupB : List D → Option D
  | [.lst ds] => some (.tup ds)
  | [.tup ds] => some (.tup ds)
  | _ => none
def sortB : List D → Option D
  | [.lst ds] => srtD ds
  | _ => none
def lensetB : List D → Option D
  | [.lst ds] => (intsOf ds).bind fun ns => if Nat.ble ns.length 4000 then some (.int (PyProof.Rows.firstMet (fun i => ns.getD i 0) ns.length).length) else none
  | _ => none
def reprB : List D → Option D
  | [.tup ds] => repD (.tup ds)
  | [.lst ds] => repD (.lst ds)
  | [.non] => repD .non
  | [.bl b] => repD (.bl b)
  | [.int i] => repD (.int i)
  | [.str x] => repD (.str x)
  | _ => none
def isiB : List D → Option D
  | [d, .ty t] => if tyOk t then (isiD d t).map .bl else none
  | _ => none
def blsOf : List D → Option (List Bool)
  | [] => some []
  | .bl b :: r => (blsOf r).map (b :: ·)
  | _ => none
def allB : List D → Option D
  | [.lst ds] => (blsOf ds).map fun bs => .bl (bs.all id)
  | _ => none
def anyB : List D → Option D
  | [.lst ds] => (blsOf ds).map fun bs => .bl (bs.any id)
  | _ => none
def maxI : Int → List Int → Int
  | x, [] => x
  | x, y :: r => maxI (if x < y then y else x) r
def minI : Int → List Int → Int
  | x, [] => x
  | x, y :: r => minI (if y < x then y else x) r
def maxL (ds : List D) : Option D :=
  match intsOf ds with
  | some (x :: r) => some (.int (maxI x r))
  | _ => none
def minL (ds : List D) : Option D :=
  match intsOf ds with
  | some (x :: r) => some (.int (minI x r))
  | _ => none
def maxB : List D → Option D
  | [.lst ds] => maxL ds
  | [.tup ds] => maxL ds
  | [.int i, .int j] => some (.int (if j > i then j else i))
  | _ => none
def minB : List D → Option D
  | [.lst ds] => minL ds
  | [.tup ds] => minL ds
  | [.int i, .int j] => some (.int (if j < i then j else i))
  | _ => none
def absB : List D → Option D
  | [.int i] => some (.int (if i < 0 then -i else i))
  | _ => none
def biD : Bi → List D → Option D
  | .len => lenD
  | .sum => sumB
  | .int => intB
  | .list => listB
  | .tuple => tupB
  | .sorted => sortB
  | .lenset => lensetB
  | .repr => reprB
  | .isi => isiB
  | .all => allB
  | .any => anyB
  | .max => maxB
  | .min => minB
  | .abs => absB

mutual
inductive CE where
  | var (i : Nat)
  | con (d : D)
  | bin (op : BOp) (a b : CE)
  | neg (a : CE)
  | cmp (op : COp) (a b : CE)
  | and (a b : CE)
  | or (a b : CE)
  | not (a : CE)
  | ite (c a b : CE)
  | tup (es : CEs)
  | lst (es : CEs)
  | dic (ks : List L2.Key) (es : CEs)
  | box (e : CE)
  | idx (a i : CE)
  | asInt (a : CE)
  | slc (a lo hi : CE)
  | call (f : Nat) (src : List (Nat ⊕ D)) (es ks : CEs)
  | bi (b : Bi) (es : CEs)
  | rng1 (a : CE)
  | rng2 (a b : CE)
  | rng3 (a b c : CE)
  | lr1 (a : CE)
  | lr2 (a b : CE)
  | lc (own : List Nat) (tg : List Nat) (e : CE) (it : CE) (c : CE)
  | act
  | lam (f : Nat) (b : CE)
  | exi (i : Nat) (cs : List Nat)
  | exf (i : Nat) (js : List (Nat × Nat))
  | enum (a : CE)
  | zip (a b : CE)
  | lz (a b : CE)
  | rev (a : CE)
  | dicp (a : CE)
  | dget (d k v : CE)
  | chn (op op2 : COp) (a b c : CE)
  | bad
inductive CEs where
  | nil
  | cons (e : CE) (es : CEs)
  | star (e : CE) (es : CEs)
end

/-- dicts in the store -/
def look (k : L2.Key) : List (L2.Key × D) → Option D
  | [] => none
  | p :: r => if decide (p.1 = k) then some p.2 else look k r
def put (k : L2.Key) (d : D) : List (L2.Key × D) → List (L2.Key × D)
  | [] => [(k, d)]
  | p :: r => if decide (p.1 = k) then (k, d) :: r else p :: put k d r
def keyOf : D → Option L2.Key
  | .int i => some (.inl i)
  | .str x => some (.inr x)
  | _ => none
/-- a[i], a perhaps of the store -/
def getD (s : Sto) (a i : D) : Option D :=
  match a with
  | .loc n => (match s[n]? with
    | some (.lst ds) => idxD (.lst ds) i
    | some (.dic kvs) => (keyOf i).bind fun k => look k kvs
    | none => none)
  | _ => idxD a i
/-- a[i] = v -/
def setD (s : Sto) (a i v : D) : Option Sto :=
  match a with
  | .loc n => (match s[n]? with
    | some (.lst ds) => (match i with
      | .int j => (L2.ixN ds.length j).map fun k => s.set n (.lst (ds.set k v))
      | _ => none)
    | some (.dic kvs) => (keyOf i).bind fun k => if Nat.blt kvs.length cap then some (s.set n (.dic (put k v kvs))) else none
    | none => none)
  | _ => none
/-- k in d, d a dict of the store -/
def dinD (op : COp) (s : Sto) (x y : D) : Option Bool :=
  match y with
  | .loc n => (match s[n]? with
    | some (.dic kvs) => (match keyOf x with
      | some k => (match op with
        | .mem => some (look k kvs).isSome
        | .nmem => some (!(look k kvs).isSome)
        | _ => none)
      | none => none)
    | _ => none)
  | _ => none
def cmpS (op : COp) (s : Sto) (x y : D) : Option Bool :=
  match cmpD op x y with
  | some b => some b
  | none => dinD op s x y
def seqOf : D → Option (List D)
  | .tup ds => some ds
  | .lst ds => some ds
  | _ => none
/-- the slots of a target -/
def setTg (env : Env) (tg : List Nat) (d : D) : Option Env :=
  match tg with
  | [i] => some (env.set i (some d))
  | _ => (match d with
    | .tup ds => if Nat.beq ds.length tg.length then some ((tg.zip ds).foldl (fun e p => e.set p.1 (some p.2)) env) else none
    | _ => none)
def wipeE (env : Env) : List Nat → Env
  | [] => env
  | v :: vs => (wipeE env vs).set v none
def arr (src : List (Nat ⊕ D)) (ds : List D) : Option (List D) :=
  match src with
  | [] => some []
  | .inl j :: r => (ds[j]?).bind fun d => (arr r ds).map (d :: ·)
  | .inr d :: r => (arr r ds).map (d :: ·)
/-- a comprehension's turns -/
def lcL (f : D → Sto → R (Option D)) : List D → List D → Sto → R (List D)
  | [], acc, s => .ok acc.reverse s
  | x :: r, acc, s => (f x s).bind fun o s1 => match o with
    | some d => if Nat.blt acc.length cap then lcL f r (d :: acc) s1 else .bad
    | none => lcL f r acc s1
/-- nothing is raised within -/
def R.calm {α : Type} (r : R α) : R α :=
  match r with
  | .err _ _ _ => .bad
  | r => r

def enumL : Nat → List D → List D
  | _, [] => []
  | i, d :: r => .tup [.int (i : Nat), d] :: enumL (i + 1) r
def zipL : List D → List D → List D
  | a :: r, b :: t => .tup [a, b] :: zipL r t
  | _, _ => []
def kvsOf : List D → Option (List (L2.Key × D))
  | [] => some []
  | .tup [k, v] :: r => (keyOf k).bind fun q => (kvsOf r).map ((q, v) :: ·)
  | _ => none
/-- two sequences -/
def seq2 (d e : D) : Option (List D × List D) :=
  match seqOf d, seqOf e with
  | some a, some b => some (a, b)
  | _, _ => none
/-- d.get(k, v) -/
def isDl (s : Sto) (a : D) : Bool :=
  match a with
  | .loc n => (match s[n]? with
    | some (.dic _) => true
    | _ => false)
  | _ => false
def dgetD (s : Sto) (a k v : D) : Option D :=
  match a with
  | .loc n => (match s[n]? with
    | some (.dic kvs) => (keyOf k).map fun q => (match look q kvs with
      | some d => d
      | none => v)
    | _ => none)
  | _ => none
/-- a lambda without parameters, to be run later -/
abbrev Thk := Sto → R D
def noT : Thk := fun _ => .bad
abbrev Calls := Nat → List D → Thk → Sto → R D
def ACT : Nat := 1000000
def EXN : Nat := 1000001
def memN (c : Nat) : List Nat → Bool
  | [] => false
  | d :: r => Nat.beq c d || memN c r
def lookN (c : Nat) : List (Nat × Nat) → Option Nat
  | [] => none
  | p :: r => if Nat.beq c p.1 then some p.2 else lookN c r
/-- a def that runs a thunk; an except suite, that knows its exception -/
def hk (cl : Calls) (th : Thk) : Calls := fun i ds t s => if Nat.beq i ACT then (if pfS 0 s then th s else .bad) else cl i ds t s
def hx (cl : Calls) (c : Nat) (es : List D) : Calls := fun i ds t s => if Nat.beq i EXN then .ok (.tup (.int c :: es)) s else cl i ds t s
mutual
def evE (cl : Calls) : CE → Env → Sto → R D
  | .var i, env, s => (match env[i]? with
    | some (some d) => .ok d s
    | _ => .bad)
  | .con d, _, s => .ok d s
  | .bin op a b, env, s => (evE cl a env s).bind fun x s1 => (evE cl b env s1).bind fun y s2 => lift (binD op (rd s2 x) (rd s2 y)) s2
  | .neg a, env, s => (evE cl a env s).bind fun x s1 => (match x with
    | .int i => .ok (.int (-i)) s1
    | _ => .bad)
  | .cmp op a b, env, s => (evE cl a env s).bind fun x s1 => (evE cl b env s1).bind fun y s2 => lift ((cmpS op s2 (rd s2 x) (rd s2 y)).map .bl) s2
  | .and a b, env, s => (evE cl a env s).bind fun x s1 => (match x with
    | .bl true => evE cl b env s1
    | .bl false => .ok (.bl false) s1
    | _ => .bad)
  | .or a b, env, s => (evE cl a env s).bind fun x s1 => (match x with
    | .bl true => .ok (.bl true) s1
    | .bl false => evE cl b env s1
    | _ => .bad)
  | .not a, env, s => (evE cl a env s).bind fun x s1 => (match x with
    | .bl c => .ok (.bl (!c)) s1
    | _ => .bad)
  | .ite c a b, env, s => (evE cl c env s).bind fun x s1 => (match x with
    | .bl true => evE cl a env s1
    | .bl false => evE cl b env s1
    | _ => .bad)
  | .tup es, env, s => (evEs cl es env s).bind fun ds s1 => if Nat.ble ds.length cap then .ok (.tup ds) s1 else .bad
  | .lst es, env, s => (evEs cl es env s).bind fun ds s1 => if Nat.ble ds.length cap then .ok (.lst ds) s1 else .bad
  | .dic ks es, env, s => (evEs cl es env s).bind fun ds s1 => if Nat.beq ks.length ds.length && Nat.ble ks.length 15 then .ok (.loc s1.length) (s1 ++ [.dic ((ks.zip ds).foldl (fun m p => put p.1 p.2 m) [])]) else .bad
  | .box e, env, s => (evE cl e env s).bind fun d s1 => (match d with
    | .lst ds => .ok (.loc s1.length) (s1 ++ [.lst ds])
    | _ => .bad)
  | .idx a i, env, s => (evE cl a env s).bind fun x s1 => (evE cl i env s1).bind fun y s2 => lift (getD s2 x y) s2
  | .asInt a, env, s => (evE cl a env s).bind fun x s1 => (match x with
    | .int i => .ok (.int i) s1
    | _ => .bad)
  | .slc a lo hi, env, s => (evE cl a env s).bind fun x s1 => (evE cl lo env s1).bind fun l s2 => (match partD l with
    | some l' => (evE cl hi env s2).bind fun h s3 => (match partD h with
      | some h' => lift (slcD l' h' (rd s3 x)) s3
      | none => .bad)
    | none => .bad)
  | .call f src es ks, env, s => (evEs cl es env s).bind fun ds s1 => (evEs cl ks env s1).bind fun ds2 s2 => (match arr src (ds ++ ds2) with
    | some as => cl f as noT s2
    | none => .bad)
  | .bi b es, env, s => (evEs cl es env s).bind fun ds s1 => lift (biD b (ds.map (rd s1))) s1
  | .rng1 a, env, s => (evE cl a env s).bind fun x s1 => (match x with
    | .int n => if okR n then .ok (.lst (rangeD 0 n.toNat)) s1 else .bad
    | _ => .bad)
  | .rng2 a b, env, s => (evE cl a env s).bind fun x s1 => (evE cl b env s1).bind fun y s2 => (match x, y with
    | .int i, .int j => if okR i && okR j then .ok (.lst (rangeD i (j - i).toNat)) s2 else .bad
    | _, _ => .bad)
  | .rng3 a b c, env, s => (evE cl a env s).bind fun x s1 => (evE cl b env s1).bind fun y s2 => (evE cl c env s2).bind fun z s3 => (match x, y, z with
    | .int i, .int j, .int k => if okR i && okR j && k == -1 then .ok (.lst (downD i (i - j).toNat)) s3 else .bad
    | _, _, _ => .bad)
  | .lr1 a, env, s => (evE cl a env s).bind fun x s1 => (match x with
    | .int n => if decide (n ≤ 100000) && decide (-100000 ≤ n) then .ok (.lst (rangeD 0 n.toNat)) s1 else .bad
    | _ => .bad)
  | .lr2 a b, env, s => (evE cl a env s).bind fun x s1 => (evE cl b env s1).bind fun y s2 => (match x, y with
    | .int i, .int j => if decide (i ≤ 100000) && decide (-100000 ≤ i) && (decide (j ≤ 100000) && decide (-100000 ≤ j)) then .ok (.lst (rangeD i (j - i).toNat)) s2 else .bad
    | _, _ => .bad)
  | .lc own tg e it c, env, s => (evE cl it env s).bind fun x s1 => (match seqOf x with
    | some items => (lcL (fun y s2 => (match setTg (wipeE env own) tg y with
        | some env2 => (evE cl c env2 s2).bind fun b s3 => (match b with
          | .bl true => (evE cl e env2 s3).bind fun d s4 => .ok (some d) s4
          | .bl false => .ok none s3
          | _ => .bad)
        | none => .bad)) items [] s1).calm.bind fun ds s5 => .ok (.lst ds) s5
    | none => .bad)
  | .act, env, s => (match env[(0 : Nat)]? with
    | some (some (.pin 0)) => cl ACT [] noT s
    | _ => .bad)
  | .lam f b, env, s => cl f [] (fun s1 => evE cl b env s1) s
  | .exi i cs, env, s => (match env[i]? with
    | some (some (.pin 1)) => (cl EXN [] noT s).bind fun d s1 => (match d with
      | .tup (.int c :: _) => .ok (.bl (memN c.toNat cs)) s1
      | _ => .bad)
    | _ => .bad)
  | .exf i js, env, s => (match env[i]? with
    | some (some (.pin 1)) => (cl EXN [] noT s).bind fun d s1 => (match d with
      | .tup (.int c :: es) => lift ((lookN c.toNat js).bind fun j => es[j]?) s1
      | _ => .bad)
    | _ => .bad)
  | .enum a, env, s => (evE cl a env s).bind fun x s1 => (match seqOf x with
    | some ds => .ok (.lst (enumL 0 ds)) s1
    | none => .bad)
  | .zip a b, env, s => (evE cl a env s).bind fun x s1 => (evE cl b env s1).bind fun y s2 => (match seq2 x y with
    | some p => .ok (.lst (zipL p.1 p.2)) s2
    | none => .bad)
  | .lz a b, env, s => (evE cl a env s).bind fun x s1 => (evE cl b env s1).bind fun y s2 => (match seqOf (rd s2 x), seqOf (rd s2 y) with
    | some ds, some es => .ok (.lst (zipL ds es)) s2
    | _, _ => .bad)
  | .rev a, env, s => (evE cl a env s).bind fun x s1 => (match rd s1 x with
    | .lst ds => .ok (.lst ds.reverse) s1
    | .tup ds => .ok (.tup ds.reverse) s1
    | _ => .bad)
  | .dicp a, env, s => (evE cl a env s).bind fun x s1 => (match rd s1 x with
    | .lst ds => (match kvsOf ds with
      | some kvs => .ok (.loc s1.length) (s1 ++ [.dic (kvs.foldl (fun m p => put p.1 p.2 m) [])])
      | none => .bad)
    | _ => .bad)
  | .dget d k v, env, s => (evE cl d env s).bind fun x s1 => if isDl s1 x then (evE cl k env s1).bind fun y s2 => (evE cl v env s2).bind fun z s3 => lift (dgetD s3 x y z) s3 else .bad
  | .chn op op2 a b c, env, s => (evE cl a env s).bind fun x s1 => (evE cl b env s1).bind fun y s2 => (match cmpD op (rd s2 x) (rd s2 y) with
    | some true => (evE cl c env s2).bind fun z s3 => lift ((cmpD op2 (rd s3 y) (rd s3 z)).map .bl) s3
    | some false => .ok (.bl false) s2
    | none => .bad)
  | .bad, _, _ => .bad
def evEs (cl : Calls) : CEs → Env → Sto → R (List D)
  | .nil, _, s => .ok [] s
  | .star e es, env, s => (evE cl e env s).bind fun d s1 => (match seqOf (rd s1 d) with
    | some xs => (evEs cl es env s1).bind fun ds s2 => .ok (xs ++ ds) s2
    | none => .bad)
  | .cons e es, env, s => (evE cl e env s).bind fun d s1 => (evEs cl es env s1).bind fun ds s2 => .ok (d :: ds) s2
end

/-! ### statements -/
inductive SR where
  | nx (env : Env) (s : Sto)
  | rt (d : D) (s : Sto)
  | bk (env : Env) (s : Sto)
  | ct (env : Env) (s : Sto)
  | err (c : Nat) (ds : List D) (env : Env) (s : Sto)
  | bad
def R.thn {α : Type} (r : R α) (env : Env) (f : α → Sto → SR) : SR :=
  match r with
  | .ok a s => f a s
  | .err c ds s => .err c ds env s
  | .bad => .bad
def SR.seq (r : SR) (f : Env → Sto → SR) : SR :=
  match r with
  | .nx env s => f env s
  | r => r
mutual
inductive CS where
  | asg (tg : List Nat) (e : CE)
  | par (is : List Nat) (es : CEs)
  | setI (a i e : CE)
  | swp (e a i b j : CE)
  | app (a e : CE)
  | expr (e : CE)
  | ret (e : CE)
  | iff (c : CE) (t u : CSs)
  | loop (tg : List Nat) (it : CE) (b : CSs)
  | whl (c : CE) (b : CSs)
  | brk
  | cnt
  | pass
  | rais (c : Nat) (es : CEs)
  | tryS (b : CSs) (cs : List Nat) (sl : Option Nat) (h : CSs)
  | bad
inductive CSs where
  | nil
  | cons (c : CS) (cs : CSs)
end
def forL (f : D → Env → Sto → SR) : List D → Env → Sto → SR
  | [], env, s => .nx env s
  | x :: r, env, s => (match f x env s with
    | .nx env1 s1 => forL f r env1 s1
    | .ct env1 s1 => forL f r env1 s1
    | .bk env1 s1 => .nx env1 s1
    | q => q)
def whlL (c : Env → Sto → R D) (f : Env → Sto → SR) : Nat → Env → Sto → SR
  | 0, _, _ => .bad
  | n + 1, env, s => (c env s).thn env fun b s1 => (match b with
    | .bl true => (match f env s1 with
      | .nx env1 s2 => whlL c f n env1 s2
      | .ct env1 s2 => whlL c f n env1 s2
      | .bk env1 s2 => .nx env1 s2
      | q => q)
    | .bl false => .nx env s1
    | _ => .bad)
def setAll (env : Env) : List Nat → List D → Option Env
  | [], [] => some env
  | i :: r, d :: t => setAll (env.set i (some d)) r t
  | _, _ => none
/-- a list of the store -/
def isLL (s : Sto) (a : D) : Bool :=
  match a with
  | .loc n => (match s[n]? with
    | some (.lst _) => true
    | _ => false)
  | _ => false
def setL (s : Sto) (a i v : D) : Option Sto := if isLL s a then setD s a i v else none
def appD (s : Sto) (a v : D) : Option Sto :=
  match a with
  | .loc n => (match s[n]? with
    | some (.lst ds) => if Nat.blt ds.length cap then some (s.set n (.lst (ds ++ [v]))) else none
    | _ => none)
  | _ => none
/-- the slot of an except clause's name: while the suite runs, and behind it -/
def pinE (sl : Option Nat) (env : Env) : Env :=
  match sl with
  | some i => env.set i (some (.pin 1))
  | none => env
def clrE (sl : Option Nat) (env : Env) : Env :=
  match sl with
  | some i => env.set i none
  | none => env
def unS (sl : Option Nat) : SR → SR
  | .nx env s => if pfE 1 (clrE sl env) && pfS 1 s then .nx (clrE sl env) s else .bad
  | .rt d s => if pf 1 d && pfS 1 s then .rt d s else .bad
  | .bk env s => if pfE 1 (clrE sl env) && pfS 1 s then .bk (clrE sl env) s else .bad
  | .ct env s => if pfE 1 (clrE sl env) && pfS 1 s then .ct (clrE sl env) s else .bad
  | _ => .bad
mutual
def evS (cl : Calls) : CS → Env → Sto → SR
  | .asg tg e, env, s => (evE cl e env s).thn env fun d s1 => (match setTg env tg d with
    | some env1 => .nx env1 s1
    | none => .bad)
  | .par is es, env, s => (evEs cl es env s).thn env fun ds s1 => (match setAll env is ds with
    | some env1 => .nx env1 s1
    | none => .bad)
  | .setI a i e, env, s => (evE cl e env s).thn env fun v s1 => (evE cl a env s1).thn env fun x s2 => (evE cl i env s2).thn env fun y s3 => (match setD s3 x y v with
    | some s4 => .nx env s4
    | none => .bad)
  | .swp e a i b j, env, s => (evE cl e env s).thn env fun v s1 => (match v with
    | .tup [v1, v2] => (evE cl a env s1).thn env fun x s2 => (evE cl i env s2).thn env fun y s3 => (match setL s3 x y v1 with
      | some s4 => (evE cl b env s4).thn env fun x2 s5 => (evE cl j env s5).thn env fun y2 s6 => (match setL s6 x2 y2 v2 with
        | some s7 => .nx env s7
        | none => .bad)
      | none => .bad)
    | _ => .bad)
  | .app a e, env, s => (evE cl a env s).thn env fun x s1 => if isLL s1 x then (evE cl e env s1).thn env fun v s2 => (match appD s2 x v with
    | some s3 => .nx env s3
    | none => .bad) else .bad
  | .expr e, env, s => (evE cl e env s).thn env fun _ s1 => .nx env s1
  | .ret e, env, s => (evE cl e env s).thn env fun d s1 => .rt d s1
  | .iff c t u, env, s => (evE cl c env s).thn env fun b s1 => (match b with
    | .bl true => evSs cl t env s1
    | .bl false => evSs cl u env s1
    | _ => .bad)
  | .loop tg it b, env, s => (evE cl it env s).thn env fun x s1 => (match seqOf x with
    | some items => forL (fun y env1 s2 => (match setTg env1 tg y with
      | some env2 => evSs cl b env2 s2
      | none => .bad)) items env s1
    | none => .bad)
  | .whl c b, env, s => whlL (evE cl c) (evSs cl b) 100000 env s
  | .brk, env, s => .bk env s
  | .cnt, env, s => .ct env s
  | .pass, env, s => .nx env s
  | .rais c es, env, s => (evEs cl es env s).thn env fun ds s1 => .err c ds env s1
  | .tryS b cs sl h, env, s => (match evSs cl b env s with
    | .err c ds env1 s1 => if memN c cs then (if cleanL 0 ds then unS sl (evSs (hx cl c ds) h (pinE sl env1) s1) else .bad) else .err c ds env1 s1
    | q => q)
  | .bad, _, _ => .bad
def evSs (cl : Calls) : CSs → Env → Sto → SR
  | .nil, env, s => .nx env s
  | .cons c cs, env, s => (evS cl c env s).seq fun env1 s1 => evSs cl cs env1 s1
end

/-! ### defs -/
structure Fd where
  par : Nat
  slots : Nat
  keep : Bool
  act : Bool
  shut : Bool
  body : CSs
/-- behind a def: what it made in the store is dropped; a list that it hands out is frozen -/
def fz (n : Nat) (s : Sto) (d : D) : R D :=
  if cleanS n (s.take n) then
    (match d with
    | .loc m => if Nat.blt m n then .ok d (s.take n) else (match s[m]? with
      | some (.lst ds) => if cleanL n ds then .ok (.lst ds) (s.take n) else .bad
      | _ => .bad)
    | d => if clean n d then .ok d (s.take n) else .bad)
  else .bad
def endF (keep : Bool) (n : Nat) : SR → R D
  | .nx _ s => if keep then .ok .non s else fz n s .non
  | .rt d s => if keep then .ok d s else fz n s d
  | .err c ds _ s => if cleanS n (s.take n) && cleanL n ds then .err c ds (s.take n) else .bad
  | _ => .bad
/-- a def that takes a thunk: nothing pinned leaves it -/
def endA : R D → R D
  | .ok d s => if pf 0 d && pfS 0 s then .ok d s else .bad
  | _ => .bad
/-- a sealed def: it never sees the caller's store -/
def sealR (s : Sto) : R D → R D
  | .ok d [] => .ok d s
  | .err c ds [] => .err c ds s
  | _ => .bad
def run (F : List Fd) : Nat → Calls
  | 0, _, _, _, _ => .bad
  | k + 1, i, ds, th, s => (match F[i]? with
    | some f => if f.act then
        (if Nat.beq ds.length 0 && Nat.beq f.par 1 then endA (endF f.keep s.length (evSs (hk (run F k) th) f.body (some (.pin 0) :: List.replicate (f.slots - 1) none) s)) else .bad)
      else if f.shut then (if Nat.beq ds.length f.par && cleanL 0 ds then sealR s (endF false 0 (evSs (run F k) f.body (ds.map some ++ List.replicate (f.slots - f.par) none) [])) else .bad)
      else (if Nat.beq ds.length f.par then endF f.keep s.length (evSs (run F k) f.body (ds.map some ++ List.replicate (f.slots - f.par) none) s) else .bad)
    | none => .bad)
end T5

set_option Elab.async false
set_option linter.all false
set_option maxRecDepth 100000
/-! T5: how data lie in the abstract heap. -/
namespace T5
open PySem PySem.Spec L2
open Evl (Ex)

/-- where the defs and the error classes stand; the classes' fields; the floor: what is known from before; pinned values; tables of code objects -/
structure Tb where
  fn : Nat → Addr
  cl : Nat → Addr
  fl : Nat → List Str
  r0 : List Addr
  g0 : Hp
  pinv : Nat → Option V
  tabs : List (Addr × Str)
  nE : Nat

mutual
def Rp (K : PySem.W.Frag) (T : Tb) (r : List Addr) (G : Hp) : D → V → Prop
  | .non, v => v = .non
  | .bl b, v => v = .bl b
  | .int i, v => v = .int i
  | .str x, v => v = .str x
  | .rep d, v => ∃ p, toP d = some p ∧ v = .str p.shown
  | .tup ds, v => ∃ a xs, v = .ref a ∧ G a = some (.tup xs) ∧ RpL K T r G ds xs
  | .kt ds, v => ∃ a xs, v = .ref a ∧ SqT K G a xs ∧ RpL K T r G ds xs
  | .lst ds, v => ∃ a xs, v = .ref a ∧ G a = some (.lst xs) ∧ RpL K T r G ds xs
  | .scr ds, v => ∃ a xs, v = .ref a ∧ SqL K G a xs ∧ RpL K T r G ds xs
  | .loc n, v => ∃ a, v = .ref a ∧ r[n]? = some a
  | .fn i, v => v = .ref (T.fn i)
  | .ty n, v => v = .ty n
  | .pin k, v => T.pinv k = some v
def RpL (K : PySem.W.Frag) (T : Tb) (r : List Addr) (G : Hp) : List D → List V → Prop
  | [], vs => vs = []
  | d :: ds, vs => ∃ v t, vs = v :: t ∧ Rp K T r G d v ∧ RpL K T r G ds t
end

section
variable {K : PySem.W.Frag} {T : Tb} {r r' : List Addr} {G G' H H' : Hp}
theorem RpL.nil : RpL K T r G [] [] := by unfold RpL; rfl
theorem RpL.cons {d : D} {ds : List D} {v : V} {vs : List V} (h : Rp K T r G d v) (t : RpL K T r G ds vs) : RpL K T r G (d :: ds) (v :: vs) := by
  unfold RpL
  exact ⟨v, vs, rfl, h, t⟩
theorem RpL.nil_inv {vs : List V} (h : RpL K T r G [] vs) : vs = [] := by unfold RpL at h; exact h
theorem RpL.cons_inv {d : D} {ds : List D} {vs : List V} (h : RpL K T r G (d :: ds) vs) : ∃ v t, vs = v :: t ∧ Rp K T r G d v ∧ RpL K T r G ds t := by unfold RpL at h; exact h
theorem RpL.length : ∀ {ds : List D} {vs : List V}, RpL K T r G ds vs → vs.length = ds.length
  | [], vs, h => by rw [h.nil_inv]; rfl
  | d :: ds, vs, h => by
    obtain ⟨v, t, rfl, _, ht⟩ := h.cons_inv
    simp [RpL.length ht]
theorem RpL.get : ∀ {ds : List D} {vs : List V} {i : Nat} {d : D}, RpL K T r G ds vs → ds[i]? = some d → ∃ v, vs[i]? = some v ∧ Rp K T r G d v
  | [], _, _, _, _, e => by simp at e
  | d :: ds, vs, 0, x, h, e => by
    obtain ⟨v, t, rfl, h1, _⟩ := h.cons_inv
    simp at e
    subst e
    exact ⟨v, rfl, h1⟩
  | d :: ds, vs, i + 1, x, h, e => by
    obtain ⟨v, t, rfl, _, h2⟩ := h.cons_inv
    obtain ⟨w, e1, e2⟩ := RpL.get (i := i) (d := x) h2 (by simpa using e)
    exact ⟨w, by simpa using e1, e2⟩
theorem RpL.getV : ∀ {ds : List D} {vs : List V} {i : Nat} {v : V}, RpL K T r G ds vs → vs[i]? = some v → ∃ d, ds[i]? = some d ∧ Rp K T r G d v
  | [], _, _, _, h, e => by rw [h.nil_inv] at e; simp at e
  | d :: ds, vs, 0, x, h, e => by
    obtain ⟨v, t, rfl, h1, _⟩ := h.cons_inv
    simp at e
    subst e
    exact ⟨d, rfl, h1⟩
  | d :: ds, vs, i + 1, x, h, e => by
    obtain ⟨v, t, rfl, _, h2⟩ := h.cons_inv
    obtain ⟨w, e1, e2⟩ := RpL.getV (i := i) (v := x) h2 (by simpa using e)
    exact ⟨w, by simpa using e1, e2⟩
theorem RpL.append : ∀ {ds es : List D} {vs ws : List V}, RpL K T r G ds vs → RpL K T r G es ws → RpL K T r G (ds ++ es) (vs ++ ws)
  | [], _, vs, _, h, k => by rw [h.nil_inv]; exact k
  | d :: ds, es, vs, ws, h, k => by
    obtain ⟨v, t, rfl, h1, h2⟩ := h.cons_inv
    exact .cons h1 (RpL.append h2 k)
theorem RpL.take : ∀ {ds : List D} {vs : List V} (n : Nat), RpL K T r G ds vs → RpL K T r G (ds.take n) (vs.take n)
  | _, _, 0, _ => by simpa using RpL.nil
  | [], vs, n + 1, h => by rw [h.nil_inv]; simpa using RpL.nil
  | d :: ds, vs, n + 1, h => by
    obtain ⟨v, t, rfl, h1, h2⟩ := h.cons_inv
    exact .cons h1 (RpL.take n h2)
theorem RpL.drop : ∀ {ds : List D} {vs : List V} (n : Nat), RpL K T r G ds vs → RpL K T r G (ds.drop n) (vs.drop n)
  | _, _, 0, h => h
  | [], vs, n + 1, h => by rw [h.nil_inv]; simpa using RpL.nil
  | d :: ds, vs, n + 1, h => by
    obtain ⟨v, t, rfl, h1, h2⟩ := h.cons_inv
    simpa using RpL.drop n h2
theorem RpL.set : ∀ {ds : List D} {vs : List V} {d : D} {v : V} (n : Nat), RpL K T r G ds vs → Rp K T r G d v → RpL K T r G (ds.set n d) (vs.set n v)
  | [], vs, _, _, n, h, _ => by rw [h.nil_inv]; simpa using RpL.nil
  | d :: ds, vs, _, _, 0, h, k => by
    obtain ⟨v, t, rfl, _, h2⟩ := h.cons_inv
    exact .cons k h2
  | d :: ds, vs, _, _, n + 1, h, k => by
    obtain ⟨v, t, rfl, h1, h2⟩ := h.cons_inv
    exact .cons h1 (RpL.set n h2 k)
theorem RpL.snoc {ds : List D} {vs : List V} {d : D} {v : V} (h : RpL K T r G ds vs) (k : Rp K T r G d v) : RpL K T r G (ds ++ [d]) (vs ++ [v]) := h.append (.cons k .nil)
theorem RpL.rep {ds : List D} {vs : List V} (h : RpL K T r G ds vs) : ∀ n : Nat, RpL K T r G (List.replicate n ds).flatten (List.replicate n vs).flatten
  | 0 => by simpa using RpL.nil
  | n + 1 => by
    rw [List.replicate_succ, List.replicate_succ, List.flatten_cons, List.flatten_cons]
    exact h.append (RpL.rep h n)

/-! ### more is known -/
def Pre (r r' : List Addr) : Prop := ∀ (n : Nat) (a : Addr), r[n]? = some a → r'[n]? = some a
theorem Pre.refl : Pre r r := fun _ _ h => h
theorem Pre.trans {r'' : List Addr} (a : Pre r r') (b : Pre r' r'') : Pre r r'' := fun n x h => b n x (a n x h)
theorem ex_T {a : Addr} {xs : List V} (e : Ex G G') (h : SqT K G a xs) : SqT K G' a xs := Evl.ex_t e h
mutual
theorem Rp.mono (p : Pre r r') (e : Ex G G') : ∀ {d : D} {v : V}, Rp K T r G d v → Rp K T r' G' d v
  | .non, _, h => by unfold Rp at h ⊢; exact h
  | .bl _, _, h => by unfold Rp at h ⊢; exact h
  | .int _, _, h => by unfold Rp at h ⊢; exact h
  | .str _, _, h => by unfold Rp at h ⊢; exact h
  | .rep _, _, h => by unfold Rp at h ⊢; exact h
  | .tup ds, _, h => by
    unfold Rp at h ⊢
    obtain ⟨a, xs, e1, e2, e3⟩ := h
    exact ⟨a, xs, e1, e _ _ e2, RpL.mono p e e3⟩
  | .kt ds, _, h => by
    unfold Rp at h ⊢
    obtain ⟨a, xs, e1, e2, e3⟩ := h
    exact ⟨a, xs, e1, Evl.ex_t e e2, RpL.mono p e e3⟩
  | .lst ds, _, h => by
    unfold Rp at h ⊢
    obtain ⟨a, xs, e1, e2, e3⟩ := h
    exact ⟨a, xs, e1, e _ _ e2, RpL.mono p e e3⟩
  | .scr ds, _, h => by
    unfold Rp at h ⊢
    obtain ⟨a, xs, e1, e2, e3⟩ := h
    exact ⟨a, xs, e1, Evl.ex_l e e2, RpL.mono p e e3⟩
  | .loc n, _, h => by
    unfold Rp at h ⊢
    obtain ⟨a, e1, e2⟩ := h
    exact ⟨a, e1, p _ _ e2⟩
  | .fn _, _, h => by unfold Rp at h ⊢; exact h
  | .ty _, _, h => by unfold Rp at h ⊢; exact h
  | .pin _, _, h => by unfold Rp at h ⊢; exact h
theorem RpL.mono (p : Pre r r') (e : Ex G G') : ∀ {ds : List D} {vs : List V}, RpL K T r G ds vs → RpL K T r' G' ds vs
  | [], _, h => by unfold RpL at h ⊢; exact h
  | d :: ds, _, h => by
    unfold RpL at h ⊢
    obtain ⟨v, t, e1, e2, e3⟩ := h
    exact ⟨v, t, e1, Rp.mono p e e2, RpL.mono p e e3⟩
end
-- the store cut off: data that do not reach beyond stay
mutual
theorem Rp.cut {n : Nat} (hr : ∀ (m : Nat) (a : Addr), m < n → r[m]? = some a → r'[m]? = some a) : ∀ {d : D} {v : V}, clean n d = true → Rp K T r G d v → Rp K T r' G d v
  | .non, _, _, h => by unfold Rp at h ⊢; exact h
  | .bl _, _, _, h => by unfold Rp at h ⊢; exact h
  | .int _, _, _, h => by unfold Rp at h ⊢; exact h
  | .str _, _, _, h => by unfold Rp at h ⊢; exact h
  | .rep _, _, _, h => by unfold Rp at h ⊢; exact h
  | .tup ds, _, c, h => by
    unfold Rp at h ⊢
    unfold clean at c
    obtain ⟨a, xs, e1, e2, e3⟩ := h
    exact ⟨a, xs, e1, e2, RpL.cut hr c e3⟩
  | .lst ds, _, c, h => by
    unfold Rp at h ⊢
    unfold clean at c
    obtain ⟨a, xs, e1, e2, e3⟩ := h
    exact ⟨a, xs, e1, e2, RpL.cut hr c e3⟩
  | .kt ds, _, c, h => by
    unfold Rp at h ⊢
    unfold clean at c
    obtain ⟨a, xs, e1, e2, e3⟩ := h
    exact ⟨a, xs, e1, e2, RpL.cut hr c e3⟩
  | .scr ds, _, c, h => by
    unfold Rp at h ⊢
    unfold clean at c
    obtain ⟨a, xs, e1, e2, e3⟩ := h
    exact ⟨a, xs, e1, e2, RpL.cut hr c e3⟩
  | .loc m, _, c, h => by
    unfold Rp at h ⊢
    unfold clean at c
    obtain ⟨a, e1, e2⟩ := h
    exact ⟨a, e1, hr m a (Nat.lt_of_succ_le (Nat.le_of_ble_eq_true c)) e2⟩
  | .fn _, _, _, h => by unfold Rp at h ⊢; exact h
  | .ty _, _, _, h => by unfold Rp at h ⊢; exact h
  | .pin _, _, _, h => by unfold Rp at h ⊢; exact h
theorem RpL.cut {n : Nat} (hr : ∀ (m : Nat) (a : Addr), m < n → r[m]? = some a → r'[m]? = some a) : ∀ {ds : List D} {vs : List V}, cleanL n ds = true → RpL K T r G ds vs → RpL K T r' G ds vs
  | [], _, _, h => by unfold RpL at h ⊢; exact h
  | d :: ds, _, c, h => by
    unfold RpL at h ⊢
    unfold cleanL at c
    obtain ⟨v, t, e1, e2, e3⟩ := h
    have c' := Bool.and_eq_true_iff.mp c
    exact ⟨v, t, e1, Rp.cut hr c'.1 e2, RpL.cut hr c'.2 e3⟩
end

-- another table: more is pinned, or all but one
mutual
theorem Rp.ext {T' : Tb} (hf : T.fn = T'.fn) (hp : ∀ j v, T.pinv j = some v → T'.pinv j = some v) : ∀ {d : D} {v : V}, Rp K T r G d v → Rp K T' r G d v
  | .non, _, h => by unfold Rp at h ⊢; exact h
  | .bl _, _, h => by unfold Rp at h ⊢; exact h
  | .int _, _, h => by unfold Rp at h ⊢; exact h
  | .str _, _, h => by unfold Rp at h ⊢; exact h
  | .rep _, _, h => by unfold Rp at h ⊢; exact h
  | .loc _, _, h => by unfold Rp at h ⊢; exact h
  | .ty _, _, h => by unfold Rp at h ⊢; exact h
  | .fn _, _, h => by unfold Rp at h ⊢; rw [← hf]; exact h
  | .tup ds, _, h => by
    unfold Rp at h ⊢
    obtain ⟨a, xs, e1, e2, e3⟩ := h
    exact ⟨a, xs, e1, e2, RpL.ext hf hp e3⟩
  | .kt ds, _, h => by
    unfold Rp at h ⊢
    obtain ⟨a, xs, e1, e2, e3⟩ := h
    exact ⟨a, xs, e1, e2, RpL.ext hf hp e3⟩
  | .lst ds, _, h => by
    unfold Rp at h ⊢
    obtain ⟨a, xs, e1, e2, e3⟩ := h
    exact ⟨a, xs, e1, e2, RpL.ext hf hp e3⟩
  | .scr ds, _, h => by
    unfold Rp at h ⊢
    obtain ⟨a, xs, e1, e2, e3⟩ := h
    exact ⟨a, xs, e1, e2, RpL.ext hf hp e3⟩
  | .pin j, _, h => by
    unfold Rp at h ⊢
    exact hp j _ h
theorem RpL.ext {T' : Tb} (hf : T.fn = T'.fn) (hp : ∀ j v, T.pinv j = some v → T'.pinv j = some v) : ∀ {ds : List D} {vs : List V}, RpL K T r G ds vs → RpL K T' r G ds vs
  | [], _, h => by unfold RpL at h ⊢; exact h
  | d :: ds, _, h => by
    unfold RpL at h ⊢
    obtain ⟨v, t, e1, e2, e3⟩ := h
    exact ⟨v, t, e1, Rp.ext hf hp e2, RpL.ext hf hp e3⟩
end
mutual
theorem Rp.unp {T' : Tb} {k : Nat} (hf : T.fn = T'.fn) (hp : ∀ j v, j ≠ k → T.pinv j = some v → T'.pinv j = some v) : ∀ {d : D} {v : V}, pf k d = true → Rp K T r G d v → Rp K T' r G d v
  | .non, _, _, h => by unfold Rp at h ⊢; exact h
  | .bl _, _, _, h => by unfold Rp at h ⊢; exact h
  | .int _, _, _, h => by unfold Rp at h ⊢; exact h
  | .str _, _, _, h => by unfold Rp at h ⊢; exact h
  | .rep _, _, _, h => by unfold Rp at h ⊢; exact h
  | .loc _, _, _, h => by unfold Rp at h ⊢; exact h
  | .ty _, _, _, h => by unfold Rp at h ⊢; exact h
  | .fn _, _, _, h => by unfold Rp at h ⊢; rw [← hf]; exact h
  | .tup ds, _, c, h => by
    unfold Rp at h ⊢
    unfold pf at c
    obtain ⟨a, xs, e1, e2, e3⟩ := h
    exact ⟨a, xs, e1, e2, RpL.unp hf hp c e3⟩
  | .kt ds, _, c, h => by
    unfold Rp at h ⊢
    unfold pf at c
    obtain ⟨a, xs, e1, e2, e3⟩ := h
    exact ⟨a, xs, e1, e2, RpL.unp hf hp c e3⟩
  | .lst ds, _, c, h => by
    unfold Rp at h ⊢
    unfold pf at c
    obtain ⟨a, xs, e1, e2, e3⟩ := h
    exact ⟨a, xs, e1, e2, RpL.unp hf hp c e3⟩
  | .scr ds, _, c, h => by
    unfold Rp at h ⊢
    unfold pf at c
    obtain ⟨a, xs, e1, e2, e3⟩ := h
    exact ⟨a, xs, e1, e2, RpL.unp hf hp c e3⟩
  | .pin j, _, c, h => by
    unfold Rp at h ⊢
    unfold pf at c
    refine hp j _ (fun z => ?_) h
    subst z
    rw [Nat.beq_refl] at c
    cases c
theorem RpL.unp {T' : Tb} {k : Nat} (hf : T.fn = T'.fn) (hp : ∀ j v, j ≠ k → T.pinv j = some v → T'.pinv j = some v) : ∀ {ds : List D} {vs : List V}, pfL k ds = true → RpL K T r G ds vs → RpL K T' r G ds vs
  | [], _, _, h => by unfold RpL at h ⊢; exact h
  | d :: ds, _, c, h => by
    unfold RpL at h ⊢
    obtain ⟨v, t, e1, e2, e3⟩ := h
    unfold pfL at c
    have c' := Bool.and_eq_true_iff.mp c
    exact ⟨v, t, e1, Rp.unp hf hp c'.1 e2, RpL.unp hf hp c'.2 e3⟩
end

/-! ### the store -/
def KvR (K : PySem.W.Frag) (T : Tb) (r : List Addr) (G : Hp) : List (L2.Key × D) → List (L2.Key × V) → Prop
  | [], ws => ws = []
  | p :: t, ws => ∃ q s, ws = q :: s ∧ q.1 = p.1 ∧ Rp K T r G p.2 q.2 ∧ KvR K T r G t s
def ObjR (K : PySem.W.Frag) (T : Tb) (r : List Addr) (G : Hp) (o : Option HO) : SO → Prop
  | .lst ds => ∃ xs, o = some (.lst xs) ∧ RpL K T r G ds xs
  | .dic kvs => ∃ ws, o = some (.dK ws) ∧ KvR K T r G kvs ws ∧ (kvs.map (·.1)).Nodup
theorem KvR.mono (p : Pre r r') (e : Ex G G') : ∀ {l : List (L2.Key × D)} {ws : List (L2.Key × V)}, KvR K T r G l ws → KvR K T r' G' l ws
  | [], _, h => h
  | _ :: _, _, ⟨q, s, e1, e2, e3, e4⟩ => ⟨q, s, e1, e2, e3.mono p e, KvR.mono p e e4⟩
theorem KvR.cut {n : Nat} (hr : ∀ (m : Nat) (a : Addr), m < n → r[m]? = some a → r'[m]? = some a) : ∀ {l : List (L2.Key × D)} {ws : List (L2.Key × V)}, cleanKv n l = true → KvR K T r G l ws → KvR K T r' G l ws
  | [], _, _, h => h
  | _ :: _, _, c, ⟨q, s, e1, e2, e3, e4⟩ => by
    have c' := Bool.and_eq_true_iff.mp (show (_ && _) = true from c)
    exact ⟨q, s, e1, e2, e3.cut hr c'.1, KvR.cut hr c'.2 e4⟩
theorem KvR.ext {T' : Tb} (hf : T.fn = T'.fn) (hp : ∀ j v, T.pinv j = some v → T'.pinv j = some v) : ∀ {l : List (L2.Key × D)} {ws : List (L2.Key × V)}, KvR K T r G l ws → KvR K T' r G l ws
  | [], _, h => h
  | _ :: _, _, ⟨q, s, e1, e2, e3, e4⟩ => ⟨q, s, e1, e2, e3.ext hf hp, KvR.ext hf hp e4⟩
theorem KvR.unp {T' : Tb} {k : Nat} (hf : T.fn = T'.fn) (hp : ∀ j v, j ≠ k → T.pinv j = some v → T'.pinv j = some v) : ∀ {l : List (L2.Key × D)} {ws : List (L2.Key × V)}, pfKv k l = true → KvR K T r G l ws → KvR K T' r G l ws
  | [], _, _, h => h
  | _ :: _, _, c, ⟨q, s, e1, e2, e3, e4⟩ => by
    have c' := Bool.and_eq_true_iff.mp (show (_ && _) = true from c)
    exact ⟨q, s, e1, e2, e3.unp hf hp c'.1, KvR.unp hf hp c'.2 e4⟩
theorem ObjR.ext {T' : Tb} {o : Option HO} (hf : T.fn = T'.fn) (hp : ∀ j v, T.pinv j = some v → T'.pinv j = some v) : ∀ {so : SO}, ObjR K T r G o so → ObjR K T' r G o so
  | .lst _, ⟨xs, h1, h2⟩ => ⟨xs, h1, h2.ext hf hp⟩
  | .dic _, ⟨ws, h1, h2, h3⟩ => ⟨ws, h1, h2.ext hf hp, h3⟩
theorem ObjR.unp {T' : Tb} {k : Nat} {o : Option HO} (hf : T.fn = T'.fn) (hp : ∀ j v, j ≠ k → T.pinv j = some v → T'.pinv j = some v) : ∀ {so : SO}, pfO k so = true → ObjR K T r G o so → ObjR K T' r G o so
  | .lst _, c, ⟨xs, h1, h2⟩ => ⟨xs, h1, h2.unp hf hp c⟩
  | .dic _, c, ⟨ws, h1, h2, h3⟩ => ⟨ws, h1, h2.unp hf hp c, h3⟩
theorem ObjR.mono {o : Option HO} (p : Pre r r') (e : Ex G G') : ∀ {so : SO}, ObjR K T r G o so → ObjR K T r' G' o so
  | .lst _, ⟨xs, h1, h2⟩ => ⟨xs, h1, h2.mono p e⟩
  | .dic _, ⟨ws, h1, h2, h3⟩ => ⟨ws, h1, h2.mono p e, h3⟩
theorem ObjR.cut {o : Option HO} {n : Nat} (hr : ∀ (m : Nat) (a : Addr), m < n → r[m]? = some a → r'[m]? = some a) : ∀ {so : SO}, cleanO n so = true → ObjR K T r G o so → ObjR K T r' G o so
  | .lst _, c, ⟨xs, h1, h2⟩ => ⟨xs, h1, h2.cut hr c⟩
  | .dic _, c, ⟨ws, h1, h2, h3⟩ => ⟨ws, h1, h2.cut hr c, h3⟩

theorem KvR.keys : ∀ {l : List (L2.Key × D)} {ws : List (L2.Key × V)}, KvR K T r G l ws → ws.map (·.1) = l.map (·.1)
  | [], ws, h => by
    have h : ws = [] := h
    rw [h]
    rfl
  | p :: l, ws, ⟨q, s, e1, e2, _, e4⟩ => by
    rw [e1, List.map_cons, List.map_cons, e2, KvR.keys e4]

/-- the store lies in the heap; what never changes lies in G -/
structure Gd (K : PySem.W.Frag) (T : Tb) (r : List Addr) (G H : Hp) (s : Sto) : Prop where
  sub : ∀ a o, G a = some o → H a = some o
  off : ∀ a ∈ r, G a = none
  len : r.length = s.length
  nd : r.Nodup
  obj : ∀ (n : Nat) (a : Addr) (so : SO), r[n]? = some a → s[n]? = some so → ObjR K T r G (H a) so
  flr : Pre T.r0 r
  flg : Ex T.g0 G
  tbs : LamX.Tabs T.tabs H
  ngt : ∀ a ps, G a ≠ some (.tbl ps)
/-- from one state to a later one -/
structure Le (r : List Addr) (G H : Hp) (r' : List Addr) (G' H' : Hp) : Prop where
  pre : Pre r r'
  fr : ∀ a ∈ r', a ∈ r ∨ H a = none
  ex : Ex G G'
  kp : ∀ a o, a ∉ r → H a = some o → (∀ ps, o ≠ .tbl ps) → H' a = some o
  st : ∀ a, H' a = none → H a = none
  nw : ∀ a o, G' a = some o → G a = some o ∨ H a = none ∨ (a ∉ r ∧ H a = some o ∧ ∃ P, o = .ext P)
  tbk : ∀ a ps, H a = some (.tbl ps) → ∃ qs, H' a = some (.tbl qs)
theorem Le.refl : Le r G H r G H := ⟨.refl, fun _ h => .inl h, fun _ _ h => h, fun _ _ _ h _ => h, fun _ h => h, fun _ _ h => .inl h, fun _ ps h => ⟨ps, h⟩⟩
theorem Le.out (l : Le r G H r' G' H') {a : Addr} {o : HO} (ha : a ∉ r) (h : H a = some o) : a ∉ r' := fun z => by
  rcases l.fr a z with z | z
  · exact ha z
  · rw [h] at z; cases z
theorem Le.trans {r'' : List Addr} {G'' H'' : Hp} (a : Le r G H r' G' H') (b : Le r' G' H' r'' G'' H'') : Le r G H r'' G'' H'' where
  pre := a.pre.trans b.pre
  fr := fun x hx => by
    rcases b.fr x hx with z | z
    · exact a.fr x z
    · exact .inr (a.st x z)
  ex := a.ex.trans b.ex
  kp := fun x o hx h nt => b.kp x o (a.out hx h) (a.kp x o hx h nt) nt
  st := fun x h => a.st x (b.st x h)
  nw := fun x o h => by
    rcases b.nw x o h with z | z | ⟨z1, z2, P, z3⟩
    · exact a.nw x o z
    · exact .inr (.inl (a.st x z))
    · have nr : x ∉ r := fun hm => z1 (by
        obtain ⟨n, hn⟩ := List.getElem?_of_mem hm
        exact List.mem_of_getElem? (a.pre n x hn))
      cases hx : H x with
      | none => exact .inr (.inl rfl)
      | some o2 =>
        by_cases nt : ∀ ps, o2 ≠ .tbl ps
        · have q := a.kp x o2 nr hx nt
          rw [z2] at q
          cases q
          exact .inr (.inr ⟨nr, rfl, P, z3⟩)
        · obtain ⟨ps, hps⟩ := Classical.not_forall.mp nt
          have hps := Classical.not_not.mp hps
          rw [hps] at hx
          obtain ⟨qs, hq⟩ := a.tbk x ps hx
          rw [z2, z3] at hq
          cases hq
  tbk := fun x ps h => by
    obtain ⟨qs, hq⟩ := a.tbk x ps h
    exact b.tbk x qs hq
theorem Rp.le {d : D} {v : V} (l : Le r G H r' G' H') (h : Rp K T r G d v) : Rp K T r' G' d v := h.mono l.pre l.ex
theorem RpL.le {ds : List D} {vs : List V} (l : Le r G H r' G' H') (h : RpL K T r G ds vs) : RpL K T r' G' ds vs := h.mono l.pre l.ex

/-! ### tables of code objects stay -/
/-- what stands at p is no table and no code object -/
def NT (H : Hp) (p : Addr) : Prop := ∀ o, H p = some o → (∃ xs, o = .lst xs) ∨ (∃ ws, o = .dK ws)
theorem NT.none {p : Addr} (h : H p = none) : NT H p := fun o e => by rw [h] at e; cases e
theorem NT.lst {p : Addr} {xs : List V} (h : H p = some (.lst xs)) : NT H p := fun o e => by rw [h] at e; cases e; exact .inl ⟨xs, rfl⟩
theorem NT.dK {p : Addr} {ws : List (L2.Key × V)} (h : H p = some (.dK ws)) : NT H p := fun o e => by rw [h] at e; cases e; exact .inr ⟨ws, rfl⟩
theorem tabs_but {L : List (Addr × Str)} {p : Addr} (t : LamX.Tabs L H) (nt : NT H p) (k : ∀ b, b ≠ p → H' b = H b) : LamX.Tabs L H' := fun q hq => by
  obtain ⟨ps, h1, h2, h3⟩ := t q hq
  have n1 : q.1 ≠ p := fun z => by
    rw [z] at h1
    rcases nt _ h1 with ⟨_, e⟩ | ⟨_, e⟩ <;> cases e
  refine ⟨ps, by rw [k _ n1]; exact h1, h2, fun pos cv hc => ?_⟩
  obtain ⟨c, e1, e2⟩ := h3 pos cv hc
  have n2 : c ≠ p := fun z => by
    rw [z] at e2
    rcases nt _ e2 with ⟨_, e⟩ | ⟨_, e⟩ <;> (unfold LamX.CodeO at e; cases e)
  exact ⟨c, e1, by rw [k _ n2]; exact e2⟩
theorem Gd.nt {s : Sto} (g : Gd K T r G H s) {p : Addr} (hp : p ∈ r) : NT H p := by
  obtain ⟨n, hn⟩ := List.getElem?_of_mem hp
  have hlt : n < s.length := by
    have := (List.getElem?_eq_some_iff.mp hn).1
    rw [g.len] at this
    exact this
  have ho := g.obj n p s[n] hn (List.getElem?_eq_getElem hlt)
  cases hs : s[n] with
  | lst ds =>
    rw [hs] at ho
    obtain ⟨_, e, _⟩ := ho
    exact .lst e
  | dic kvs =>
    rw [hs] at ho
    obtain ⟨_, e, _⟩ := ho
    exact .dK e
/-! ### slots -/
def EnvR (K : PySem.W.Frag) (T : Tb) (r : List Addr) (G : Hp) (σ : St) (env : Env) : Prop :=
  σ.length = env.length ∧ ∀ (i : Nat) (d : D), env[i]? = some (some d) → ∃ v, σ[i]? = some (some v) ∧ Rp K T r G d v
theorem EnvR.le {σ : St} {env : Env} (l : Le r G H r' G' H') (h : EnvR K T r G σ env) : EnvR K T r' G' σ env :=
  ⟨h.1, fun i d e => let ⟨v, e1, e2⟩ := h.2 i d e; ⟨v, e1, e2.le l⟩⟩
theorem EnvR.set {σ : St} {env : Env} {d : D} {v : V} (h : EnvR K T r G σ env) (i : Nat) (k : Rp K T r G d v) : EnvR K T r G (σ.set i (some v)) (env.set i (some d)) := by
  refine ⟨by simpa using h.1, fun j x e => ?_⟩
  by_cases hj : i = j
  · subst hj
    by_cases hi : i < env.length
    · rw [List.getElem?_set_self hi] at e
      cases e
      exact ⟨v, List.getElem?_set_self (by rw [h.1]; exact hi), k⟩
    · rw [List.getElem?_eq_none (by simpa using hi)] at e
      cases e
  · rw [List.getElem?_set_ne hj] at e
    obtain ⟨w, e1, e2⟩ := h.2 j x e
    exact ⟨w, by rw [List.getElem?_set_ne hj]; exact e1, e2⟩
theorem EnvR.wipe {σ : St} {env : Env} (h : EnvR K T r G σ env) : ∀ vs : List Nat, EnvR K T r G (L2.wipe σ vs) (wipeE env vs)
  | [] => h
  | v :: vs => by
    have ih := EnvR.wipe h vs
    unfold L2.wipe wipeE
    refine ⟨by simpa using ih.1, fun j x e => ?_⟩
    by_cases hj : v = j
    · subst hj
      by_cases hi : v < (wipeE env vs).length
      · rw [List.getElem?_set_self hi] at e; cases e
      · rw [List.getElem?_eq_none (by simpa using hi)] at e; cases e
    · rw [List.getElem?_set_ne hj] at e
      obtain ⟨w, e1, e2⟩ := ih.2 j x e
      exact ⟨w, by rw [List.getElem?_set_ne hj]; exact e1, e2⟩
end
end T5

set_option Elab.async false
set_option linter.all false
set_option maxRecDepth 100000
/-! T5: readings by the evaluator; expressions. -/
namespace T5
open PySem PySem.Spec L2
open Evl (Ex)

theorem imp_e {X : Cx} {e : Expr} {t u : TE} (h : PE X e t) (i : ∀ σ H Q, u σ H Q → t σ H Q) : PE X e u := ⟨fun pins s σ H Q I q => h.run pins s σ H Q I (i σ H Q q)⟩
theorem imp_t {X : Cx} {e : Expr} {t u : TT} (h : PT X e t) (i : ∀ σ H Q, u σ H Q → t σ H Q) : PT X e u := ⟨fun pins s σ H Q I q => h.run pins s σ H Q I (i σ H Q q)⟩
theorem imp_w {X : Cx} {e : Expr} {t u : TT} (h : PW X e t) (i : ∀ σ H Q, u σ H Q → t σ H Q) : PW X e u := ⟨fun wh pins s σ H Q I q => h.run wh pins s σ H Q I (i σ H Q q)⟩
theorem imp_a {X : Cx} {es : List Expr} {t u : TA} (h : PA X es t) (i : ∀ σ H Q, u σ H Q → t σ H Q) : PA X es u := ⟨fun p pins s σ H Q I q => h.run p pins s σ H Q I (i σ H Q q)⟩
theorem imp_s {X : Cx} {st : Stmt} {t u : TS} (h : PS X st t) (i : ∀ D σ H, u D σ H → t D σ H) : PS X st u := ⟨fun pins s σ H D I q => h.run pins s σ H D I (i D σ H q)⟩
theorem imp_ss {X : Cx} {st : List Stmt} {t u : TS} (h : PSs X st t) (i : ∀ D σ H, u D σ H → t D σ H) : PSs X st u := ⟨fun pins s σ H D I q => h.run pins s σ H D I (i D σ H q)⟩
/-- either rule -/
theorem or_e {X : Cx} {e : Expr} {t u : TE} (h : PE X e t) (k : PE X e u) : PE X e (fun σ H Q => t σ H Q ∨ u σ H Q) := ⟨fun pins s σ H Q I q => q.elim (h.run pins s σ H Q I) (k.run pins s σ H Q I)⟩
theorem or_s {X : Cx} {st : Stmt} {t u : TS} (h : PS X st t) (k : PS X st u) : PS X st (fun D σ H => t D σ H ∨ u D σ H) := ⟨fun pins s σ H D I q => q.elim (h.run pins s σ H D I) (k.run pins s σ H D I)⟩
theorem or_op {X : Cx} {f : Value → Value → Sem Value} {r q : R2} (h : OpR X f r) (k : OpR X f q) : OpR X f (fun x y H Q => r x y H Q ∨ q x y H Q) := fun pins s σ H x y v u Q I rx ry z => z.elim (h pins s σ H x y v u Q I rx ry) (k pins s σ H x y v u Q I rx ry)
theorem or_c {X : Cx} {f : Value} {r q : List V → Hp → VK → Prop} (h : CallR X f r) (k : CallR X f q) : CallR X f (fun x H Q => r x H Q ∨ q x H Q) := fun pins s σ H xs us Q I rx z => z.elim (h pins s σ H xs us Q I rx) (k pins s σ H xs us Q I rx)
theorem false_e {X : Cx} {e : Expr} : PE X e (fun _ _ _ => False) := ⟨fun _ _ _ _ _ _ q => q.elim⟩
theorem false_t {X : Cx} {e : Expr} : PT X e (fun _ _ _ => False) := ⟨fun _ _ _ _ _ _ q => q.elim⟩
theorem false_s {X : Cx} {st : Stmt} : PS X st (fun _ _ _ => False) := ⟨fun _ _ _ _ _ _ q => q.elim⟩
theorem false_a {X : Cx} {es : List Expr} : PA X es (fun _ _ _ => False) := ⟨fun _ _ _ _ _ _ _ q => q.elim⟩

section
variable (K : PySem.W.Frag) (T : Tb)
/-- an exception of the text's own, by its class and fields -/
def ErrR (r : List Addr) (G H : Hp) (cv : Value) (dd : Option Addr) (c : Nat) (ds : List D) : Prop :=
  (c < T.nE ∧ cv = .ref (T.cl c)) ∧ ∃ a fs vs, dd = some a ∧ G a = some (.xd fs) ∧ RpL K T r G ds vs ∧ vs.length = (T.fl c).length ∧ ∀ (i : Nat) (f : Str) (v : V), (T.fl c)[i]? = some f → vs[i]? = some v → fs.lookup f = some v
/-- what is wanted of an outcome -/
def Out {α β : Type} (RR : List Addr → Hp → α → β → Prop) (W : WX) (σ : St) (Q : β → Hp → Prop) (r : List Addr) (G H : Hp) : R α → Prop
  | .ok x s => ∀ y r' G' H', Le r G H r' G' H' → Gd K T r' G' H' s → RR r' G' x y → Q y H'
  | .err c ds s => ∀ cv dd r' G' H', Le r G H r' G' H' → Gd K T r' G' H' s → ErrR K T r' G' H' cv dd c ds → W cv dd σ H'
  | .bad => False
def rB : List Addr → Hp → D → Bool → Prop := fun _ _ d b => d = .bl b
/-- the reading of an evaluation -/
def Rdg {α β : Type} (RR : List Addr → Hp → α → β → Prop) (W : WX) (ev : Env → Sto → R α) : St → Hp → (β → Hp → Prop) → Prop :=
  fun σ H Q => ∃ env s r G, Gd K T r G H s ∧ EnvR K T r G σ env ∧ Out K T RR W σ Q r G H (ev env s)
abbrev tE (W : WX) (cl : Calls) (c : CE) : TE := Rdg K T (Rp K T) W (evE cl c)
abbrev tT (W : WX) (cl : Calls) (c : CE) : TT := Rdg K T rB W (evE cl c)
abbrev tL (W : WX) (cl : Calls) (c : CEs) : TA := Rdg K T (RpL K T) W (evEs cl c)
end

section
variable {K : PySem.W.Frag} {T : Tb} {α β γ δ : Type} {RR : List Addr → Hp → α → β → Prop} {RS : List Addr → Hp → γ → δ → Prop} {W : WX} {σ : St} {Q : β → Hp → Prop} {r r' : List Addr} {G G' H H' : Hp}
theorem Out.le {o : R α} (l : Le r G H r' G' H') (h : Out K T RR W σ Q r G H o) : Out K T RR W σ Q r' G' H' o := by
  cases o with
  | ok x s => exact fun y r2 G2 H2 l2 g q => h y r2 G2 H2 (l.trans l2) g q
  | err c ds s => exact fun cv dd r2 G2 H2 l2 g q => h cv dd r2 G2 H2 (l.trans l2) g q
  | bad => exact h
/-- one evaluation, then another -/
theorem rdg_bind {env : Env} {s : Sto} {ev : Env → Sto → R γ} {f : γ → Sto → R α} {Q1 : δ → Hp → Prop} (g : Gd K T r G H s) (e : EnvR K T r G σ env) (h : Out K T RR W σ Q r G H ((ev env s).bind f))
    (k : ∀ x y r' G' H' s', Le r G H r' G' H' → Gd K T r' G' H' s' → EnvR K T r' G' σ env → RS r' G' x y → Out K T RR W σ Q r' G' H' (f x s') → Q1 y H') : Rdg K T RS W ev σ H Q1 := by
  refine ⟨env, s, r, G, g, e, ?_⟩
  cases hq : ev env s with
  | ok x s1 =>
    rw [hq] at h
    exact fun y r2 G2 H2 l2 g2 q => k x y r2 G2 H2 s1 l2 g2 (e.le l2) q (Out.le l2 h)
  | err c ds s1 =>
    rw [hq] at h
    exact h
  | bad =>
    rw [hq] at h
    exact h.elim
theorem out_lift {o : Option α} {s : Sto} (h : Out K T RR W σ Q r G H (lift o s)) : ∃ x, o = some x ∧ Out K T RR W σ Q r G H (.ok x s) := by
  cases o with
  | none => exact h.elim
  | some x => exact ⟨x, rfl, h⟩
/-- the end, nothing changed -/
theorem Out.here {x : α} {y : β} {s : Sto} (h : Out K T RR W σ Q r G H (.ok x s)) (g : Gd K T r G H s) (q : RR r G x y) : Q y H := h y r G H Le.refl g q
end

theorem nodup_at {α : Type} : ∀ {l : List α} {i j : Nat} {x : α}, l.Nodup → l[i]? = some x → l[j]? = some x → i = j
  | [], _, _, _, _, h, _ => by simp at h
  | _ :: _, 0, 0, _, _, _, _ => rfl
  | a :: l, 0, j + 1, x, nd, h1, h2 => by
    simp at h1 h2
    subst h1
    exact absurd (List.mem_of_getElem? h2) (List.nodup_cons.mp nd).1
  | a :: l, i + 1, 0, x, nd, h1, h2 => by
    simp at h1 h2
    subst h2
    exact absurd (List.mem_of_getElem? h1) (List.nodup_cons.mp nd).1
  | a :: l, i + 1, j + 1, x, nd, h1, h2 => by
    simp at h1 h2
    rw [nodup_at (List.nodup_cons.mp nd).2 h1 h2]

/-! ### a new object that never changes -/
section
variable {K : PySem.W.Frag} {T : Tb} {r : List Addr} {G H : Hp} {s : Sto} {p : Addr}
theorem Gd.not_in (g : Gd K T r G H s) (hp : H p = none) : p ∉ r := fun z => by
  obtain ⟨n, hn⟩ := List.getElem?_of_mem z
  have hlt : n < s.length := by
    have := (List.getElem?_eq_some_iff.mp hn).1
    rw [g.len] at this
    exact this
  have ho := g.obj n p s[n] hn (List.getElem?_eq_getElem hlt)
  rw [hp] at ho
  cases hs : s[n] with
  | lst ds =>
    rw [hs] at ho
    obtain ⟨_, e, _⟩ := ho
    cases e
  | dic kvs =>
    rw [hs] at ho
    obtain ⟨_, e, _⟩ := ho
    cases e
theorem Gd.g_none (g : Gd K T r G H s) (hp : H p = none) : G p = none := by
  cases q : G p with
  | none => rfl
  | some o =>
    rw [g.sub p o q] at hp
    cases hp
theorem ex_upd {o : HO} (hp : G p = none) : Ex G (upd G p o) := Evl.Ex.new hp
theorem le_new (g : Gd K T r G H s) (hp : H p = none) (o : HO) : Le r G H r (upd G p o) (upd H p o) where
  pre := .refl
  fr := fun _ h => .inl h
  ex := ex_upd (g.g_none hp)
  kp := fun a o' ha h _ => by
    rw [upd_ne (ne_of_none h hp)]
    exact h
  st := fun a h => by
    by_cases e : a = p
    · rw [e]; exact hp
    · rw [upd_ne e] at h; exact h
  nw := fun a o' h => by
    by_cases e : a = p
    · exact .inr (.inl (by rw [e]; exact hp))
    · rw [upd_ne e] at h; exact .inl h
  tbk := fun a ps h => ⟨ps, by rw [upd_ne (ne_of_none h hp)]; exact h⟩
theorem Gd.new (g : Gd K T r G H s) (hp : H p = none) (o : HO) (no : ∀ ps, o ≠ .tbl ps) : Gd K T r (upd G p o) (upd H p o) s where
  sub := fun a o' h => by
    by_cases e : a = p
    · subst e
      rw [upd_same] at h ⊢
      exact h
    · rw [upd_ne e] at h ⊢
      exact g.sub a o' h
  off := fun a ha => by
    have e : a ≠ p := fun z => g.not_in hp (z ▸ ha)
    rw [upd_ne e]
    exact g.off a ha
  len := g.len
  nd := g.nd
  obj := fun n a so h1 h2 => by
    have e : a ≠ p := fun z => g.not_in hp (z ▸ List.mem_of_getElem? h1)
    rw [upd_ne e]
    exact (g.obj n a so h1 h2).mono .refl (ex_upd (g.g_none hp))
  flr := g.flr
  flg := g.flg.trans (ex_upd (g.g_none hp))
  tbs := tabs_but g.tbs (.none hp) fun b hb => upd_ne hb
  ngt := fun a ps h => by
    by_cases e : a = p
    · rw [e, upd_same] at h
      exact no ps (Option.some.inj h)
    · rw [upd_ne e] at h
      exact g.ngt a ps h
/-- .. an object of the store more -/
theorem le_box (g : Gd K T r G H s) (hp : H p = none) (o : HO) : Le r G H (r ++ [p]) G (upd H p o) where
  pre := fun n a h => by
    have := (List.getElem?_eq_some_iff.mp h).1
    rw [List.getElem?_append_left this]
    exact h
  fr := fun a h => by
    rcases List.mem_append.mp h with z | z
    · exact .inl z
    · exact .inr (by rw [List.mem_singleton.mp z]; exact hp)
  ex := fun _ _ h => h
  kp := fun a o' ha h _ => by
    rw [upd_ne (ne_of_none h hp)]
    exact h
  st := fun a h => by
    by_cases e : a = p
    · rw [e]; exact hp
    · rw [upd_ne e] at h; exact h
  nw := fun a o' h => .inl h
  tbk := fun a ps h => ⟨ps, by rw [upd_ne (ne_of_none h hp)]; exact h⟩
theorem Gd.box (g : Gd K T r G H s) (hp : H p = none) {o : HO} {so : SO} (h : ObjR K T r G (some o) so) : Gd K T (r ++ [p]) G (upd H p o) (s ++ [so]) := by
  have l := le_box g hp o
  refine ⟨fun a o' q => ?_, fun a ha => ?_, by simp [g.len], ?_, fun n a so' h1 h2 => ?_, g.flr.trans l.pre, g.flg, tabs_but g.tbs (.none hp) fun b hb => upd_ne hb, g.ngt⟩
  · rw [upd_ne (ne_of_none (g.sub a o' q) hp)]
    exact g.sub a o' q
  · rcases List.mem_append.mp ha with z | z
    · exact g.off a z
    · rw [List.mem_singleton.mp z]
      exact g.g_none hp
  · rw [List.nodup_append]
    refine ⟨g.nd, by simp, fun a ha b hb e => ?_⟩
    rw [List.mem_singleton.mp hb] at e
    exact g.not_in hp (e ▸ ha)
  · by_cases hn : n < r.length
    · rw [List.getElem?_append_left hn] at h1
      rw [List.getElem?_append_left (by rw [← g.len]; exact hn)] at h2
      have e : a ≠ p := fun z => g.not_in hp (z ▸ List.mem_of_getElem? h1)
      rw [upd_ne e]
      exact (g.obj n a so' h1 h2).mono l.pre l.ex
    · have hl := (List.getElem?_eq_some_iff.mp h1).1
      rw [List.length_append, List.length_singleton] at hl
      have en : n = r.length := by omega
      subst en
      rw [List.getElem?_append_right (Nat.le_refl _), Nat.sub_self] at h1
      rw [g.len, List.getElem?_append_right (Nat.le_refl _), Nat.sub_self] at h2
      cases h1
      cases h2
      rw [upd_same]
      exact h.mono l.pre l.ex
/-- an object of the store changed -/
theorem le_put (g : Gd K T r G H s) (hp : p ∈ r) (o : HO) : Le r G H r G (upd H p o) where
  pre := .refl
  fr := fun _ h => .inl h
  ex := fun _ _ h => h
  kp := fun a o' ha h _ => by
    have ne : a ≠ p := fun z => ha (by rw [z]; exact hp)
    rw [upd_ne ne]
    exact h
  st := fun a h => by
    by_cases e : a = p
    · subst e
      rw [upd_same] at h
      cases h
    · rw [upd_ne e] at h; exact h
  nw := fun a o' h => .inl h
  tbk := fun a ps h => ⟨ps, by
    have e : a ≠ p := fun z => by
      rw [z] at h
      rcases g.nt hp _ h with ⟨_, e⟩ | ⟨_, e⟩ <;> cases e
    rw [upd_ne e]
    exact h⟩
theorem Gd.put (g : Gd K T r G H s) {n : Nat} (hp : r[n]? = some p) {o : HO} {so : SO} (h : ObjR K T r G (some o) so) : Gd K T r G (upd H p o) (s.set n so) := by
  have hm : p ∈ r := List.mem_of_getElem? hp
  refine ⟨fun a o' q => ?_, g.off, by simpa using g.len, g.nd, fun m a so' h1 h2 => ?_, g.flr, g.flg, tabs_but g.tbs (g.nt hm) fun b hb => upd_ne hb, g.ngt⟩
  · have e : a ≠ p := fun z => by
      rw [z, g.off p hm] at q
      cases q
    rw [upd_ne e]
    exact g.sub a o' q
  · by_cases e : n = m
    · subst e
      rw [hp] at h1
      cases h1
      have hl : n < s.length := by
        rw [← g.len]
        exact (List.getElem?_eq_some_iff.mp hp).1
      rw [List.getElem?_set_self hl] at h2
      cases h2
      rw [upd_same]
      exact h
    · rw [List.getElem?_set_ne e] at h2
      have ne : a ≠ p := fun z => by
        subst z
        exact e (nodup_at g.nd hp h1)
      rw [upd_ne ne]
      exact g.obj m a so' h1 h2
/-- what a place of the store holds -/
theorem Gd.at (g : Gd K T r G H s) {n : Nat} {so : SO} (h : s[n]? = some so) : ∃ a, r[n]? = some a ∧ a ∈ r ∧ ObjR K T r G (H a) so := by
  have hl : n < r.length := by
    rw [g.len]
    exact (List.getElem?_eq_some_iff.mp h).1
  exact ⟨r[n], List.getElem?_eq_getElem hl, List.getElem_mem hl, g.obj n r[n] so (List.getElem?_eq_getElem hl) h⟩
end

/-! ### reading -/
section
variable {K : PySem.W.Frag} {T : Tb} {r : List Addr} {G H : Hp} {s : Sto}
/-- a value that may be read: a list of the store, too -/
def Rr (K : PySem.W.Frag) (T : Tb) (r : List Addr) (G H : Hp) (d : D) (v : V) : Prop :=
  match d with
  | .lst ds => ∃ a xs, v = .ref a ∧ H a = some (.lst xs) ∧ RpL K T r G ds xs
  | d => Rp K T r G d v
theorem Rr.of (g : Gd K T r G H s) {d : D} {v : V} (h : Rp K T r G d v) : Rr K T r G H d v := by
  cases d <;> first | exact h | skip
  unfold Rp at h
  obtain ⟨a, xs, e1, e2, e3⟩ := h
  exact ⟨a, xs, e1, g.sub _ _ e2, e3⟩
theorem Rr.rd (g : Gd K T r G H s) {d : D} {v : V} (h : Rp K T r G d v) : Rr K T r G H (rd s d) v := by
  cases d <;> first | exact Rr.of g h | skip
  rename_i n
  have h0 := h
  unfold Rp at h
  obtain ⟨a, rfl, e⟩ := h
  show Rr K T r G H (match s[n]? with | some (.lst ds) => .lst ds | _ => .loc n) _
  cases hs : s[n]? with
  | none => exact h0
  | some so =>
    cases so with
    | lst ds =>
      obtain ⟨xs, e1, e2⟩ := g.obj n a _ e hs
      exact ⟨a, xs, rfl, e1, e2⟩
    | dic kvs => exact h0
theorem rp_int {i : Int} {v : V} (h : Rp K T r G (.int i) v) : v = .int i := by unfold Rp at h; exact h
theorem rp_bl {b : Bool} {v : V} (h : Rp K T r G (.bl b) v) : v = .bl b := by unfold Rp at h; exact h
theorem rp_tup {ds : List D} {v : V} (h : Rp K T r G (.tup ds) v) : ∃ a xs, v = .ref a ∧ G a = some (.tup xs) ∧ RpL K T r G ds xs := by unfold Rp at h; exact h
theorem rp_scr {ds : List D} {v : V} (h : Rp K T r G (.scr ds) v) : ∃ a xs, v = .ref a ∧ SqL K G a xs ∧ RpL K T r G ds xs := by unfold Rp at h; exact h
theorem of_int (i : Int) : Rp K T r G (.int i) (.int i) := by unfold Rp; rfl
theorem of_bl (b : Bool) : Rp K T r G (.bl b) (.bl b) := by unfold Rp; rfl
theorem of_tup {ds : List D} {a : Addr} {xs : List V} (h : G a = some (.tup xs)) (k : RpL K T r G ds xs) : Rp K T r G (.tup ds) (.ref a) := by unfold Rp; exact ⟨a, xs, rfl, h, k⟩
theorem of_lst {ds : List D} {a : Addr} {xs : List V} (h : G a = some (.lst xs)) (k : RpL K T r G ds xs) : Rp K T r G (.lst ds) (.ref a) := by unfold Rp; exact ⟨a, xs, rfl, h, k⟩
theorem Gd.exH (g : Gd K T r G H s) : Ex G H := g.sub
end
end T5

set_option Elab.async false
set_option linter.all false
set_option maxRecDepth 100000
set_option maxHeartbeats 4000000
/-! T5: rules of our own over the layer: t * 1; repr of data. -/
namespace T5
open PySem PySem.Spec PyProof.Rows L2
theorem tuple_same (l : Addr) (its : Array Value) (n : Nat) (dd : Option Addr) (sl : Array (Option Value)) (x : Int) (u : Tok)
    (c0 : (decide (x < -(2 ^ 63)) || decide (x ≥ 2 ^ 63)) = false) (c1 : (its.isEmpty || x == 1) = true) :
    Meets (Builtin.«tuple.__mul__» ⟨[.ref l, .int x u], []⟩) (fun _ R s => s.heap.get? l = some { cls := .type "tuple", dict := dd, data := .seq its n, slots := sl } ∧ R (.ok (.ret (Value.ref l))) s) :=
  .of_wp fun prog w A R s h => by
    obtain ⟨hp, g, d, tk, os⟩ := s
    obtain ⟨hl, h⟩ := h
    have f1 := AutoSeq1.idx_int
    wp_walk using wpAny_loadPart' hl
    repeat (first
      | (refine wpAny_ite_false (decide_eq_false (by rw [c0]; exact Bool.false_ne_true)) ?_; wp_walk using wpAny_loadPart' hl)
      | (refine wpAny_ite_true (decide_eq_true c1) ?_; wp_walk using wpAny_loadPart' hl))
    exact ⟨_, rfl, h⟩
section
variable {X : Cx}
/-- t * 1 is t itself -/
def rRep1 (K : PySem.W.Frag) : R2 := fun x y H Q => ∃ l xs, x = .ref l ∧ y = .int 1 ∧ SqT K H l xs ∧ Q (.ref l) H
theorem op_rep1 : OpR X (binaryOp .Mult) (rRep1 X.K) := by
  intro pins s σ H x y v u Q I rx ry h
  obtain ⟨l, xs, rfl, rfl, hT, q⟩ := h
  cases rx
  obtain ⟨t, rfl⟩ := ry
  obtain ⟨its, r, ⟨⟨cls, dd, data, sl⟩, ho, hc, n, hd⟩, hs⟩ := I.tuple hT
  simp only at hc hd
  subst hc hd
  refine wpAny_binaryOp_repeat_ref (T := "tuple") (U := "int") (by decide) ⟨_, ho, rfl⟩ (fun s' => typeIs_int s' 1 t) noFill_tuple_mul F.fills_int_mul F.slot_int_rmul repeat_tuple F.slot_int_index.lookup
    (call_meets F.slot_int_rmul (typeIs_int s 1 t) F.entry_int_rmul (F.args_int_rmul_2 _ _) (int_rmul_tuple 1 t l its.toArray n dd sl) ⟨ho, rfl, ⟨_, ho, rfl⟩, ?_⟩)
  exact call_meets F.slot_tuple_mul ⟨_, ho, rfl⟩ F.entry_tuple_mul (F.args_tuple_mul_2 _ _) (tuple_same l its.toArray n dd sl 1 t (by decide) (by simp)) ⟨ho, ⟨.ref l, H, I, rfl, q⟩⟩
/-- repr of a list or a tuple of data -/
def rReprD (K : PySem.W.Frag) : List V → Hp → VK → Prop := fun xs H Q => ∃ (a : Addr) (p : PyData), xs = [.ref a] ∧ Dp K H (.ref a) p ∧ p.showable = true ∧ SeqAt.shaped p = true ∧ p.shown.length ≤ sizeLine ∧ Q (.str p.shown) H
theorem call_reprD (hg : X.A.guards = some []) (hu : X.A.units + 66 < cLine) : CallR X (.builtin "repr") (rReprD X.K) := by
  intro pins s σ H xs us Q I rx h
  obtain ⟨a, p, rfl, hp, hs, hsh, hz, q⟩ := h
  cases rx with
  | cons ra rt =>
    cases rt
    cases ra
    obtain ⟨as, rr⟩ := Dp.reads I p (.ref a) (.ref a) hp rfl
    have hd := SeqAt.depth_of_shaped hsh
    refine repr_of_reads' (h₀ := s.heap) rr hs (PyData.noDict_hsm (PyData.hasDict_of_canLay p (SeqAt.canLay_of_shaped hsh))) hg (by omega) (fun _ _ e => e) (fun h' u tk hk => ?_) hz
    exact ⟨.str p.shown, H, I.un (Un.kept hk) (I.hok.kept hk), ⟨u, rfl⟩, q⟩
/-- .. of a flat one -/
def rReprF : List V → Hp → VK → Prop := fun xs H Q => (xs = [.non] ∧ Q (.str (PyData.none).shown) H) ∨ (∃ b, xs = [.bl b] ∧ Q (.str (PyData.bool b).shown) H) ∨ (∃ i, xs = [.int i] ∧ i.natAbs.log2 < 1920 ∧ Q (.str (PyData.int i).shown) H) ∨ ∃ x, xs = [.str x] ∧ (PyData.str x).shown.length ≤ sizeLine ∧ Q (.str (PyData.str x).shown) H
theorem call_reprF : CallR X (.builtin "repr") rReprF := by
  intro pins s σ H xs us Q I rx h
  rcases h with ⟨rfl, q⟩ | ⟨b, rfl, q⟩ | ⟨i, rfl, hz, q⟩ | ⟨x, rfl, hz, q⟩
  · obtain ⟨u, rfl, r1⟩ := vals1 rx
    cases r1
    exact PySem.P.repr_of_none ⟨.str _, H, I.tok _, ⟨_, rfl⟩, q⟩
  · obtain ⟨u, rfl, r1⟩ := vals1 rx
    cases r1
    exact PySem.P.repr_of_bool ⟨.str _, H, I.tok _, ⟨_, rfl⟩, q⟩
  · obtain ⟨u, rfl, t, rfl⟩ := vals1 rx
    exact PySem.P.repr_of_int hz ⟨.str _, H, I.tok _, ⟨_, rfl⟩, q⟩
  · obtain ⟨u, rfl, t, rfl⟩ := vals1 rx
    exact PySem.P.repr_of_str ⟨.str _, H, I.tok _, ⟨_, rfl⟩, q⟩ hz
def rReprA (K : PySem.W.Frag) : List V → Hp → VK → Prop := fun xs H Q => rReprD K xs H Q ∨ rReprF xs H Q
theorem call_reprA (hg : X.A.guards = some []) (hu : X.A.units + 66 < cLine) : CallR X (.builtin "repr") (rReprA X.K) := fun pins s σ H xs us Q I rx z => z.elim (call_reprD hg hu pins s σ H xs us Q I rx) (call_reprF pins s σ H xs us Q I rx)
end
end T5

set_option Elab.async false
set_option linter.all false
set_option maxRecDepth 100000
set_option maxHeartbeats 1000000
/-! T5: expressions, one lemma a construct. -/
namespace T5
open PySem PySem.Spec L2
open Evl (Ex)

section
variable {K : PySem.W.Frag} {T : Tb} {r : List Addr} {G H : Hp} {s : Sto}
/-- what follows a value -/
def Nxt (K : PySem.W.Frag) (T : Tb) (Q : VK) (r : List Addr) (G H : Hp) (s : Sto) (z : D) : Prop := ∀ w r' G' H', Le r G H r' G' H' → Gd K T r' G' H' s → Rp K T r' G' z w → Q w H'
theorem Nxt.here {Q : VK} {z : D} {w : V} (n : Nxt K T Q r G H s z) (g : Gd K T r G H s) (h : Rp K T r G z w) : Q w H := n w r G H Le.refl g h
/-- a new tuple, a new list -/
theorem Nxt.tup {Q : VK} {ds : List D} {xs : List V} (n : Nxt K T Q r G H s (.tup ds)) (g : Gd K T r G H s) (h : RpL K T r G ds xs) : ∀ p, H p = none → Q (.ref p) (upd H p (.tup xs)) := fun p hp =>
  n (.ref p) r _ _ (le_new g hp (.tup xs)) (g.new hp _ fun _ z => by cases z) (of_tup upd_same (h.mono .refl (ex_upd (g.g_none hp))))
theorem Nxt.lst {Q : VK} {ds : List D} {xs : List V} (n : Nxt K T Q r G H s (.lst ds)) (g : Gd K T r G H s) (h : RpL K T r G ds xs) : ∀ p, H p = none → Q (.ref p) (upd H p (.lst xs)) := fun p hp =>
  n (.ref p) r _ _ (le_new g hp (.lst xs)) (g.new hp _ fun _ z => by cases z) (of_lst upd_same (h.mono .refl (ex_upd (g.g_none hp))))
theorem rr_tup {ds : List D} {v : V} (g : Gd K T r G H s) (h : Rr K T r G H (.tup ds) v) : ∃ a xs, v = .ref a ∧ SqT K H a xs ∧ G a = some (.tup xs) ∧ RpL K T r G ds xs := by
  obtain ⟨a, xs, e1, e2, e3⟩ := rp_tup (show Rp K T r G (.tup ds) v from h)
  exact ⟨a, xs, e1, SqT.of (g.sub _ _ e2), e2, e3⟩
theorem rr_lst {ds : List D} {v : V} (h : Rr K T r G H (.lst ds) v) : ∃ a xs, v = .ref a ∧ H a = some (.lst xs) ∧ RpL K T r G ds xs := h
theorem rr_int {i : Int} {v : V} (h : Rr K T r G H (.int i) v) : v = .int i := rp_int (show Rp K T r G (.int i) v from h)
theorem cap_le {n : Nat} (h : Nat.ble n cap = true) : n ≤ sizeLine := Nat.le_trans (Nat.le_of_ble_eq_true h) (by decide)
theorem cap_lt {n : Nat} (h : Nat.blt n cap = true) : n < sizeLine := Nat.lt_of_lt_of_le (Nat.lt_of_succ_le (Nat.le_of_ble_eq_true h)) (by decide)
theorem big_of {i : Int} (h : big64 i = true) : -(2 ^ 64) < i ∧ i < 2 ^ 64 := by
  have h' := Bool.and_eq_true_iff.mp h
  exact ⟨of_decide_eq_true h'.1, of_decide_eq_true h'.2⟩

/-! ### operators -/
def rAddA (K : PySem.W.Frag) : R2 := fun x y H Q => rI0 (fun i j => .int (i + j)) x y H Q ∨ rCatA K x y H Q ∨ rCat x y H Q
theorem op_addA {X : Cx} : OpR X (binaryOp .Add) (rAddA X.K) := or_op op_add (or_op op_catA op_cat)
theorem nil_of {ds : List D} {xs : List V} (h : RpL K T r G ds xs) (e : xs = []) : ds = [] := by
  have := h.length
  rw [e] at this
  exact List.eq_nil_of_length_eq_zero this.symm
theorem bin_add {x y z : D} {v u : V} {Q : VK} (g : Gd K T r G H s) (hx : Rr K T r G H x v) (hy : Rr K T r G H y u) (h : addD x y = some z) (n : Nxt K T Q r G H s z) : rAddA K v u H Q := by
  unfold addD at h
  split at h <;> first | (cases h; done) | skip
  · rename_i i j
    cases h
    cases rr_int hx
    cases rr_int hy
    exact .inl ⟨i, j, rfl, rfl, n.here g (of_int _)⟩
  · rename_i a b
    split at h
    · rename_i hc
      cases h
      obtain ⟨p, xs, rfl, e1, e1', e2⟩ := rr_tup g hx
      obtain ⟨q, ys, rfl, e3, e3', e4⟩ := rr_tup g hy
      refine .inr (.inl ⟨p, q, xs, ys, rfl, rfl, e1, e3, by rw [e2.length, e4.length]; exact cap_le hc, fun e => ?_, fun _ e => ?_, fun _ _ => n.tup g (e2.append e4)⟩)
      · rw [nil_of e2 e] at n
        exact n.here g (of_tup e3' e4)
      · rw [nil_of e4 e, List.append_nil] at n
        exact n.here g (of_tup e1' e2)
    · cases h
  · rename_i a b
    split at h
    · rename_i hc
      cases h
      obtain ⟨p, xs, rfl, e1, e2⟩ := rr_lst hx
      obtain ⟨q, ys, rfl, e3, e4⟩ := rr_lst hy
      exact .inr (.inr ⟨p, q, xs, ys, rfl, rfl, e1, e3, by rw [e2.length, e4.length]; exact cap_le hc, n.lst g (e2.append e4)⟩)
    · cases h
theorem bin_sub {x y z : D} {v u : V} {Q : VK} (g : Gd K T r G H s) (hx : Rr K T r G H x v) (hy : Rr K T r G H y u) (h : subD x y = some z) (n : Nxt K T Q r G H s z) : rI0 (fun i j => .int (i - j)) v u H Q := by
  unfold subD at h
  split at h <;> first | (cases h; done) | skip
  rename_i i j
  cases h
  cases rr_int hx
  cases rr_int hy
  exact ⟨i, j, rfl, rfl, n.here g (of_int _)⟩
theorem bin_fdiv {x y z : D} {v u : V} {Q : VK} (g : Gd K T r G H s) (hx : Rr K T r G H x v) (hy : Rr K T r G H y u) (h : fdivD x y = some z) (n : Nxt K T Q r G H s z) : rI CDiv (fun i j => .int (i / j)) v u H Q := by
  unfold fdivD at h
  split at h <;> first | (cases h; done) | skip
  rename_i i j
  split at h
  · rename_i hc
    cases h
    cases rr_int hx
    cases rr_int hy
    have hc' := Bool.and_eq_true_iff.mp hc
    exact ⟨i, j, rfl, rfl, ⟨of_decide_eq_true hc'.1, of_decide_eq_true hc'.2⟩, n.here g (of_int _)⟩
  · cases h
theorem bin_mod {x y z : D} {v u : V} {Q : VK} (g : Gd K T r G H s) (hx : Rr K T r G H x v) (hy : Rr K T r G H y u) (h : modD x y = some z) (n : Nxt K T Q r G H s z) : rI (fun _ j => 0 < j) (fun i j => .int (i % j)) v u H Q := by
  unfold modD at h
  split at h <;> first | (cases h; done) | skip
  rename_i i j
  split at h
  · rename_i hc
    cases h
    cases rr_int hx
    cases rr_int hy
    exact ⟨i, j, rfl, rfl, of_decide_eq_true hc, n.here g (of_int _)⟩
  · cases h
theorem bin_pow {x y z : D} {v u : V} {Q : VK} (g : Gd K T r G H s) (hx : Rr K T r G H x v) (hy : Rr K T r G H y u) (h : powD x y = some z) (n : Nxt K T Q r G H s z) : rI CPow (fun i j => .int (i ^ j.toNat)) v u H Q := by
  unfold powD at h
  split at h <;> first | (cases h; done) | skip
  rename_i i j
  split at h
  · rename_i hc
    cases h
    cases rr_int hx
    cases rr_int hy
    have hc' := Bool.and_eq_true_iff.mp hc
    have hc2 := Bool.and_eq_true_iff.mp hc'.1
    have hb := big_of hc'.2
    exact ⟨i, j, rfl, rfl, ⟨of_decide_eq_true hc2.1, of_decide_eq_true hc2.2, by omega⟩, n.here g (of_int _)⟩
  · cases h
def rMulA (K : PySem.W.Frag) : R2 := fun x y H Q => rI CMul (fun i j => .int (i * j)) x y H Q ∨ rRepT K x y H Q ∨ rRep1 K x y H Q ∨ rRep x y H Q
theorem op_mulA {X : Cx} : OpR X (binaryOp .Mult) (rMulA X.K) := or_op op_mul (or_op op_repT (or_op op_rep1 op_rep))
theorem bin_mul {x y z : D} {v u : V} {Q : VK} (g : Gd K T r G H s) (hx : Rr K T r G H x v) (hy : Rr K T r G H y u) (h : mulD x y = some z) (n : Nxt K T Q r G H s z) : rMulA K v u H Q := by
  unfold mulD at h
  split at h <;> first | (cases h; done) | skip
  · rename_i i j
    split at h
    · rename_i hc
      cases h
      cases rr_int hx
      cases rr_int hy
      refine .inl ⟨i, j, rfl, rfl, ?_, n.here g (of_int _)⟩
      rcases Bool.or_eq_true_iff.mp hc with c | c
      · exact .inl (big_of c)
      · exact .inr (big_of c)
    · cases h
  · rename_i a k
    split at h
    · rename_i hc
      cases h
      cases rr_int hy
      obtain ⟨p, xs, rfl, e1, e1', e2⟩ := rr_tup g hx
      simp only [Bool.and_eq_true, decide_eq_true_eq] at hc
      obtain ⟨⟨⟨c1, c2⟩, c3⟩, c4⟩ := hc
      have c3' : a.length ≤ 1000 := Nat.le_of_ble_eq_true c3
      have c4' : 0 < a.length := Nat.lt_of_succ_le (Nat.le_of_ble_eq_true c4)
      by_cases hk : k = 1
      · subst hk
        refine .inr (.inr (.inl ⟨p, xs, rfl, rfl, e1, n.here g (of_tup e1' ?_)⟩))
        show RpL K T r G (List.replicate 1 a).flatten xs
        rw [show (List.replicate 1 a).flatten = a by simp]
        exact e2
      · refine .inr (.inl ⟨p, k, xs, rfl, rfl, e1, fun e => ?_, by omega, c2, by rw [e2.length]; exact c3', n.tup g (e2.rep _)⟩)
        rw [nil_of e2 e] at c4'
        exact absurd c4' (by decide)
    · cases h
  · rename_i a k
    split at h
    · rename_i hc
      cases h
      cases rr_int hy
      obtain ⟨p, xs, rfl, e1, e2⟩ := rr_lst hx
      simp only [Bool.and_eq_true, decide_eq_true_eq] at hc
      obtain ⟨⟨c1, c2⟩, c3⟩ := hc
      have c3' : a.length ≤ 1000 := Nat.le_of_ble_eq_true c3
      refine .inr (.inr (.inr ⟨p, k, xs, rfl, rfl, e1, by omega, by omega, ?_, n.lst g (e2.rep _)⟩))
      rw [e2.length]
      have : a.length * k.toNat ≤ 1000 * 1000 := Nat.mul_le_mul c3' (by omega)
      exact Nat.le_trans this (by decide)
    · cases h

/-! ### comparisons -/
theorem ord_ok {f : Int → Int → Bool} {x y : D} {b : Bool} {v u : V} {Q : VK} (g : Gd K T r G H s) (hx : Rr K T r G H x v) (hy : Rr K T r G H y u) (h : ordD f x y = some b) (n : Nxt K T Q r G H s (.bl b)) : rI0 (fun i j => .bl (f i j)) v u H Q := by
  unfold ordD at h
  split at h <;> first | (cases h; done) | skip
  rename_i i j
  cases h
  cases rr_int hx
  cases rr_int hy
  exact ⟨i, j, rfl, rfl, n.here g (of_bl _)⟩
mutual
theorem eqD_eq : ∀ {a b : D}, eqD a b = true → a = b
  | .non, b, h => by cases b <;> simp [eqD] at h <;> rfl
  | .bl x, b, h => by cases b <;> simp [eqD] at h <;> rw [h]
  | .int x, b, h => by cases b <;> simp [eqD] at h <;> rw [h]
  | .str x, b, h => by cases b <;> simp [eqD] at h <;> rw [h]
  | .rep x, b, h => by
    cases b <;> simp [eqD] at h
    rw [eqD_eq h]
  | .tup x, b, h => by
    cases b <;> simp [eqD] at h
    rw [eqL_eq h]
  | .lst x, b, h => by
    cases b <;> simp [eqD] at h
    rw [eqL_eq h]
  | .scr x, b, h => by
    cases b <;> simp [eqD] at h
    rw [eqL_eq h]
  | .kt x, b, h => by
    cases b <;> simp [eqD] at h
    rw [eqL_eq h]
  | .loc x, b, h => by cases b <;> simp [eqD] at h <;> rw [h]
  | .fn x, b, h => by cases b <;> simp [eqD] at h <;> rw [h]
  | .ty x, b, h => by cases b <;> simp [eqD] at h <;> rw [h]
  | .pin x, b, h => by cases b <;> simp [eqD] at h <;> rw [h]
theorem eqL_eq : ∀ {a b : List D}, eqL a b = true → a = b
  | [], b, h => by cases b <;> simp [eqL] at h <;> rfl
  | x :: a, b, h => by
    cases b with
    | nil => simp [eqL] at h
    | cons y b =>
      simp [eqL] at h
      rw [eqD_eq h.1, eqL_eq h.2]
end
-- as the library's data
mutual
theorem dp_of (e : Ex G H) : ∀ {d : D} {v : V} {p : PyData}, toP d = some p → Rp K T r G d v → Dp K H v p
  | .non, v, p, hp, h => by
    unfold toP at hp; cases hp; unfold Rp at h; subst h; exact .non
  | .bl b, v, p, hp, h => by
    unfold toP at hp; cases hp; unfold Rp at h; subst h; exact .bl b
  | .int i, v, p, hp, h => by
    unfold toP at hp; cases hp; unfold Rp at h; subst h; exact .int i
  | .str x, v, p, hp, h => by
    unfold toP at hp; cases hp; unfold Rp at h; subst h; exact .str x
  | .rep _, v, p, hp, h => by unfold toP at hp; cases hp
  | .tup ds, v, p, hp, h => by
    unfold toP at hp
    cases hq : toPs ds with
    | none => rw [hq] at hp; cases hp
    | some ps =>
      rw [hq] at hp
      cases hp
      unfold Rp at h
      obtain ⟨a, xs, rfl, h1, h2⟩ := h
      exact .tup (SqT.of (e _ _ h1)) (dps_of e hq h2)
  | .lst ds, v, p, hp, h => by
    unfold toP at hp
    cases hq : toPs ds with
    | none => rw [hq] at hp; cases hp
    | some ps =>
      rw [hq] at hp
      cases hp
      unfold Rp at h
      obtain ⟨a, xs, rfl, h1, h2⟩ := h
      exact .lst (SqL.of (e _ _ h1)) (dps_of e hq h2)
  | .scr ds, v, p, hp, h => by unfold toP at hp; cases hp
  | .kt ds, v, p, hp, h => by unfold toP at hp; cases hp
  | .loc _, v, p, hp, h => by unfold toP at hp; cases hp
  | .fn _, v, p, hp, h => by unfold toP at hp; cases hp
  | .ty _, v, p, hp, h => by unfold toP at hp; cases hp
  | .pin _, v, p, hp, h => by unfold toP at hp; cases hp
theorem dps_of (e : Ex G H) : ∀ {ds : List D} {vs : List V} {ps : List PyData}, toPs ds = some ps → RpL K T r G ds vs → DpAll K H vs ps
  | [], vs, ps, hp, h => by
    unfold toPs at hp; cases hp; rw [h.nil_inv]; exact .nil
  | d :: ds, vs, ps, hp, h => by
    unfold toPs at hp
    obtain ⟨v, t, rfl, h1, h2⟩ := h.cons_inv
    cases hq : toP d with
    | none => rw [hq] at hp; cases hp
    | some p =>
      cases hr : toPs ds with
      | none => rw [hq, hr] at hp; cases hp
      | some qs =>
        rw [hq, hr] at hp
        cases hp
        exact .cons (dp_of e hq h1) (dps_of e hr h2)
end
/-- .. of what is read -/
theorem dp_rd (g : Gd K T r G H s) {d : D} {v : V} {p : PyData} (hp : toP d = some p) (h : Rr K T r G H d v) : Dp K H v p := by
  cases d <;> first | exact dp_of g.exH hp (show Rp K T r G _ v from h) | skip
  rename_i ds
  obtain ⟨a, xs, rfl, h1, h2⟩ := rr_lst h
  unfold toP at hp
  cases hq : toPs ds with
  | none => rw [hq] at hp; cases hp
  | some ps =>
    rw [hq] at hp
    cases hp
    exact .lst (SqL.of h1) (dps_of g.exH hq h2)
def rEqA (K : PySem.W.Frag) : R2 := fun x y H Q => rEq x y H Q ∨ rEqD K x y H Q
def rNeA (K : PySem.W.Frag) : R2 := fun x y H Q => rNe x y H Q ∨ rNeD K x y H Q
theorem op_eqA {X : Cx} (hu : X.A.units + 64 < cLine) : OpR X (compareOp .Eq) (rEqA X.K) := or_op op_eq (op_eqD hu)
theorem op_neA {X : Cx} (hu : X.A.units + 64 < cLine) : OpR X (compareOp .NotEq) (rNeA X.K) := or_op op_ne (op_neD hu)
theorem rep_inv {x : D} {v : V} (h : Rr K T r G H (.rep x) v) : ∃ p, toP x = some p ∧ v = .str p.shown := by
  have h' : Rp K T r G (.rep x) v := h
  unfold Rp at h'
  exact h'
/-- both ways of eqq: equal texts, or data -/
theorem eqq_cases {x y : D} {b : Bool} {v u : V} (g : Gd K T r G H s) (hx : Rr K T r G H x v) (hy : Rr K T r G H y u) (h : eqq x y = some b) :
    (scal v u = true ∧ b = decide (v = u)) ∨ ∃ p q, Dp K H v p ∧ Dp K H u q ∧ SeqAt.shaped p = true ∧ SeqAt.shaped q = true ∧ b = PyData.eqv p q := by
  unfold eqq at h
  split at h
  · rename_i a c
    split at h
    · rename_i hc
      cases h
      cases eqD_eq hc
      obtain ⟨p, e1, rfl⟩ := rep_inv hx
      obtain ⟨q, e2, rfl⟩ := rep_inv hy
      rw [e1] at e2
      cases e2
      exact .inl ⟨rfl, (decide_eq_true rfl).symm⟩
    · cases h
  · rename_i i j
    cases h
    cases rr_int hx
    cases rr_int hy
    refine .inl ⟨rfl, ?_⟩
    by_cases e : i = j
    · subst e
      simp
    · rw [decide_eq_false (fun z => e (V.int.inj z))]
      exact beq_eq_false_iff_ne.mpr e
  · cases hp : toP x with
    | none => rw [hp] at h; cases h
    | some p =>
      cases hq : toP y with
      | none => rw [hp, hq] at h; cases h
      | some q =>
        rw [hp, hq] at h
        simp only [Option.bind_some] at h
        split at h
        · rename_i hc
          cases h
          have hc' := Bool.and_eq_true_iff.mp hc
          exact .inr ⟨p, q, dp_rd g hp hx, dp_rd g hq hy, hc'.1, hc'.2, rfl⟩
        · cases h
theorem cmp_eq {x y : D} {b : Bool} {v u : V} {Q : VK} (g : Gd K T r G H s) (hx : Rr K T r G H x v) (hy : Rr K T r G H y u) (h : eqq x y = some b) (n : Nxt K T Q r G H s (.bl b)) : rEqA K v u H Q := by
  rcases eqq_cases g hx hy h with ⟨h1, rfl⟩ | ⟨p, q, h1, h2, h3, h4, rfl⟩
  · exact .inl ⟨h1, n.here g (of_bl _)⟩
  · exact .inr ⟨p, q, h1, h2, h3, h4, n.here g (of_bl _)⟩
theorem cmp_ne {x y : D} {b : Bool} {v u : V} {Q : VK} (g : Gd K T r G H s) (hx : Rr K T r G H x v) (hy : Rr K T r G H y u) (h : (eqq x y).map (! ·) = some b) (n : Nxt K T Q r G H s (.bl b)) : rNeA K v u H Q := by
  cases hq : eqq x y with
  | none => rw [hq] at h; cases h
  | some c =>
    rw [hq] at h
    cases h
    rcases eqq_cases g hx hy hq with ⟨h1, rfl⟩ | ⟨p, q, h1, h2, h3, h4, rfl⟩
    · exact .inl ⟨h1, n.here g (of_bl _)⟩
    · exact .inr ⟨p, q, h1, h2, h3, h4, n.here g (of_bl _)⟩
end
end T5

set_option Elab.async false
set_option linter.all false
set_option maxRecDepth 100000
set_option maxHeartbeats 1000000
/-! T5: expressions as terms of rules. -/
namespace T5
open PySem PySem.Spec L2
open Evl (Ex)

/-- a test's reading -/
abbrev tQ (K : PySem.W.Frag) (T : Tb) (W : WX) (cl : Calls) (c : CE) : TT := tB (tE K T W cl c)

section
variable {X : Cx} {T : Tb} {W : WX} {cl : Calls} {a b c : Expr} {ca cb cc : CE} {pos : Pos} {es : List Expr} {ces : CEs}
theorem ge_bad {e : Expr} : PE X e (tE X.K T W cl .bad) := imp_e false_e fun σ H Q ⟨_, _, _, _, _, _, h⟩ => by
  simp only [evE] at h
  exact h
theorem gt_bad {e : Expr} : PT X e (tQ X.K T W cl .bad) := imp_t false_t fun σ H Q ⟨_, _, _, _, _, _, h⟩ => by
  simp only [evE] at h
  exact h
theorem ge_var {i : Nat} {x : Str} (hN : X.N[i]? = some x) (hv : Vis X.env.scope x) (hd : (x == ("__debug__" : Str)) = false) (hcd : (x == ("__classdict__" : Str)) = false) : PE X (.Name x pos) (tE X.K T W cl (.var i)) :=
  imp_e (pe_var hN hv hd hcd) fun σ H Q ⟨env, s, r, G, g, e, h⟩ => by
    simp only [evE] at h
    cases he : env[i]? with
    | none => rw [he] at h; exact h.elim
    | some o =>
      cases o with
      | none => rw [he] at h; exact h.elim
      | some d =>
        rw [he] at h
        obtain ⟨v, e1, e2⟩ := e.2 i d he
        exact ⟨v, e1, h.here g e2⟩
theorem ge_con {e : Expr} {d : D} {v : V} (h : PE X e (tC v)) (hd : ∀ r G, Rp X.K T r G d v) : PE X e (tE X.K T W cl (.con d)) :=
  imp_e h fun σ H Q ⟨env, s, r, G, g, e, h⟩ => by
    simp only [evE] at h
    exact h.here g (hd r G)
theorem ge_int {i : Int} {j : Nat} : PE X (.Constant (.int i) j pos) (tE X.K T W cl (.con (.int i))) := ge_con pe_int fun _ _ => of_int i
theorem ge_bl {i : Bool} {j : Nat} : PE X (.Constant (.bool i) j pos) (tE X.K T W cl (.con (.bl i))) := ge_con pe_bl fun _ _ => of_bl i
theorem ge_non {j : Nat} : PE X (.Constant .none j pos) (tE X.K T W cl (.con .non)) := ge_con pe_non fun _ _ => by unfold Rp; rfl
theorem ge_str {x : Str} {j : Nat} : PE X (.Constant (.str x) j pos) (tE X.K T W cl (.con (.str x))) := ge_con pe_str fun _ _ => by unfold Rp; rfl

/-! ### operators -/
theorem ge_bin {o : Operator} {op : BOp} {q : R2} (hq : OpR X (binaryOp o) q)
    (k : ∀ {r : List Addr} {G H : Hp} {s : Sto} {x y z : D} {v u : V} {Q : VK}, Gd X.K T r G H s → Rr X.K T r G H x v → Rr X.K T r G H y u → binD op x y = some z → Nxt X.K T Q r G H s z → q v u H Q)
    (ha : PE X a (tE X.K T W cl ca)) (hb : PE X b (tE X.K T W cl cb)) : PE X (.BinOp a o b pos) (tE X.K T W cl (.bin op ca cb)) :=
  imp_e (pe_op hq ha hb) fun σ H Q ⟨env, s, r, G, g, e, h⟩ => by
    simp only [evE] at h
    refine rdg_bind g e h fun x v r1 G1 H1 s1 l1 g1 e1 hx h1 => rdg_bind g1 e1 h1 fun y u r2 G2 H2 s2 l2 g2 e2 hy h2 => ?_
    obtain ⟨z, hz, h3⟩ := out_lift h2
    exact k g2 (Rr.rd g2 (hx.le l2)) (Rr.rd g2 hy) hz h3
theorem ge_add (ha : PE X a (tE X.K T W cl ca)) (hb : PE X b (tE X.K T W cl cb)) : PE X (.BinOp a .Add b pos) (tE X.K T W cl (.bin .add ca cb)) := ge_bin op_addA bin_add ha hb
theorem ge_sub (ha : PE X a (tE X.K T W cl ca)) (hb : PE X b (tE X.K T W cl cb)) : PE X (.BinOp a .Sub b pos) (tE X.K T W cl (.bin .sub ca cb)) := ge_bin op_sub bin_sub ha hb
theorem ge_mul (ha : PE X a (tE X.K T W cl ca)) (hb : PE X b (tE X.K T W cl cb)) : PE X (.BinOp a .Mult b pos) (tE X.K T W cl (.bin .mul ca cb)) := ge_bin op_mulA bin_mul ha hb
theorem ge_fdiv (ha : PE X a (tE X.K T W cl ca)) (hb : PE X b (tE X.K T W cl cb)) : PE X (.BinOp a .FloorDiv b pos) (tE X.K T W cl (.bin .fdiv ca cb)) := ge_bin op_fdiv bin_fdiv ha hb
theorem ge_mod (ha : PE X a (tE X.K T W cl ca)) (hb : PE X b (tE X.K T W cl cb)) : PE X (.BinOp a .Mod b pos) (tE X.K T W cl (.bin .mod ca cb)) := ge_bin op_mod bin_mod ha hb
theorem ge_pow (ha : PE X a (tE X.K T W cl ca)) (hb : PE X b (tE X.K T W cl cb)) : PE X (.BinOp a .Pow b pos) (tE X.K T W cl (.bin .pow ca cb)) := ge_bin op_pow bin_pow ha hb
theorem ge_neg (ha : PE X a (tE X.K T W cl ca)) : PE X (.UnaryOp .USub a pos) (tE X.K T W cl (.neg ca)) :=
  imp_e (pe_un un_neg ha) fun σ H Q ⟨env, s, r, G, g, e, h⟩ => by
    simp only [evE] at h
    refine rdg_bind g e h fun x v r1 G1 H1 s1 l1 g1 e1 hx h1 => ?_
    cases x <;> first | exact h1.elim | skip
    rename_i i
    cases rp_int hx
    exact ⟨i, rfl, h1.here g1 (of_int _)⟩
theorem ge_cmp {o : CmpOp} {op : COp} {q : R2} (hq : OpR X (compareOp o) q) (hm : behindInMarks o b = false)
    (k : ∀ {r : List Addr} {G H : Hp} {s : Sto} {x y : D} {z : Bool} {v u : V} {Q : VK}, Gd X.K T r G H s → Rr X.K T r G H x v → Rr X.K T r G H y u → cmpS op s x y = some z → Nxt X.K T Q r G H s (.bl z) → q v u H Q)
    (ha : PE X a (tE X.K T W cl ca)) (hb : PE X b (tE X.K T W cl cb)) : PE X (.Compare a [o] [b] pos) (tE X.K T W cl (.cmp op ca cb)) ∧ PT X (.Compare a [o] [b] pos) (tQ X.K T W cl (.cmp op ca cb)) := by
  have i : ∀ σ H Q, tE X.K T W cl (.cmp op ca cb) σ H Q → tOp q (tE X.K T W cl ca) (tE X.K T W cl cb) σ H Q := fun σ H Q ⟨env, s, r, G, g, e, h⟩ => by
    simp only [evE] at h
    refine rdg_bind g e h fun x v r1 G1 H1 s1 l1 g1 e1 hx h1 => rdg_bind g1 e1 h1 fun y u r2 G2 H2 s2 l2 g2 e2 hy h2 => ?_
    obtain ⟨z, hz, h3⟩ := out_lift h2
    cases hw : cmpS op s2 (rd s2 x) (rd s2 y) with
    | none => rw [hw] at hz; cases hz
    | some z0 =>
      rw [hw] at hz
      cases hz
      exact k g2 (Rr.rd g2 (hx.le l2)) (Rr.rd g2 hy) hw h3
  exact ⟨imp_e (pe_cmpR hq ha hb hm) i, imp_t (pt_cmpR hq ha hb hm) fun σ H Q h => i σ H _ h⟩

/-! ### and, or, not, a if c else b -/
theorem ge_not (ha : PE X a (tE X.K T W cl ca)) : PE X (.UnaryOp .Not a pos) (tE X.K T W cl (.not ca)) :=
  imp_e (pe_not ha) fun σ H Q ⟨env, s, r, G, g, e, h⟩ => by
    simp only [evE] at h
    refine rdg_bind g e h fun x v r1 G1 H1 s1 l1 g1 e1 hx h1 => ?_
    cases x <;> first | exact h1.elim | skip
    rename_i i
    cases rp_bl hx
    exact ⟨i, rfl, h1.here g1 (of_bl _)⟩
theorem gt_not (ha : PT X a (tQ X.K T W cl ca)) : PT X (.UnaryOp .Not a pos) (tQ X.K T W cl (.not ca)) :=
  imp_t (pt_not ha) fun σ H Q ⟨env, s, r, G, g, e, h⟩ => by
    simp only [evE] at h
    refine rdg_bind g e h fun x v r1 G1 H1 s1 l1 g1 e1 hx h1 => ?_
    cases x <;> first | exact h1.elim | skip
    rename_i i
    cases rp_bl hx
    obtain ⟨c, hc, q⟩ := h1.here g1 (of_bl _)
    cases hc
    exact ⟨i, rfl, q⟩
theorem ge_and {e2 : Expr} {rest : List Expr} (ha : PE X a (tE X.K T W cl ca)) (hb : PE X (.BoolOp .And (e2 :: rest) pos) (tE X.K T W cl cb)) : PE X (.BoolOp .And (a :: e2 :: rest) pos) (tE X.K T W cl (.and ca cb)) :=
  imp_e (pe_and ha hb) fun σ H Q ⟨env, s, r, G, g, e, h⟩ => by
    simp only [evE] at h
    refine rdg_bind g e h fun x v r1 G1 H1 s1 l1 g1 e1 hx h1 => ?_
    cases x <;> first | exact h1.elim | skip
    rename_i i
    cases rp_bl hx
    refine ⟨i, rfl, ?_⟩
    cases i with
    | true => exact ⟨env, s1, r1, G1, g1, e1, h1⟩
    | false => exact h1.here g1 (of_bl _)
theorem ge_or {e2 : Expr} {rest : List Expr} (ha : PE X a (tE X.K T W cl ca)) (hb : PE X (.BoolOp .Or (e2 :: rest) pos) (tE X.K T W cl cb)) : PE X (.BoolOp .Or (a :: e2 :: rest) pos) (tE X.K T W cl (.or ca cb)) :=
  imp_e (pe_or ha hb) fun σ H Q ⟨env, s, r, G, g, e, h⟩ => by
    simp only [evE] at h
    refine rdg_bind g e h fun x v r1 G1 H1 s1 l1 g1 e1 hx h1 => ?_
    cases x <;> first | exact h1.elim | skip
    rename_i i
    cases rp_bl hx
    refine ⟨i, rfl, ?_⟩
    cases i with
    | false => exact ⟨env, s1, r1, G1, g1, e1, h1⟩
    | true => exact h1.here g1 (of_bl _)
theorem gw_and {e2 : Expr} {rest : List Expr} (ha : PT X a (tQ X.K T W cl ca)) (hb : PW X (.BoolOp .And (e2 :: rest) pos) (tQ X.K T W cl cb)) : PW X (.BoolOp .And (a :: e2 :: rest) pos) (tQ X.K T W cl (.and ca cb)) :=
  imp_w (pw_and ha hb) fun σ H Q ⟨env, s, r, G, g, e, h⟩ => by
    simp only [evE] at h
    refine rdg_bind g e h fun x v r1 G1 H1 s1 l1 g1 e1 hx h1 => ?_
    cases x <;> first | exact h1.elim | skip
    rename_i i
    cases rp_bl hx
    refine ⟨i, rfl, ?_⟩
    cases i with
    | true => exact ⟨env, s1, r1, G1, g1, e1, h1⟩
    | false =>
      obtain ⟨c, hc, q⟩ := h1.here g1 (of_bl _)
      cases hc
      exact q
theorem gw_or {e2 : Expr} {rest : List Expr} (ha : PT X a (tQ X.K T W cl ca)) (hb : PW X (.BoolOp .Or (e2 :: rest) pos) (tQ X.K T W cl cb)) : PW X (.BoolOp .Or (a :: e2 :: rest) pos) (tQ X.K T W cl (.or ca cb)) :=
  imp_w (pw_or ha hb) fun σ H Q ⟨env, s, r, G, g, e, h⟩ => by
    simp only [evE] at h
    refine rdg_bind g e h fun x v r1 G1 H1 s1 l1 g1 e1 hx h1 => ?_
    cases x <;> first | exact h1.elim | skip
    rename_i i
    cases rp_bl hx
    refine ⟨i, rfl, ?_⟩
    cases i with
    | false => exact ⟨env, s1, r1, G1, g1, e1, h1⟩
    | true =>
      obtain ⟨c, hc, q⟩ := h1.here g1 (of_bl _)
      cases hc
      exact q
theorem ge_ite (hc : PT X c (tQ X.K T W cl cc)) (ha : PE X a (tE X.K T W cl ca)) (hb : PE X b (tE X.K T W cl cb)) : PE X (.IfExp c a b pos) (tE X.K T W cl (.ite cc ca cb)) :=
  imp_e (pe_ifExp hc ha hb) fun σ H Q ⟨env, s, r, G, g, e, h⟩ => by
    simp only [evE] at h
    refine rdg_bind g e h fun x v r1 G1 H1 s1 l1 g1 e1 hx h1 => ?_
    cases x <;> first | exact h1.elim | skip
    rename_i i
    cases rp_bl hx
    refine ⟨i, rfl, ?_⟩
    cases i with
    | true => exact ⟨env, s1, r1, G1, g1, e1, h1⟩
    | false => exact ⟨env, s1, r1, G1, g1, e1, h1⟩

/-! ### displays -/
theorem gl_nil : PA X [] (tL X.K T W cl .nil) := imp_a pa_nil fun σ H Q ⟨env, s, r, G, g, e, h⟩ => by
  simp only [evEs] at h
  exact h.here g .nil
theorem gl_cons (ha : PE X a (tE X.K T W cl ca)) (hr : PA X es (tL X.K T W cl ces)) (hs : starEach (a :: es) X.env = (false, eval a X.env) :: starEach es X.env) : PA X (a :: es) (tL X.K T W cl (.cons ca ces)) :=
  imp_a (pa_cons ha hr hs) fun σ H Q ⟨env, s, r, G, g, e, h⟩ => by
    simp only [evEs] at h
    refine rdg_bind g e h fun x v r1 G1 H1 s1 l1 g1 e1 hx h1 => rdg_bind g1 e1 h1 fun ds vs r2 G2 H2 s2 l2 g2 e2 hds h2 => ?_
    exact h2.here g2 (.cons (hx.le l2) hds)
theorem ge_tup {k : Nat} (h : PA X es (tL X.K T W cl ces)) : PE X (.Tuple es k pos) (tE X.K T W cl (.tup ces)) :=
  imp_e (pe_tup h) fun σ H Q ⟨env, s, r, G, g, e, h⟩ => by
    simp only [evE] at h
    refine rdg_bind g e h fun ds vs r1 G1 H1 s1 l1 g1 e1 hx h1 => ?_
    split at h1
    · rename_i hc
      exact ⟨by rw [hx.length]; exact cap_le hc, Nxt.tup h1 g1 hx⟩
    · exact h1.elim
theorem ge_lst (h : PA X es (tL X.K T W cl ces)) : PE X (.List es pos) (tE X.K T W cl (.lst ces)) :=
  imp_e (pe_lst h) fun σ H Q ⟨env, s, r, G, g, e, h⟩ => by
    simp only [evE] at h
    refine rdg_bind g e h fun ds vs r1 G1 H1 s1 l1 g1 e1 hx h1 => ?_
    split at h1
    · rename_i hc
      exact ⟨by rw [hx.length]; exact cap_le hc, Nxt.lst h1 g1 hx⟩
    · exact h1.elim
/-- a plain expression as a test -/
theorem gt_val {e : Expr} (h : PE X e (tE X.K T W cl ca)) (he : ∀ whole, isTrue e X.env whole = (do let v ← whole; standAt e.pos; holding [v] (truthy v))) : PT X e (tQ X.K T W cl ca) := pt_val h he
end
end T5

set_option Elab.async false
set_option linter.all false
set_option maxRecDepth 100000
set_option maxHeartbeats 1000000
/-! T5: subscripts, slices, built-ins, new lists of the store. -/
namespace T5
open PySem PySem.Spec L2
open Evl (Ex)

section
variable {K : PySem.W.Frag} {T : Tb} {α β γ δ : Type} {RR : List Addr → Hp → α → β → Prop} {RS : List Addr → Hp → γ → δ → Prop} {W : WX} {σ : St} {Q : β → Hp → Prop} {r r' : List Addr} {G G' H H' : Hp}
/-- as rdg_bind; what was evaluated is told -/
theorem rdg_bindE {env : Env} {s : Sto} {ev : Env → Sto → R γ} {f : γ → Sto → R α} {Q1 : δ → Hp → Prop} (g : Gd K T r G H s) (e : EnvR K T r G σ env) (h : Out K T RR W σ Q r G H ((ev env s).bind f))
    (k : ∀ x y r' G' H' s', ev env s = .ok x s' → Le r G H r' G' H' → Gd K T r' G' H' s' → EnvR K T r' G' σ env → RS r' G' x y → Out K T RR W σ Q r' G' H' (f x s') → Q1 y H') : Rdg K T RS W ev σ H Q1 := by
  refine ⟨env, s, r, G, g, e, ?_⟩
  cases hq : ev env s with
  | ok x s1 =>
    rw [hq] at h
    exact fun y r2 G2 H2 l2 g2 q => k x y r2 G2 H2 s1 hq l2 g2 (e.le l2) q (Out.le l2 h)
  | err c ds s1 =>
    rw [hq] at h
    exact h
  | bad =>
    rw [hq] at h
    exact h.elim
end

/-! ### new lists, ahead of their place -/
/-- what is wanted of a list that is new -/
def OutF (K : PySem.W.Frag) (T : Tb) (W : WX) (σ : St) (Q : VK) (r : List Addr) (G H : Hp) : R D → Prop
  | .ok (.lst ds) s => ∀ p xs r' G' H', Le r G H r' G' H' → Gd K T r' G' H' s → RpL K T r' G' ds xs → H' p = none → Q (.ref p) (upd H' p (.lst xs))
  | .err c ds s => ∀ cv dd r' G' H', Le r G H r' G' H' → Gd K T r' G' H' s → ErrR K T r' G' H' cv dd c ds → W cv dd σ H'
  | _ => False
def tF (K : PySem.W.Frag) (T : Tb) (W : WX) (cl : Calls) (c : CE) : TE :=
  fun σ H Q => ∃ env s r G, Gd K T r G H s ∧ EnvR K T r G σ env ∧ OutF K T W σ Q r G H (evE cl c env s)
/-- the evaluation comes to a list, if to anything -/
def Lists (cl : Calls) (c : CE) : Prop := ∀ env s d s', evE cl c env s = .ok d s' → ∃ ds, d = .lst ds
section
variable {X : Cx} {T : Tb} {W : WX} {cl : Calls} {e : Expr} {c : CE}
theorem ge_fresh (h : PE X e (tF X.K T W cl c)) (hl : Lists cl c) : PE X e (tE X.K T W cl c) :=
  imp_e h fun σ H Q ⟨env, s, r, G, g, ee, h⟩ => ⟨env, s, r, G, g, ee, by
    cases hq : evE cl c env s with
    | ok d s1 =>
      obtain ⟨ds, rfl⟩ := hl _ _ _ _ hq
      rw [hq] at h
      exact fun p xs r' G' H' l g' hx hp => Nxt.lst (r := r') (G := G') (s := s1) (fun w r2 G2 H2 l2 g2 q => h w r2 G2 H2 (l.trans l2) g2 q) g' hx p hp
    | err c ds s1 => rw [hq] at h; exact h
    | bad => rw [hq] at h; exact h⟩
theorem ge_box (h : PE X e (tF X.K T W cl c)) : PE X e (tE X.K T W cl (.box c)) :=
  imp_e h fun σ H Q ⟨env, s, r, G, g, ee, h⟩ => ⟨env, s, r, G, g, ee, by
    simp only [evE] at h
    cases hq : evE cl c env s with
    | ok d s1 =>
      rw [hq] at h
      cases d <;> first | exact h.elim | skip
      rename_i ds
      intro p xs r' G' H' l g' hx hp
      refine h (.ref p) (r' ++ [p]) G' (upd H' p (.lst xs)) (l.trans (le_box g' hp _)) (g'.box hp ⟨xs, rfl, hx⟩) ?_
      unfold Rp
      exact ⟨p, rfl, by rw [← g'.len]; simp⟩
    | err c ds s1 => rw [hq] at h; exact h
    | bad => rw [hq] at h; exact h⟩
end

section
variable {X : Cx} {T : Tb} {W : WX} {cl : Calls} {a b c : Expr} {ca cb cc : CE} {pos : Pos} {es : List Expr} {ces : CEs}
theorem outF_lift {K : PySem.W.Frag} {σ : St} {Q : VK} {r : List Addr} {G H : Hp} {o : Option D} {s : Sto} (h : OutF K T W σ Q r G H (lift o s)) :
    ∃ ds, o = some (.lst ds) ∧ ∀ p xs r' G' H', Le r G H r' G' H' → Gd K T r' G' H' s → RpL K T r' G' ds xs → H' p = none → Q (.ref p) (upd H' p (.lst xs)) := by
  cases o with
  | none => exact h.elim
  | some d =>
    cases d <;> first | exact h.elim | skip
    exact ⟨_, rfl, h⟩
theorem OutF.le {K : PySem.W.Frag} {σ : St} {Q : VK} {r r' : List Addr} {G G' H H' : Hp} {o : R D} (l : Le r G H r' G' H') (h : OutF K T W σ Q r G H o) : OutF K T W σ Q r' G' H' o := by
  cases o with
  | ok x s =>
    cases x <;> first | exact h | skip
    exact fun p xs r2 G2 H2 l2 g q hp => h p xs r2 G2 H2 (l.trans l2) g q hp
  | err c ds s => exact fun cv dd r2 G2 H2 l2 g q => h cv dd r2 G2 H2 (l.trans l2) g q
  | bad => exact h
theorem rdgF_bind {K : PySem.W.Frag} {γ δ : Type} {RS : List Addr → Hp → γ → δ → Prop} {σ : St} {Q : VK} {r : List Addr} {G H : Hp} {env : Env} {s : Sto} {ev : Env → Sto → R γ} {f : γ → Sto → R D} {Q1 : δ → Hp → Prop} (g : Gd K T r G H s) (e : EnvR K T r G σ env) (h : OutF K T W σ Q r G H ((ev env s).bind f))
    (k : ∀ x y r' G' H' s', ev env s = .ok x s' → Le r G H r' G' H' → Gd K T r' G' H' s' → EnvR K T r' G' σ env → RS r' G' x y → OutF K T W σ Q r' G' H' (f x s') → Q1 y H') : Rdg K T RS W ev σ H Q1 := by
  refine ⟨env, s, r, G, g, e, ?_⟩
  cases hq : ev env s with
  | ok x s1 =>
    rw [hq] at h
    exact fun y r2 G2 H2 l2 g2 q => k x y r2 G2 H2 s1 hq l2 g2 (e.le l2) q (OutF.le l2 h)
  | err c ds s1 =>
    rw [hq] at h
    exact h
  | bad =>
    rw [hq] at h
    exact h.elim
/-- [..] -/
theorem gf_lst (h : PA X es (tL X.K T W cl ces)) : PE X (.List es pos) (tF X.K T W cl (.lst ces)) :=
  imp_e (pe_lst h) fun σ H Q ⟨env, s, r, G, g, e, h⟩ => by
    simp only [evE] at h
    refine rdgF_bind g e h fun ds vs r1 G1 H1 s1 _ l1 g1 e1 hx h1 => ?_
    split at h1
    · rename_i hc
      exact ⟨by rw [hx.length]; exact cap_le hc, fun p hp => h1 p vs r1 G1 H1 Le.refl g1 hx hp⟩
    · exact h1.elim
/-- xs + ys, both lists -/
theorem gf_add (ha : PE X a (tE X.K T W cl ca)) (hb : PE X b (tE X.K T W cl cb)) : PE X (.BinOp a .Add b pos) (tF X.K T W cl (.bin .add ca cb)) :=
  imp_e (pe_op op_cat ha hb) fun σ H Q ⟨env, s, r, G, g, e, h⟩ => by
    simp only [evE] at h
    refine rdgF_bind g e h fun x v r1 G1 H1 s1 _ l1 g1 e1 hx h1 => rdgF_bind g1 e1 h1 fun y u r2 G2 H2 s2 _ l2 g2 e2 hy h2 => ?_
    obtain ⟨ds, hz, h3⟩ := outF_lift h2
    have hz : addD (rd s2 x) (rd s2 y) = some (.lst ds) := hz
    have rx := Rr.rd g2 (hx.le l2)
    have ry := Rr.rd g2 hy
    generalize rd s2 x = x' at hz rx
    generalize rd s2 y = y' at hz ry
    unfold addD at hz
    split at hz <;> first | (cases hz; done) | skip
    · split at hz <;> cases hz
    · split at hz
      · rename_i hc
        cases hz
        obtain ⟨p, xs, rfl, e3, e4⟩ := rr_lst rx
        obtain ⟨q, ys, rfl, e5, e6⟩ := rr_lst ry
        exact ⟨p, q, xs, ys, rfl, rfl, e3, e5, by rw [e4.length, e6.length]; exact cap_le hc, fun w hw => h3 w _ r2 G2 H2 Le.refl g2 (e4.append e6) hw⟩
      · cases hz

/-- xs * k, a list -/
theorem gf_mul (ha : PE X a (tE X.K T W cl ca)) (hb : PE X b (tE X.K T W cl cb)) : PE X (.BinOp a .Mult b pos) (tF X.K T W cl (.bin .mul ca cb)) :=
  imp_e (pe_op op_rep ha hb) fun σ H Q ⟨env, s, r, G, g, e, h⟩ => by
    simp only [evE] at h
    refine rdgF_bind g e h fun x v r1 G1 H1 s1 _ l1 g1 e1 hx h1 => rdgF_bind g1 e1 h1 fun y u r2 G2 H2 s2 _ l2 g2 e2 hy h2 => ?_
    obtain ⟨ds, hz, h3⟩ := outF_lift h2
    have hz : mulD (rd s2 x) (rd s2 y) = some (.lst ds) := hz
    have rx := Rr.rd g2 (hx.le l2)
    have ry := Rr.rd g2 hy
    generalize rd s2 x = x' at hz rx
    generalize rd s2 y = y' at hz ry
    unfold mulD at hz
    split at hz <;> first | (cases hz; done) | skip
    · split at hz <;> cases hz
    · split at hz <;> cases hz
    · rename_i a k
      split at hz
      · rename_i hc
        cases hz
        cases rr_int ry
        obtain ⟨p, xs, rfl, e3, e4⟩ := rr_lst rx
        simp only [Bool.and_eq_true, decide_eq_true_eq] at hc
        obtain ⟨⟨c1, c2⟩, c3⟩ := hc
        have c3' : a.length ≤ 1000 := Nat.le_of_ble_eq_true c3
        refine ⟨p, k, xs, rfl, rfl, e3, by omega, by omega, ?_, fun w hw => h3 w _ r2 G2 H2 Le.refl g2 (e4.rep _) hw⟩
        rw [e4.length]
        have : a.length * k.toNat ≤ 1000 * 1000 := Nat.mul_le_mul c3' (by omega)
        have : (1000 : Nat) * 1000 ≤ sizeLine := by decide
        omega
      · cases hz

/-! ### subscripts -/
theorem ix_ok {K : PySem.W.Frag} {r : List Addr} {G : Hp} {ds : List D} {xs : List V} {i : Int} {d : D} (h : RpL K T r G ds xs) (hi : ixD ds i = some d) : ∃ v, atI xs i = some v ∧ Rp K T r G d v := by
  unfold ixD at hi
  unfold atI
  rw [h.length]
  cases hj : ixN ds.length i with
  | none => rw [hj] at hi; cases hi
  | some j =>
    rw [hj] at hi
    exact h.get (show ds[j]? = some d from hi)
/-- o[i], o a list, a tuple, or a dict of the store -/
theorem ge_idx (hu : X.A.units + 1 < cLine) (ha : PE X a (tE X.K T W cl ca)) (hb : PE X b (tE X.K T W cl cb)) (hp : PlainIx b) : PE X (.Subscript a b pos) (tE X.K T W cl (.idx ca cb)) :=
  imp_e (or_e (pe_ix ix_tup ha hb hp) (or_e (pe_ix ix_list ha hb hp) (pe_dget hu ha hb hp))) fun σ H Q ⟨env, s, r, G, g, e, h⟩ => by
    simp only [evE] at h
    cases hq : evE cl ca env s with
    | bad => rw [hq] at h; exact h.elim
    | err c ds s1 =>
      rw [hq] at h
      exact .inl ⟨env, s, r, G, g, e, by rw [hq]; exact h⟩
    | ok x s1 =>
      have hx0 := hq
      cases x with
      | tup ds =>
        refine .inl (rdg_bindE g e h fun x v r1 G1 H1 s1' ex l1 g1 e1 hx h1 => rdg_bindE g1 e1 h1 fun y u r2 G2 H2 s2 _ l2 g2 e2 hy h2 => ?_)
        rw [hx0] at ex
        cases ex
        obtain ⟨z, hz, h3⟩ := out_lift h2
        cases y <;> first | (cases (show none = some z from hz); done) | skip
        cases rp_int hy
        obtain ⟨p, xs, rfl, k1, k2⟩ := rp_tup (hx.le l2)
        obtain ⟨w, k3, k4⟩ := ix_ok k2 (show ixD ds _ = some z from hz)
        exact ⟨p, xs, _, w, rfl, rfl, SqT.of (g2.sub _ _ k1), k3, h3.here g2 k4⟩
      | lst ds =>
        refine .inr (.inl (rdg_bindE g e h fun x v r1 G1 H1 s1' ex l1 g1 e1 hx h1 => rdg_bindE g1 e1 h1 fun y u r2 G2 H2 s2 _ l2 g2 e2 hy h2 => ?_))
        rw [hx0] at ex
        cases ex
        obtain ⟨z, hz, h3⟩ := out_lift h2
        cases y <;> first | (cases (show none = some z from hz); done) | skip
        cases rp_int hy
        obtain ⟨p, xs, rfl, k1, k2⟩ := rr_lst (Rr.of g2 (hx.le l2))
        obtain ⟨w, k3, k4⟩ := ix_ok k2 (show ixD ds _ = some z from hz)
        exact ⟨p, xs, _, w, rfl, rfl, SqL.of k1, k3, h3.here g2 k4⟩
      | scr ds =>
        refine .inr (.inl (rdg_bindE g e h fun x v r1 G1 H1 s1' ex l1 g1 e1 hx h1 => rdg_bindE g1 e1 h1 fun y u r2 G2 H2 s2 _ l2 g2 e2 hy h2 => ?_))
        rw [hx0] at ex
        cases ex
        obtain ⟨z, hz, h3⟩ := out_lift h2
        cases y <;> first | (cases (show none = some z from hz); done) | skip
        cases rp_int hy
        obtain ⟨p, xs, rfl, k1, k2⟩ := rp_scr (hx.le l2)
        obtain ⟨w, k3, k4⟩ := ix_ok k2 (show ixD ds _ = some z from hz)
        exact ⟨p, xs, _, w, rfl, rfl, Evl.ex_l g2.exH k1, k3, h3.here g2 k4⟩
      | loc n =>
        -- what the place holds behind the index
        cases hqb : evE cl cb env s1 with
        | bad => rw [hq] at h; have h' : Out X.K T (Rp X.K T) W σ Q r G H ((evE cl cb env s1).bind _) := h; rw [hqb] at h'; exact h'.elim
        | err c ds s2 =>
          refine .inl (rdg_bindE g e h fun x v r1 G1 H1 s1' ex l1 g1 e1 hx h1 => ?_)
          rw [hx0] at ex
          cases ex
          refine ⟨env, s1, r1, G1, g1, e1, ?_⟩
          rw [hqb] at h1 ⊢
          exact h1
        | ok y s2 =>
          cases hs : s2[n]? with
          | none =>
            refine .inl (rdg_bindE g e h fun x v r1 G1 H1 s1' ex l1 g1 e1 hx h1 => rdg_bindE g1 e1 h1 fun y' u r2 G2 H2 s2' ey l2 g2 e2 hy h2 => ?_)
            rw [hx0] at ex
            cases ex
            rw [hqb] at ey
            cases ey
            obtain ⟨z, hz, h3⟩ := out_lift h2
            simp only [T5.getD, hs] at hz
            cases hz
          | some so =>
            cases so with
            | lst ds =>
              refine .inr (.inl (rdg_bindE g e h fun x v r1 G1 H1 s1' ex l1 g1 e1 hx h1 => rdg_bindE g1 e1 h1 fun y' u r2 G2 H2 s2' ey l2 g2 e2 hy h2 => ?_))
              rw [hx0] at ex
              cases ex
              rw [hqb] at ey
              cases ey
              obtain ⟨z, hz, h3⟩ := out_lift h2
              simp only [T5.getD, hs] at hz
              cases y <;> first | (cases (show none = some z from hz); done) | skip
              cases rp_int hy
              have hx2 := hx.le l2
              unfold Rp at hx2
              obtain ⟨p, rfl, k0⟩ := hx2
              obtain ⟨xs, k1, k2⟩ := g2.obj n p _ k0 hs
              obtain ⟨w, k3, k4⟩ := ix_ok k2 (show ixD ds _ = some z from hz)
              exact ⟨p, xs, _, w, rfl, rfl, SqL.of k1, k3, h3.here g2 k4⟩
            | dic kvs =>
              refine .inr (.inr (rdg_bindE g e h fun x v r1 G1 H1 s1' ex l1 g1 e1 hx h1 => rdg_bindE g1 e1 h1 fun y' u r2 G2 H2 s2' ey l2 g2 e2 hy h2 => ?_))
              rw [hx0] at ex
              cases ex
              rw [hqb] at ey
              cases ey
              obtain ⟨z, hz, h3⟩ := out_lift h2
              simp only [T5.getD, hs] at hz
              have hx2 := hx.le l2
              unfold Rp at hx2
              obtain ⟨p, rfl, k0⟩ := hx2
              obtain ⟨ws, k1, k2, _⟩ := g2.obj n p _ k0 hs
              cases hk : keyOf y with
              | none => rw [hk] at hz; cases hz
              | some k =>
                rw [hk] at hz
                have hz : look k kvs = some z := hz
                have hkv : u = kV k := by
                  unfold keyOf at hk
                  split at hk <;> first | (cases hk; done) | skip
                  · cases hk; exact rp_int hy
                  · cases hk; unfold Rp at hy; exact hy
                have hl : ∀ (l : List (L2.Key × D)) (ws : List (L2.Key × V)), KvR X.K T r2 G2 l ws → look k l = some z → ∃ w, valV ws k = some w ∧ Rp X.K T r2 G2 z w := by
                  intro l
                  induction l with
                  | nil => intro ws _ hz; cases hz
                  | cons q l ih =>
                    intro ws hw hz
                    obtain ⟨q', t, rfl, j1, j2, j3⟩ := hw
                    unfold look at hz
                    by_cases hqk : q.1 = k
                    · rw [if_pos (decide_eq_true hqk)] at hz
                      cases hz
                      refine ⟨q'.2, ?_, j2⟩
                      unfold valV
                      rw [List.find?_cons_of_pos (by rw [j1]; exact decide_eq_true hqk)]
                      rfl
                    · rw [if_neg (by rw [decide_eq_false hqk]; decide)] at hz
                      obtain ⟨w, m1, m2⟩ := ih t j3 hz
                      refine ⟨w, ?_, m2⟩
                      unfold valV at m1 ⊢
                      rw [List.find?_cons_of_neg (by rw [j1, decide_eq_false hqk]; decide)]
                      exact m1
                obtain ⟨w, m1, m2⟩ := hl kvs ws k2 hz
                exact ⟨p, w, rfl, .inl ⟨ws, k, .inl k1, hkv, m1.symm⟩, h3.here g2 m2⟩
      | _ =>
        refine .inl (rdg_bindE g e h fun x v r1 G1 H1 s1' ex l1 g1 e1 hx h1 => rdg_bindE g1 e1 h1 fun y u r2 G2 H2 s2 _ l2 g2 e2 hy h2 => ?_)
        rw [hx0] at ex
        cases ex
        obtain ⟨z, hz, h3⟩ := out_lift h2
        cases (show none = some z from hz)
end
end T5

set_option Elab.async false
set_option linter.all false
set_option maxRecDepth 100000
set_option maxHeartbeats 1000000
/-! T5: slices, built-ins. -/
namespace T5
open PySem PySem.Spec L2
open Evl (Ex)

section
variable {K : PySem.W.Frag} {T : Tb} {r : List Addr} {G H : Hp} {s : Sto}
theorem RpL.cutV {ds : List D} {xs : List V} (h : RpL K T r G ds xs) (lo hi : Option Int) : RpL K T r G (cutD ds lo hi) (L2.cutV xs lo hi) := by
  unfold cutD L2.cutV
  rw [h.length]
  exact (h.drop _).take _
/-- lists of values read -/
def RrL (K : PySem.W.Frag) (T : Tb) (r : List Addr) (G H : Hp) : List D → List V → Prop
  | [], vs => vs = []
  | d :: ds, vs => ∃ v t, vs = v :: t ∧ Rr K T r G H d v ∧ RrL K T r G H ds t
theorem RrL.of (g : Gd K T r G H s) : ∀ {ds : List D} {vs : List V}, RpL K T r G ds vs → RrL K T r G H (ds.map (rd s)) vs
  | [], vs, h => h.nil_inv
  | d :: ds, vs, h => by
    obtain ⟨v, t, rfl, h1, h2⟩ := h.cons_inv
    exact ⟨v, t, rfl, Rr.rd g h1, RrL.of g h2⟩
theorem RrL.one {d : D} {vs : List V} (h : RrL K T r G H [d] vs) : ∃ v, vs = [v] ∧ Rr K T r G H d v := by
  obtain ⟨v, t, rfl, h1, h2⟩ := h
  have h2 : t = [] := h2
  subst h2
  exact ⟨v, rfl, h1⟩
theorem RrL.two {d e : D} {vs : List V} (h : RrL K T r G H [d, e] vs) : ∃ v u, vs = [v, u] ∧ Rr K T r G H d v ∧ Rr K T r G H e u := by
  obtain ⟨v, t, rfl, h1, h2⟩ := h
  obtain ⟨u, rfl, h3⟩ := RrL.one h2
  exact ⟨v, u, rfl, h1, h3⟩
theorem rr_scr {ds : List D} {v : V} (g : Gd K T r G H s) (h : Rr K T r G H (.scr ds) v) : ∃ a xs, v = .ref a ∧ SqL K H a xs ∧ RpL K T r G ds xs := by
  obtain ⟨a, xs, e1, e2, e3⟩ := rp_scr (show Rp K T r G (.scr ds) v from h)
  exact ⟨a, xs, e1, Evl.ex_l g.exH e2, e3⟩
end

section
variable {X : Cx} {T : Tb} {W : WX} {cl : Calls} {a b c : Expr} {ca cb cc c' : CE} {pos p0 p2 : Pos} {es : List Expr} {ces : CEs}
def rSlA2 (K : PySem.W.Frag) : V → Option Int → Option Int → Hp → VK → Prop := fun x lo hi H Q => rSlL K x lo hi H Q ∨ rSlA K x lo hi H Q
theorem sl_both : SlR X (rSlA2 X.K) := fun pins s σ H x v vl vu lo hi sl Q I rx hs p1 p2 q => q.elim (sl_list pins s σ H x v vl vu lo hi sl Q I rx hs p1 p2) (sl_tupA pins s σ H x v vl vu lo hi sl Q I rx hs p1 p2)
/-- the reading of a part of a slice -/
def OutP (K : PySem.W.Frag) (T : Tb) (W : WX) (σ : St) (Q : Option Int → Hp → Prop) (r : List Addr) (G H : Hp) : R D → Prop
  | .ok d s => ∃ o, partD d = some o ∧ ∀ r' G' H', Le r G H r' G' H' → Gd K T r' G' H' s → Q o H'
  | .err c ds s => ∀ cv dd r' G' H', Le r G H r' G' H' → Gd K T r' G' H' s → ErrR K T r' G' H' cv dd c ds → W cv dd σ H'
  | .bad => False
def tP (K : PySem.W.Frag) (T : Tb) (W : WX) (cl : Calls) (c : CE) : TO := fun σ H Q => ∃ env s r G, Gd K T r G H s ∧ EnvR K T r G σ env ∧ OutP K T W σ Q r G H (evE cl c env s)
theorem gp_none : PO X none (tP X.K T W cl (.con .non)) := ⟨fun pins s σ H Q I q => (po_none (X := X)).run pins s σ H Q I (by
  obtain ⟨env, s, r, G, g, e, o, h1, h2⟩ := q
  cases h1
  exact h2 r G H Le.refl g)⟩
theorem gp_some {e : Expr} (h : PE X e (tE X.K T W cl c')) : PO X (some e) (tP X.K T W cl (.asInt c')) := ⟨fun pins s σ H Q I q => (po_some h).run pins s σ H Q I (by
  obtain ⟨env, s, r, G, g, e, q⟩ := q
  refine ⟨env, s, r, G, g, e, ?_⟩
  simp only [evE] at q
  cases hq : evE cl c' env s with
  | ok x s1 =>
    rw [hq] at q
    cases x <;> first | exact q.elim | skip
    rename_i i
    obtain ⟨o, h1, h2⟩ := q
    cases h1
    intro y r' G' H' l g' hy
    cases rp_int hy
    exact ⟨i, rfl, h2 r' G' H' l g'⟩
  | err c ds s1 => rw [hq] at q; exact q
  | bad => rw [hq] at q; exact q.elim)⟩
theorem rdgP_bind {K : PySem.W.Frag} {α β : Type} {RR : List Addr → Hp → α → β → Prop} {σ : St} {Q : β → Hp → Prop} {r : List Addr} {G H : Hp} {env : Env} {s : Sto} {f : Option Int → Sto → R α} {Q1 : Option Int → Hp → Prop} (g : Gd K T r G H s) (e : EnvR K T r G σ env)
    (h : Out K T RR W σ Q r G H ((evE cl c' env s).bind fun l s2 => (match partD l with | some l' => f l' s2 | none => .bad)))
    (k : ∀ o r' G' H' s', Le r G H r' G' H' → Gd K T r' G' H' s' → EnvR K T r' G' σ env → Out K T RR W σ Q r' G' H' (f o s') → Q1 o H') : tP K T W cl c' σ H Q1 := by
  refine ⟨env, s, r, G, g, e, ?_⟩
  cases hq : evE cl c' env s with
  | ok x s1 =>
    rw [hq] at h
    have h : Out K T RR W σ Q r G H (match partD x with | some l' => f l' s1 | none => .bad) := h
    cases hp : partD x with
    | none => rw [hp] at h; exact h.elim
    | some o =>
      rw [hp] at h
      exact ⟨o, hp, fun r2 G2 H2 l2 g2 => k o r2 G2 H2 s1 l2 g2 (e.le l2) (Out.le l2 h)⟩
  | err c ds s1 => rw [hq] at h; exact h
  | bad => rw [hq] at h; exact h.elim
theorem slc_ok {K : PySem.W.Frag} {r : List Addr} {G H : Hp} {s : Sto} {l h : Option Int} {x z : D} {v : V} {Q : VK} (g : Gd K T r G H s) (hx : Rr K T r G H x v) (hz : slcD l h x = some z) (n : Nxt K T Q r G H s z) : rSlA2 K v l h H Q := by
  unfold slcD at hz
  split at hz <;> first | (cases hz; done) | skip
  · cases hz
    obtain ⟨p, xs, rfl, e1, e2⟩ := rr_lst hx
    exact .inl ⟨p, xs, rfl, SqL.of e1, n.lst g (e2.cutV l h)⟩
  · cases hz
    obtain ⟨p, xs, rfl, e1, e2⟩ := rr_scr g hx
    exact .inl ⟨p, xs, rfl, e1, n.lst g (e2.cutV l h)⟩
  · rename_i ds
    cases hz
    obtain ⟨p, xs, rfl, e1, e1', e2⟩ := rr_tup g hx
    refine .inr ⟨p, xs, rfl, e1, fun ⟨k1, k2⟩ => n.here g (of_tup e1' ?_), fun _ => n.tup g (e2.cutV l h)⟩
    have hc := e2.cutV l h
    have : L2.cutV xs l h = xs := by
      unfold L2.cutV
      rw [k1, k2]
      simp
    rw [this] at hc
    exact hc
theorem ge_slc {lo hi : Option Expr} {cl' ch' : CE} (ha : PE X a (tE X.K T W cl ca)) (hl : PO X lo (tP X.K T W cl cl')) (hh : PO X hi (tP X.K T W cl ch')) : PE X (.Subscript a (.Slice lo hi none p2) pos) (tE X.K T W cl (.slc ca cl' ch')) :=
  imp_e (pe_slice sl_both ha hl hh) fun σ H Q ⟨env, s, r, G, g, e, h⟩ => by
    simp only [evE] at h
    refine rdg_bind g e h fun x v r1 G1 H1 s1 l1 g1 e1 hx h1 => rdgP_bind g1 e1 h1 fun l r2 G2 H2 s2 l2 g2 e2 h2 => rdgP_bind g2 e2 h2 fun h' r3 G3 H3 s3 l3 g3 e3 h3 => ?_
    obtain ⟨z, hz, h4⟩ := out_lift h3
    exact slc_ok g3 (Rr.rd g3 (hx.le (l2.trans l3))) hz h4

/-! ### built-ins -/
theorem ge_bi {e : Expr} {bb : Bi} {q : List V → Hp → VK → Prop} (h : PE X e (tCB q (tL X.K T W cl ces)))
    (k : ∀ {r : List Addr} {G H : Hp} {s : Sto} {ds : List D} {vs : List V} {z : D} {Q : VK}, Gd X.K T r G H s → RrL X.K T r G H ds vs → biD bb ds = some z → Nxt X.K T Q r G H s z → q vs H Q) : PE X e (tE X.K T W cl (.bi bb ces)) :=
  imp_e h fun σ H Q ⟨env, s, r, G, g, e, h⟩ => by
    simp only [evE] at h
    refine rdg_bind g e h fun ds vs r1 G1 H1 s1 l1 g1 e1 hx h1 => ?_
    obtain ⟨z, hz, h3⟩ := out_lift h1
    exact k g1 (RrL.of g1 hx) hz h3
end

section
variable {K : PySem.W.Frag} {T : Tb} {r : List Addr} {G H : Hp} {s : Sto} {ds : List D} {vs : List V} {z : D} {Q : VK}
def rLenA (K : PySem.W.Frag) : List V → Hp → VK → Prop := fun xs H Q => ∃ p ys, xs = [.ref p] ∧ (SqL K H p ys ∨ SqT K H p ys) ∧ Q (.int ys.length) H
theorem bi_len (g : Gd K T r G H s) (h : RrL K T r G H ds vs) (hz : lenD ds = some z) (n : Nxt K T Q r G H s z) : rLenA K vs H Q := by
  unfold lenD at hz
  split at hz <;> first | (cases hz; done) | skip
  · cases hz
    obtain ⟨v, rfl, h1⟩ := h.one
    obtain ⟨p, xs, rfl, e1, e1', e2⟩ := rr_tup g h1
    exact ⟨p, xs, rfl, .inr e1, by rw [e2.length]; exact n.here g (of_int _)⟩
  · cases hz
    obtain ⟨v, rfl, h1⟩ := h.one
    obtain ⟨p, xs, rfl, e1, e2⟩ := rr_lst h1
    exact ⟨p, xs, rfl, .inl (SqL.of e1), by rw [e2.length]; exact n.here g (of_int _)⟩
  · cases hz
    obtain ⟨v, rfl, h1⟩ := h.one
    obtain ⟨p, xs, rfl, e1, e2⟩ := rr_scr g h1
    exact ⟨p, xs, rfl, .inl e1, by rw [e2.length]; exact n.here g (of_int _)⟩
def rIntB : List V → Hp → VK → Prop := fun xs H Q => (∃ i, xs = [.int i] ∧ Q (.int i) H) ∨ ∃ k, xs = [.bl k] ∧ Q (.int (if k then 1 else 0)) H
theorem bi_int (g : Gd K T r G H s) (h : RrL K T r G H ds vs) (hz : intB ds = some z) (n : Nxt K T Q r G H s z) : rIntB vs H Q := by
  unfold intB at hz
  split at hz <;> first | (cases hz; done) | skip
  · cases hz
    obtain ⟨v, rfl, h1⟩ := h.one
    cases rr_int h1
    exact .inl ⟨_, rfl, n.here g (of_int _)⟩
  · cases hz
    obtain ⟨v, rfl, h1⟩ := h.one
    cases rp_bl (show Rp K T r G (.bl _) v from h1)
    exact .inr ⟨_, rfl, n.here g (of_int _)⟩
def rListB (K : PySem.W.Frag) : List V → Hp → VK → Prop := fun xs H Q => ∃ p ys, xs = [.ref p] ∧ (SqL K H p ys ∨ SqT K H p ys) ∧ ∀ l, H l = none → Q (.ref l) (upd H l (.lst ys))
theorem bi_list (g : Gd K T r G H s) (h : RrL K T r G H ds vs) (hz : listB ds = some z) (n : Nxt K T Q r G H s z) : rListB K vs H Q := by
  unfold listB at hz
  split at hz <;> first | (cases hz; done) | skip
  · cases hz
    obtain ⟨v, rfl, h1⟩ := h.one
    obtain ⟨p, xs, rfl, e1, e2⟩ := rr_lst h1
    exact ⟨p, xs, rfl, .inl (SqL.of e1), n.lst g e2⟩
  · cases hz
    obtain ⟨v, rfl, h1⟩ := h.one
    obtain ⟨p, xs, rfl, e1, e1', e2⟩ := rr_tup g h1
    exact ⟨p, xs, rfl, .inr e1, n.lst g e2⟩
  · cases hz
    obtain ⟨v, rfl, h1⟩ := h.one
    obtain ⟨p, xs, rfl, e1, e2⟩ := rr_scr g h1
    exact ⟨p, xs, rfl, .inl e1, n.lst g e2⟩
def rTupB (K : PySem.W.Frag) : List V → Hp → VK → Prop := fun xs H Q => ∃ p ys, xs = [.ref p] ∧ ((SqL K H p ys ∧ ∀ l, H l = none → Q (.ref l) (upd H l (.tup ys))) ∨ (SqT K H p ys ∧ Q (.ref p) H))
theorem bi_tup (g : Gd K T r G H s) (h : RrL K T r G H ds vs) (hz : tupB ds = some z) (n : Nxt K T Q r G H s z) : rTupB K vs H Q := by
  unfold tupB at hz
  split at hz <;> first | (cases hz; done) | skip
  · cases hz
    obtain ⟨v, rfl, h1⟩ := h.one
    obtain ⟨p, xs, rfl, e1, e2⟩ := rr_lst h1
    exact ⟨p, xs, rfl, .inl ⟨SqL.of e1, n.tup g e2⟩⟩
  · cases hz
    obtain ⟨v, rfl, h1⟩ := h.one
    obtain ⟨p, xs, rfl, e1, e1', e2⟩ := rr_tup g h1
    exact ⟨p, xs, rfl, .inr ⟨e1, n.here g (of_tup e1' e2)⟩⟩
theorem ints_ok : ∀ {ds : List D} {ns : List Int} {xs : List V}, intsOf ds = some ns → RpL K T r G ds xs → xs = ns.map V.int
  | [], ns, xs, h, k => by
    unfold intsOf at h
    cases h
    exact k.nil_inv
  | d :: ds, ns, xs, h, k => by
    obtain ⟨v, t, rfl, k1, k2⟩ := k.cons_inv
    cases d <;> first | (simp [intsOf] at h; done) | skip
    rename_i i
    unfold intsOf at h
    cases hq : intsOf ds with
    | none => rw [hq] at h; cases h
    | some ms =>
      rw [hq] at h
      cases h
      rw [rp_int k1, ints_ok hq k2]
      rfl
theorem of_ints : ∀ (ns : List Int), RpL K T r G (ns.map ofI) (ns.map V.int)
  | [] => .nil
  | i :: ns => .cons (of_int i) (of_ints ns)
/-! sorting ints -/
theorem insI_perm (x : Int) : ∀ l : List Int, (insI x l).Perm (x :: l)
  | [] => .refl _
  | y :: l => by
    unfold insI
    split
    · exact .refl _
    · exact ((insI_perm x l).cons y).trans (.swap x y l)
theorem srtI_perm : ∀ l : List Int, (srtI l).Perm l
  | [] => .refl _
  | x :: l => (insI_perm x (srtI l)).trans ((srtI_perm l).cons x)
theorem insI_sorted (x : Int) : ∀ l : List Int, l.Pairwise (· ≤ ·) → (insI x l).Pairwise (· ≤ ·)
  | [], _ => by simp [insI]
  | y :: l, h => by
    unfold insI
    have h' := List.pairwise_cons.mp h
    split
    · rename_i hxy
      refine List.pairwise_cons.mpr ⟨fun z hz => ?_, h⟩
      rcases List.mem_cons.mp hz with rfl | hz
      · exact hxy
      · exact Int.le_trans hxy (h'.1 z hz)
    · rename_i hxy
      refine List.pairwise_cons.mpr ⟨fun z hz => ?_, insI_sorted x l h'.2⟩
      rcases List.mem_cons.mp ((insI_perm x l).mem_iff.mp hz) with rfl | hz
      · omega
      · exact h'.1 z hz
theorem srtI_sorted : ∀ l : List Int, (srtI l).Pairwise (· ≤ ·)
  | [] => List.Pairwise.nil
  | x :: l => insI_sorted x _ (srtI_sorted l)
theorem sorted_eq {a b : List Int} (p : a.Perm b) (ha : a.Pairwise (· ≤ ·)) (hb : b.Pairwise (· ≤ ·)) : a = b := p.eq_of_pairwise (fun x y _ _ h1 h2 => Int.le_antisymm h1 h2) ha hb
end
end T5

set_option Elab.async false
set_option linter.all false
set_option maxRecDepth 100000
set_option maxHeartbeats 4000000
/-! T5: rules of our own: sum of a tuple of ints; len(set(..)) of a list of ints. -/
namespace T5
open PySem PySem.Spec PyProof.Rows L2
section
variable {X : Cx}
def rSumT (K : PySem.W.Frag) : List V → Hp → VK → Prop := fun vs H Q => ∃ (a : Addr) (ns : List Int), vs = [V.ref a] ∧ SqT K H a (ns.map V.int) ∧ Q (.int ns.sum) H
theorem call_sumT (hc : X.calm = true) : CallR X (.builtin "sum") (rSumT X.K) := by
  intro pins s σ H xs us Q I rx h
  obtain ⟨a, ns, rfl, hT, q⟩ := h
  cases rx with
  | cons ra rt =>
    cases rt
    cases ra
    obtain ⟨its, rv, ⟨o, ho, hcl, n, hd⟩, hz⟩ := I.tuple hT
    have hi : IntsAre its ns := RZ.intsAre_vals rv
    obtain ⟨ys, e⟩ := hi.allInts.items
    have hn : numsOf (intItems ys).toList = ns := by
      rw [← e]
      exact hi.numsOf
    rw [nums_intItems] at hn
    have ht : s.heap.IsTuple a (intItems ys) := by
      rw [← e]
      exact ⟨o, ho, hcl, n, hd⟩
    refine PySem.W.ktm_sumG (I.ok.hd hc) ht fun h' tk t' hk => ?_
    rw [preSum_eq, List.take_of_length_le (by simp), hn]
    exact ⟨.int ns.sum, H, I.un (Un.kept hk) (I.hok.kept hk), ⟨t', rfl⟩, q⟩
/-- how many unlike ones -/
def tLenSetA (K : PySem.W.Frag) (ta : TE) : TE := fun σ H Q => ta σ H fun x H1 => ∃ (l : Addr) (ns : List Int), x = .ref l ∧ SqL K H1 l (ns.map V.int) ∧ ns.length ≤ 4000 ∧ Q (.int (PyProof.Rows.firstMet (fun i => ns.getD i 0) ns.length).length) H1
theorem pe_lenSetA {a : Expr} {ta : TE} {p p2 q pos : Pos} (hg : Gl X "len") (hm : X.mg "len" = none) (hg2 : Gl X "set") (hm2 : X.mg "set" = none) (ha : PE X a ta) (hc : X.calm = true)
    (na : starEach [a] X.env = (false, eval a X.env) :: starEach [] X.env) : PE X (.Call (.Name "len" p) [.Call (.Name "set" p2) [a] [] q] [] pos) (tLenSetA X.K ta) := ⟨fun pins s σ H Q I h => by
  refine Call_ (ld_blt I hg hm boot_len (callWith_builtin1 (args_cons ?_ rfl) rfl rfl))
  refine Call_ (ld_blt I hg2 hm2 boot_set (callWith_type1 (args_cons (thn (ha.run pins s σ H _ I h) fun v s1 ⟨x, H1, I1, r1, q1⟩ => args_nil ?_) na) na rfl))
  obtain ⟨l, ns, rfl, hq, hl, q1⟩ := q1
  cases r1
  obtain ⟨its, r, pl, hz⟩ := I1.list hq
  have hlen : its.toArray.size = ns.length := by rw [List.size_toArray, ← r.length, List.length_map]
  refine call_set_list (I1.ok.hd hc) pl.isList (by simpa using RZ.intsAre_vals r) (by rw [hlen]; unfold scanBound; omega) fun h' tk hS hk => args_nil ?_
  rw [hlen] at hS
  obtain ⟨o, es, ep, t, ho, hex, hd, _, _, _, hf, hn⟩ := hS
  have I2 : L2.Inv X pins σ H1 { s1 with heap := h', toks := tk } := I1.kept fun b o e => hk b o (Heap.lt_size e) e
  have hb := firstMet_length_le (fun i => ns.getD i 0) ns.length
  exact call_len_set ho hex hd hf (by rw [hn]; omega) ⟨.int _, H1, I2.tok _, ⟨_, by rw [hn]⟩, q1⟩⟩
end
end T5

set_option Elab.async false
set_option linter.all false
set_option maxRecDepth 100000
set_option maxHeartbeats 1000000
/-! T5: sums, sorting, repr, isinstance. -/
namespace T5
open PySem PySem.Spec L2
open Evl (Ex)
section
variable {K : PySem.W.Frag} {T : Tb} {r : List Addr} {G H : Hp} {s : Sto} {ds : List D} {vs : List V} {z : D} {Q : VK}
theorem sum_ok : ∀ {ds : List D} {n : Int} {xs : List V}, sumD ds = some n → RpL K T r G ds xs → ∃ ns : List Int, xs = ns.map V.int ∧ ns.sum = n
  | [], n, xs, h, k => by
    unfold sumD at h
    cases h
    exact ⟨[], k.nil_inv, rfl⟩
  | d :: ds, n, xs, h, k => by
    obtain ⟨v, t, rfl, k1, k2⟩ := k.cons_inv
    cases d <;> first | (simp [sumD] at h; done) | skip
    rename_i i
    unfold sumD at h
    cases hq : sumD ds with
    | none => rw [hq] at h; cases h
    | some m =>
      rw [hq] at h
      cases h
      obtain ⟨ns, e1, e2⟩ := sum_ok hq k2
      exact ⟨i :: ns, by rw [rp_int k1, e1]; rfl, by rw [List.sum_cons, e2]⟩
def rSumA (K : PySem.W.Frag) : List V → Hp → VK → Prop := fun xs H Q => rSum K xs H Q ∨ rSumT K xs H Q
theorem bi_sum (g : Gd K T r G H s) (h : RrL K T r G H ds vs) (hz : sumB ds = some z) (n : Nxt K T Q r G H s z) : rSumA K vs H Q := by
  unfold sumB at hz
  split at hz <;> first | (cases hz; done) | skip
  · rename_i ds
    cases hq : sumD ds with
    | none => rw [hq] at hz; cases hz
    | some m =>
      rw [hq] at hz
      cases hz
      obtain ⟨v, rfl, h1⟩ := h.one
      obtain ⟨p, xs, rfl, e1, e1', e2⟩ := rr_tup g h1
      obtain ⟨ns, rfl, e3⟩ := sum_ok hq e2
      exact .inr ⟨p, ns, rfl, e1, by rw [e3]; exact n.here g (of_int _)⟩
  · rename_i ds
    cases hq : sumD ds with
    | none => rw [hq] at hz; cases hz
    | some m =>
      rw [hq] at hz
      cases hz
      obtain ⟨v, rfl, h1⟩ := h.one
      obtain ⟨p, xs, rfl, e1, e2⟩ := rr_lst h1
      obtain ⟨ns, rfl, e3⟩ := sum_ok hq e2
      exact .inl ⟨p, ns, rfl, SqL.of e1, by rw [e3]; exact n.here g (of_int _)⟩

/-! ### sorting pairs -/
theorem leP_total (a b : Int × Int) : leP a b = true ∨ leP b a = true := by
  unfold leP
  simp only [Bool.or_eq_true, Bool.and_eq_true, decide_eq_true_eq, beq_iff_eq]
  omega
theorem leP_trans {a b c : Int × Int} (h1 : leP a b = true) (h2 : leP b c = true) : leP a c = true := by
  unfold leP at *
  simp only [Bool.or_eq_true, Bool.and_eq_true, decide_eq_true_eq, beq_iff_eq] at *
  omega
theorem leP_anti {a b : Int × Int} (h1 : leP a b = true) (h2 : leP b a = true) : a = b := by
  unfold leP at *
  simp only [Bool.or_eq_true, Bool.and_eq_true, decide_eq_true_eq, beq_iff_eq] at *
  have e1 : a.1 = b.1 := by omega
  have e2 : a.2 = b.2 := by omega
  exact Prod.ext e1 e2
theorem insP_perm (x : Int × Int) : ∀ l : List (Int × Int), (insP x l).Perm (x :: l)
  | [] => .refl _
  | y :: l => by
    unfold insP
    split
    · exact .refl _
    · exact ((insP_perm x l).cons y).trans (.swap x y l)
theorem srtP_perm : ∀ l : List (Int × Int), (srtP l).Perm l
  | [] => .refl _
  | x :: l => (insP_perm x (srtP l)).trans ((srtP_perm l).cons x)
theorem insP_sorted (x : Int × Int) : ∀ l : List (Int × Int), l.Pairwise (fun a b => leP a b = true) → (insP x l).Pairwise (fun a b => leP a b = true)
  | [], _ => by simp [insP]
  | y :: l, h => by
    unfold insP
    have h' := List.pairwise_cons.mp h
    split
    · rename_i hxy
      refine List.pairwise_cons.mpr ⟨fun z hz => ?_, h⟩
      rcases List.mem_cons.mp hz with rfl | hz
      · exact hxy
      · exact leP_trans hxy (h'.1 z hz)
    · rename_i hxy
      refine List.pairwise_cons.mpr ⟨fun z hz => ?_, insP_sorted x l h'.2⟩
      rcases List.mem_cons.mp ((insP_perm x l).mem_iff.mp hz) with rfl | hz
      · exact (leP_total _ _).resolve_left hxy
      · exact h'.1 z hz
theorem srtP_sorted : ∀ l : List (Int × Int), (srtP l).Pairwise (fun a b => leP a b = true)
  | [] => List.Pairwise.nil
  | x :: l => insP_sorted x _ (srtP_sorted l)
theorem prs_ok : ∀ {ds : List D} {ps : List (Int × Int)} {xs : List V}, prs ds = some ps → RpL K T r G ds xs → ds = ps.map ofP
  | [], ps, xs, h, k => by
    unfold prs at h
    cases h
    rfl
  | d :: ds, ps, xs, h, k => by
    obtain ⟨v, t, rfl, k1, k2⟩ := k.cons_inv
    unfold prs at h
    split at h <;> first | (cases h; done) | skip
    · rename_i heq
      cases heq
    · rename_i i j r' heq
      cases heq
      cases hq : prs ds with
      | none => rw [hq] at h; cases h
      | some qs =>
        rw [hq] at h
        cases h
        rw [prs_ok hq k2]
        rfl
/-- the pair that a value is -/
def keyV (H : Hp) (x : V) : Int × Int :=
  match x with
  | .ref t => (match H t with
    | some (.tup [.int i, .int j]) => (i, j)
    | _ => (0, 0))
  | _ => (0, 0)
theorem pairs_at (g : Gd K T r G H s) : ∀ {ps : List (Int × Int)} {xs : List V}, RpL K T r G (ps.map ofP) xs → xs.map (keyV H) = ps ∧ ∀ x ∈ xs, (∃ t, x = .ref t ∧ H t = some (.tup [.int (keyV H x).1, .int (keyV H x).2])) ∧ Rp K T r G (ofP (keyV H x)) x
  | [], xs, h => by
    have h : RpL K T r G [] xs := h
    rw [h.nil_inv]
    exact ⟨rfl, fun x hx => by cases hx⟩
  | p :: ps, xs, h => by
    obtain ⟨v, t, rfl, k1, k2⟩ := RpL.cons_inv (show RpL K T r G (ofP p :: ps.map ofP) xs from h)
    obtain ⟨i1, i2⟩ := pairs_at g k2
    have k1' := k1
    unfold ofP at k1
    obtain ⟨a, ys, rfl, e1, e2⟩ := rp_tup k1
    obtain ⟨y1, t1, rfl, m1, m2⟩ := e2.cons_inv
    obtain ⟨y2, t2, rfl, m3, m4⟩ := m2.cons_inv
    have m5 := m4.nil_inv
    subst m5
    have c1 := rp_int m1
    have c2 := rp_int m3
    subst c1 c2
    have hk : keyV H (.ref a) = p := by
      show (match H a with | some (.tup [.int i, .int j]) => (i, j) | _ => (0, 0)) = p
      rw [g.sub _ _ e1]
    refine ⟨by rw [List.map_cons, hk, i1], fun x hx => ?_⟩
    rcases List.mem_cons.mp hx with rfl | hx
    · exact ⟨⟨a, rfl, by rw [hk]; exact g.sub _ _ e1⟩, by rw [hk]; exact k1'⟩
    · exact i2 x hx
theorem of_pairs (g : Gd K T r G H s) : ∀ {xs : List V}, (∀ x ∈ xs, Rp K T r G (ofP (keyV H x)) x) → RpL K T r G ((xs.map (keyV H)).map ofP) xs
  | [], _ => .nil
  | x :: xs, h => .cons (h x (List.mem_cons_self ..)) (of_pairs g fun y hy => h y (List.mem_cons_of_mem _ hy))
/-! ### sorting tuples of whole numbers -/
theorem leL_total : ∀ a b : List Int, leL a b = true ∨ leL b a = true
  | [], _ => .inl rfl
  | _ :: _, [] => .inr rfl
  | x :: a, y :: b => by
    unfold leL
    simp only [Bool.or_eq_true, Bool.and_eq_true, decide_eq_true_eq, beq_iff_eq]
    rcases Int.lt_trichotomy x y with h | h | h
    · exact .inl (.inl h)
    · rcases leL_total a b with z | z
      · exact .inl (.inr ⟨h, z⟩)
      · exact .inr (.inr ⟨h.symm, z⟩)
    · exact .inr (.inl h)
theorem leL_trans : ∀ {a b c : List Int}, leL a b = true → leL b c = true → leL a c = true
  | [], _, _, _, _ => by unfold leL; rfl
  | _ :: _, [], _, h, _ => by unfold leL at h; cases h
  | _ :: _, _ :: _, [], _, h => by unfold leL at h; cases h
  | x :: a, y :: b, z :: c, h1, h2 => by
    unfold leL at *
    simp only [Bool.or_eq_true, Bool.and_eq_true, decide_eq_true_eq, beq_iff_eq] at *
    rcases h1 with h1 | ⟨h1, k1⟩ <;> rcases h2 with h2 | ⟨h2, k2⟩
    · exact .inl (by omega)
    · exact .inl (by omega)
    · exact .inl (by omega)
    · exact .inr ⟨by omega, leL_trans k1 k2⟩
theorem leL_anti : ∀ {a b : List Int}, leL a b = true → leL b a = true → a = b
  | [], [], _, _ => rfl
  | [], _ :: _, _, h => by unfold leL at h; cases h
  | _ :: _, [], h, _ => by unfold leL at h; cases h
  | x :: a, y :: b, h1, h2 => by
    unfold leL at *
    simp only [Bool.or_eq_true, Bool.and_eq_true, decide_eq_true_eq, beq_iff_eq] at *
    rcases h1 with h1 | ⟨h1, k1⟩ <;> rcases h2 with h2 | ⟨h2, k2⟩ <;> first | (exfalso; omega) | skip
    rw [h1, leL_anti k1 k2]
theorem insL_perm (x : List Int) : ∀ l : List (List Int), (insL x l).Perm (x :: l)
  | [] => .refl _
  | y :: l => by
    unfold insL
    split
    · exact .refl _
    · exact ((insL_perm x l).cons y).trans (.swap x y l)
theorem srtL_perm : ∀ l : List (List Int), (srtL l).Perm l
  | [] => .refl _
  | x :: l => (insL_perm x (srtL l)).trans ((srtL_perm l).cons x)
theorem insL_sorted (x : List Int) : ∀ l : List (List Int), l.Pairwise (fun a b => leL a b = true) → (insL x l).Pairwise (fun a b => leL a b = true)
  | [], _ => by simp [insL]
  | y :: l, h => by
    unfold insL
    have h' := List.pairwise_cons.mp h
    split
    · rename_i hxy
      refine List.pairwise_cons.mpr ⟨fun z hz => ?_, h⟩
      rcases List.mem_cons.mp hz with rfl | hz
      · exact hxy
      · exact leL_trans hxy (h'.1 z hz)
    · rename_i hxy
      refine List.pairwise_cons.mpr ⟨fun z hz => ?_, insL_sorted x l h'.2⟩
      rcases List.mem_cons.mp ((insL_perm x l).mem_iff.mp hz) with rfl | hz
      · exact (leL_total _ _).resolve_left hxy
      · exact h'.1 z hz
theorem srtL_sorted : ∀ l : List (List Int), (srtL l).Pairwise (fun a b => leL a b = true)
  | [] => List.Pairwise.nil
  | x :: l => insL_sorted x _ (srtL_sorted l)
theorem leL_of_code {B : Int} : ∀ {n m : List Int}, n.length = m.length → TS.Bd B n → TS.Bd B m → TS.code B n ≤ TS.code B m → leL n m = true
  | [], _, _, _, _, _ => by unfold leL; rfl
  | x :: a, [], hl, _, _, _ => by cases hl
  | x :: a, y :: b, hl, h1, h2, h => by
    have hl' : a.length = b.length := Nat.succ.inj hl
    unfold leL
    simp only [Bool.or_eq_true, Bool.and_eq_true, decide_eq_true_eq, beq_iff_eq]
    rcases Int.lt_trichotomy x y with z | z | z
    · exact .inl z
    · refine .inr ⟨z, leL_of_code hl' h1.tail h2.tail ?_⟩
      subst z
      have q := TS.code_same (B := B) (d := x) hl'.symm
      by_cases w : TS.code B b < TS.code B a
      · have := q.mpr w
        omega
      · omega
    · have := TS.code_lt (B := B) hl'.symm h2.tail h1.tail z
      omega
theorem ints_eq : ∀ {ds : List D} {ns : List Int}, intsOf ds = some ns → ds = ns.map ofI
  | [], ns, h => by
    unfold intsOf at h
    cases h
    rfl
  | d :: ds, ns, h => by
    cases d <;> first | (simp [intsOf] at h; done) | skip
    rename_i i
    unfold intsOf at h
    cases hq : intsOf ds with
    | none => rw [hq] at h; cases h
    | some ms =>
      rw [hq] at h
      cases h
      rw [ints_eq hq]
      rfl
theorem ints_back : ∀ {ns : List Int} {ys : List V}, RpL K T r G (ns.map ofI) ys → ys = ns.map V.int
  | [], ys, h => (show RpL K T r G [] ys from h).nil_inv
  | n :: ns, ys, h => by
    obtain ⟨v, t, rfl, k1, k2⟩ := RpL.cons_inv (show RpL K T r G (.int n :: ns.map ofI) ys from h)
    rw [rp_int k1, ints_back k2]
    rfl
theorem tups_ok {d : Nat} : ∀ {ds : List D} {l : List (List Int)} {xs : List V}, tupsOf d ds = some l → RpL K T r G ds xs → ds = l.map ofL ∧ ∀ ns ∈ l, ns.length = d ∧ TS.Bd 1048576 ns
  | [], l, xs, h, k => by
    unfold tupsOf at h
    cases h
    exact ⟨rfl, fun _ z => by cases z⟩
  | e :: ds, l, xs, h, k => by
    obtain ⟨v, t, rfl, k1, k2⟩ := k.cons_inv
    unfold tupsOf at h
    split at h <;> first | (cases h; done) | skip
    · rename_i heq
      cases heq
    · rename_i ys r' heq
      cases heq
      cases hi : intsOf ys with
      | none => rw [hi] at h; cases h
      | some ns =>
        rw [hi] at h
        simp only [Option.bind_some] at h
        split at h
        · rename_i hc
          obtain ⟨c1, c2⟩ := Bool.and_eq_true_iff.mp hc
          cases hq : tupsOf d ds with
          | none => rw [hq] at h; cases h
          | some qs =>
            rw [hq] at h
            cases h
            obtain ⟨e1, e2⟩ := tups_ok hq k2
            have hy : ys = ns.map ofI := by
              obtain ⟨a, zs, _, _, hz⟩ := rp_tup k1
              exact ints_eq hi
            refine ⟨by rw [e1, hy]; rfl, fun m hm => ?_⟩
            rcases List.mem_cons.mp hm with rfl | hm
            · refine ⟨Nat.eq_of_beq_eq_true c1, fun i hi => ?_⟩
              have := Bool.and_eq_true_iff.mp (List.all_eq_true.mp c2 i hi)
              exact ⟨of_decide_eq_true this.1, of_decide_eq_true this.2⟩
            · exact e2 m hm
        · cases h
/-- the numbers that a value is -/
def intV : List V → Option (List Int)
  | [] => some []
  | .int i :: r => (intV r).map (i :: ·)
  | _ => none
theorem intV_map : ∀ ns : List Int, intV (ns.map V.int) = some ns
  | [] => rfl
  | n :: ns => by
    show (intV (ns.map V.int)).map (n :: ·) = _
    rw [intV_map ns]
    rfl
def keyL (H : Hp) (x : V) : List Int :=
  match x with
  | .ref t => (match H t with
    | some (.tup xs) => (intV xs).getD []
    | _ => [])
  | _ => []
theorem tups_at (g : Gd K T r G H s) : ∀ {l : List (List Int)} {xs : List V}, RpL K T r G (l.map ofL) xs → xs.map (keyL H) = l ∧ ∀ x ∈ xs, TupI K H x (keyL H x) ∧ Rp K T r G (ofL (keyL H x)) x
  | [], xs, h => by
    have h : RpL K T r G [] xs := h
    rw [h.nil_inv]
    exact ⟨rfl, fun x hx => by cases hx⟩
  | p :: ps, xs, h => by
    obtain ⟨v, t, rfl, k1, k2⟩ := RpL.cons_inv (show RpL K T r G (ofL p :: ps.map ofL) xs from h)
    obtain ⟨i1, i2⟩ := tups_at g k2
    have k1' := k1
    unfold ofL at k1
    obtain ⟨a, ys, rfl, e1, e2⟩ := rp_tup k1
    have hy : ys = p.map V.int := ints_back e2
    subst hy
    have hk : keyL H (.ref a) = p := by
      show (match H a with | some (.tup xs) => (intV xs).getD [] | _ => []) = p
      rw [g.sub _ _ e1]
      show (intV (p.map V.int)).getD [] = p
      rw [intV_map]
      rfl
    refine ⟨by rw [List.map_cons, hk, i1], fun x hx => ?_⟩
    rcases List.mem_cons.mp hx with rfl | hx
    · rw [hk]
      exact ⟨⟨a, rfl, SqT.of (g.sub _ _ e1)⟩, k1'⟩
    · exact i2 x hx
theorem of_tups (g : Gd K T r G H s) : ∀ {xs : List V}, (∀ x ∈ xs, Rp K T r G (ofL (keyL H x)) x) → RpL K T r G ((xs.map (keyL H)).map ofL) xs
  | [], _ => .nil
  | x :: xs, h => .cons (h x (List.mem_cons_self ..)) (of_tups g fun y hy => h y (List.mem_cons_of_mem _ hy))
def rSortB (K : PySem.W.Frag) : List V → Hp → VK → Prop := fun xs H Q => ∃ d : Nat, 1 ≤ d ∧ rSortU K d 1048576 xs H Q
theorem cr_sortB {X : Cx} : CallR X (.builtin "sorted") (rSortB X.K) := fun pins s σ H xs us Q I r h => by
  obtain ⟨d, hd, h⟩ := h
  exact cr_sortT hd pins s σ H xs us Q I r h
def rSortA (K : PySem.W.Frag) : List V → Hp → VK → Prop := fun xs H Q => rSortedI K xs H Q ∨ rSortedPO K xs H Q ∨ rSortB K xs H Q
theorem bi_sorted (g : Gd K T r G H s) (h : RrL K T r G H ds vs) (hz : sortB ds = some z) (n : Nxt K T Q r G H s z) : rSortA K vs H Q := by
  unfold sortB at hz
  split at hz <;> first | (cases hz; done) | skip
  rename_i ds
  obtain ⟨v, rfl, h1⟩ := h.one
  obtain ⟨p, xs, rfl, e1, e2⟩ := rr_lst h1
  unfold srtD at hz
  split at hz
  · rename_i ns hns
    cases hz
    have hx := ints_ok hns e2
    subst hx
    refine .inl ⟨p, ns, rfl, SqL.of e1, fun ns' q hp hs hq => ?_⟩
    have : ns' = srtI ns := sorted_eq (hp.trans (srtI_perm ns).symm) hs (srtI_sorted ns)
    subst this
    exact n.lst g (of_ints _) q hq
  · split at hz
    · rename_i ps hps
      cases hz
      have hd := prs_ok hps e2
      subst hd
      obtain ⟨i1, i2⟩ := pairs_at g e2
      refine .inr (.inl ⟨p, xs, keyV H, rfl, SqL.of e1, fun x hx => (i2 x hx).1, fun ys q hs hb hq => ?_⟩)
      have hpm : ys.Perm xs := hb.perm
      have hsort : (ys.map (keyV H)).Pairwise (fun a b => leP a b = true) := by
        rw [List.pairwise_map]
        refine List.Pairwise.imp ?_ hs
        intro a b hab
        have hab : SrtO.lexB (keyV H b) (keyV H a) = false := hab
        have hn : ¬ SrtO.lexB (keyV H b) (keyV H a) = true := by rw [hab]; decide
        rw [SrtO.lexB_iff] at hn
        unfold leP
        simp only [Bool.or_eq_true, Bool.and_eq_true, decide_eq_true_eq, beq_iff_eq]
        omega
      have hk : ys.map (keyV H) = srtP ps := by
        refine List.Perm.eq_of_pairwise (le := fun a b => leP a b = true) (fun a b _ _ h1 h2 => leP_anti h1 h2) hsort (srtP_sorted ps) ?_
        have hp2 : (ys.map (keyV H)).Perm (xs.map (keyV H)) := hpm.map _
        rw [i1] at hp2
        exact hp2.trans (srtP_perm ps).symm
      have ho := of_pairs g (xs := ys) fun y hy => (i2 y (hpm.mem_iff.mp hy)).2
      rw [hk] at ho
      exact n.lst g ho q hq
    · split at hz
      · rename_i hc
        obtain ⟨c1, c2⟩ := Bool.and_eq_true_iff.mp hc
        cases hl : tupsOf (wid ds) ds with
        | none => rw [hl] at hz; cases hz
        | some l =>
          rw [hl] at hz
          cases hz
          obtain ⟨hd, hb⟩ := tups_ok hl e2
          have hlen : xs.length = l.length := by rw [e2.length, hd, List.length_map]
          have c1 : ds.length < 64 := Nat.lt_of_succ_le (Nat.le_of_ble_eq_true c1)
          have hxl : xs.length < 64 := by rw [e2.length]; exact c1
          generalize wid ds = d at c2 hb
          subst hd
          obtain ⟨i1, i2⟩ := tups_at g e2
          have hmem : ∀ x ∈ xs, keyL H x ∈ l := fun x hx => by rw [← i1]; exact List.mem_map.mpr ⟨x, hx, rfl⟩
          refine .inr (.inr ⟨d, Nat.le_of_ble_eq_true c2, p, xs, rfl, SqL.of e1, hxl, fun x hx => ⟨keyL H x, (i2 x hx).1, hb _ (hmem x hx)⟩, fun ys q hpm hs hq => ?_⟩)
          have hsort : (ys.map (keyL H)).Pairwise (fun a b => leL a b = true) := by
            rw [List.pairwise_map]
            refine List.Pairwise.imp_of_mem (fun {a b} ha hb' hab => ?_) hs
            have ma := hpm.mem_iff.mp ha
            have mb := hpm.mem_iff.mp hb'
            obtain ⟨la, ba⟩ := hb _ (hmem a ma)
            obtain ⟨lb, bb⟩ := hb _ (hmem b mb)
            exact leL_of_code (la.trans lb.symm) ba bb (hab _ _ (i2 a ma).1 (i2 b mb).1)
          have hk : ys.map (keyL H) = srtL l := by
            refine List.Perm.eq_of_pairwise (le := fun a b => leL a b = true) (fun a b _ _ h1 h2 => leL_anti h1 h2) hsort (srtL_sorted l) ?_
            have hp2 : (ys.map (keyL H)).Perm (xs.map (keyL H)) := hpm.map _
            rw [i1] at hp2
            exact hp2.trans (srtL_perm l).symm
          have ho := of_tups g (xs := ys) fun y hy => (i2 y (hpm.mem_iff.mp hy)).2
          rw [hk] at ho
          exact n.lst g ho q hq
      · cases hz
/-! ### repr, isinstance -/
theorem rep_ok {d : D} {z : D} (hz : repD d = some z) : z = .rep d ∧ ∃ p, toP d = some p ∧ p.showable = true ∧ SeqAt.shaped p = true ∧ p.shown.length ≤ sizeLine := by
  unfold repD at hz
  cases hp : toP d with
  | none => rw [hp] at hz; cases hz
  | some p =>
    rw [hp] at hz
    simp only [Option.bind_some] at hz
    split at hz
    · rename_i hc
      cases hz
      simp only [Bool.and_eq_true] at hc
      obtain ⟨⟨⟨c1, c2⟩, c3⟩, c4⟩ := hc
      refine ⟨rfl, p, rfl, c2, c1, ?_⟩
      have hb := PyData.shown_le_bulk 2000 (by decide) p c3
      have hk : p.bulk ≤ 5000 := Nat.le_of_ble_eq_true c4
      rw [sizeLine_eq]
      omega
    · cases hz
theorem bi_repr (g : Gd K T r G H s) (h : RrL K T r G H ds vs) (hz : reprB ds = some z) (n : Nxt K T Q r G H s z) : rReprA K vs H Q := by
  unfold reprB at hz
  split at hz <;> first | (cases hz; done) | skip
  · rename_i ds
    obtain ⟨v, rfl, h1⟩ := h.one
    obtain ⟨rfl, p, e1, e2, e3, e4⟩ := rep_ok hz
    have hd := dp_rd g e1 h1
    obtain ⟨a, xs, rfl, k1, k1', k2⟩ := rr_tup g h1
    exact .inl ⟨a, p, rfl, hd, e2, e3, e4, n.here g (by unfold Rp; exact ⟨p, e1, rfl⟩)⟩
  · rename_i ds
    obtain ⟨v, rfl, h1⟩ := h.one
    obtain ⟨rfl, p, e1, e2, e3, e4⟩ := rep_ok hz
    have hd := dp_rd g e1 h1
    obtain ⟨a, xs, rfl, k1, k2⟩ := rr_lst h1
    exact .inl ⟨a, p, rfl, hd, e2, e3, e4, n.here g (by unfold Rp; exact ⟨p, e1, rfl⟩)⟩
  · obtain ⟨v, rfl, h1⟩ := h.one
    obtain ⟨rfl, p, e1, e2, e3, e4⟩ := rep_ok hz
    cases e1
    have h1 : Rp K T r G .non v := h1
    unfold Rp at h1
    subst h1
    exact .inr (.inl ⟨rfl, n.here g (by unfold Rp; exact ⟨_, rfl, rfl⟩)⟩)
  · obtain ⟨v, rfl, h1⟩ := h.one
    obtain ⟨rfl, p, e1, e2, e3, e4⟩ := rep_ok hz
    cases e1
    cases rp_bl (show Rp K T r G (.bl _) v from h1)
    exact .inr (.inr (.inl ⟨_, rfl, n.here g (by unfold Rp; exact ⟨_, rfl, rfl⟩)⟩))
  · obtain ⟨v, rfl, h1⟩ := h.one
    obtain ⟨rfl, p, e1, e2, e3, e4⟩ := rep_ok hz
    cases e1
    cases rr_int h1
    exact .inr (.inr (.inr (.inl ⟨_, rfl, of_decide_eq_true e2, n.here g (by unfold Rp; exact ⟨_, rfl, rfl⟩)⟩)))
  · obtain ⟨v, rfl, h1⟩ := h.one
    obtain ⟨rfl, p, e1, e2, e3, e4⟩ := rep_ok hz
    cases e1
    have h1 : Rp K T r G (.str _) v := h1
    unfold Rp at h1
    subst h1
    exact .inr (.inr (.inr (.inr ⟨_, rfl, e4, n.here g (by unfold Rp; exact ⟨_, rfl, rfl⟩)⟩)))
theorem tyOk_cases {t : String} (h : tyOk t = true) : t = "int" ∨ t = "bool" ∨ t = "str" ∨ t = "tuple" ∨ t = "list" := by
  unfold tyOk at h
  simp only [Bool.or_eq_true, beq_iff_eq] at h
  rcases h with (((h | h) | h) | h) | h
  · exact .inl h
  · exact .inr (.inl h)
  · exact .inr (.inr (.inl h))
  · exact .inr (.inr (.inr (.inl h)))
  · exact .inr (.inr (.inr (.inr h)))
theorem bi_isi (g : Gd K T r G H s) (h : RrL K T r G H ds vs) (hz : isiB ds = some z) (n : Nxt K T Q r G H s z) : rIsi K vs H Q := by
  unfold isiB at hz
  split at hz <;> first | (cases hz; done) | skip
  rename_i d t
  split at hz
  · rename_i ht
    obtain ⟨v, u, rfl, h1, h2⟩ := h.two
    have hu : u = .ty t := by
      have h2 : Rp K T r G (.ty t) u := h2
      unfold Rp at h2
      exact h2
    subst hu
    cases hb : isiD d t with
    | none => rw [hb] at hz; cases hz
    | some b =>
      rw [hb] at hz
      cases hz
      have fin : ∀ {tn : String}, TyX K H v (.type tn) → kitB tn t = some b → rIsi K [v, .ty t] H Q := fun hx hk => ⟨v, .ty t, _, _, b, rfl, .ty t, hx, kit_ty hk, n.here g (of_bl _)⟩
      have cs := tyOk_cases ht
      cases d <;> first | (cases hb; done) | skip
      · have h1 : Rp K T r G .non v := h1
        unfold Rp at h1
        subst h1
        refine fin (.base .non) ?_
        rcases cs with rfl | rfl | rfl | rfl | rfl <;> (cases hb; decide +kernel)
      · have h1 : Rp K T r G (.bl _) v := h1
        cases rp_bl h1
        refine fin (.base (.bl _)) ?_
        rcases cs with rfl | rfl | rfl | rfl | rfl <;> (cases hb; decide +kernel)
      · cases rr_int h1
        refine fin (.base (.int _)) ?_
        rcases cs with rfl | rfl | rfl | rfl | rfl <;> (cases hb; decide +kernel)
      · have h1 : Rp K T r G (.str _) v := h1
        unfold Rp at h1
        subst h1
        refine fin (.base (.str _)) ?_
        rcases cs with rfl | rfl | rfl | rfl | rfl <;> (cases hb; decide +kernel)
      · obtain ⟨a, xs, rfl, k1, k1', k2⟩ := rr_tup g h1
        refine fin (.base (.tup (g.sub _ _ k1'))) ?_
        rcases cs with rfl | rfl | rfl | rfl | rfl <;> (cases hb; decide +kernel)
      · obtain ⟨a, xs, rfl, k1, k2⟩ := rr_lst h1
        refine fin (.base (.lst k1)) ?_
        rcases cs with rfl | rfl | rfl | rfl | rfl <;> (cases hb; decide +kernel)
  · cases hz
end
end T5

set_option Elab.async false
set_option linter.all false
set_option maxRecDepth 100000
set_option maxHeartbeats 1000000
/-! T5: what is walked; targets; list comprehensions. -/
namespace T5
open PySem PySem.Spec L2
open Evl (Ex)

/-- an iterator goes through these items, while what never changes stands -/
def ItR (K : PySem.W.Frag) (T : Tb) (r : List Addr) (G : Hp) (J : It) (items : List D) : Prop :=
  ∀ (r2 : List Addr) (G2 H2 : Hp) (s2 : Sto), Pre r r2 → Ex G G2 → Gd K T r2 G2 H2 s2 → ∀ i : Nat, (i < items.length → J.go i H2) ∧ (i = items.length → J.stop i H2) ∧
    ∀ (x : V) (H' : Hp) (d : D), items[i]? = some d → J.yld i H2 x H' → ∃ G', Le r2 G2 H2 r2 G' H' ∧ Gd K T r2 G' H' s2 ∧ Rp K T r2 G' d x
def OutI (K : PySem.W.Frag) (T : Tb) (W : WX) (σ : St) (Q : It → Hp → Prop) (r : List Addr) (G H : Hp) : R D → Prop
  | .ok d s => ∃ items, seqOf d = some items ∧ ∀ J r' G' H', Le r G H r' G' H' → Gd K T r' G' H' s → ItR K T r' G' J items → Q J H'
  | .err c ds s => ∀ cv dd r' G' H', Le r G H r' G' H' → Gd K T r' G' H' s → ErrR K T r' G' H' cv dd c ds → W cv dd σ H'
  | .bad => False
def tI (K : PySem.W.Frag) (T : Tb) (W : WX) (cl : Calls) (c : CE) : TI := fun σ H Q => ∃ env s r G, Gd K T r G H s ∧ EnvR K T r G σ env ∧ OutI K T W σ Q r G H (evE cl c env s)

section
variable {K : PySem.W.Frag} {T : Tb} {r r' : List Addr} {G G' H H' : Hp} {s : Sto}
theorem Gd.same_le (g : Gd K T r G H s) : Le r G H r G H := Le.refl
theorem it_lst {a : Addr} {xs : List V} {ds : List D} (h : SqL K G a xs) (k : RpL K T r G ds xs) : ItR K T r G (Itl K a) ds := fun r2 G2 H2 s2 p e g i => by
  have hl : SqL K H2 a xs := Evl.ex_l (e.trans g.exH) h
  have hn := k.length
  refine ⟨fun hi => ?_, fun hi => ?_, fun x H' d hd hy => ?_⟩
  · exact ⟨xs, xs[i]'(by omega), hl, List.getElem?_eq_getElem (by omega)⟩
  · exact ⟨xs, hl, by omega⟩
  · obtain ⟨rfl, hx⟩ := hy
    obtain ⟨v, e1, e2⟩ := k.get hd
    have : some x = some v := (hx xs hl).symm.trans e1
    cases this
    exact ⟨G2, Le.refl, g, e2.mono p e⟩
theorem it_tup {a : Addr} {xs : List V} {ds : List D} (h : SqT K G a xs) (k : RpL K T r G ds xs) : ItR K T r G (Itt K a) ds := fun r2 G2 H2 s2 p e g i => by
  have hl : SqT K H2 a xs := Evl.ex_t (e.trans g.exH) h
  have hn := k.length
  refine ⟨fun hi => ?_, fun hi => ?_, fun x H' d hd hy => ?_⟩
  · exact ⟨xs, xs[i]'(by omega), hl, List.getElem?_eq_getElem (by omega)⟩
  · exact ⟨xs, hl, by omega⟩
  · obtain ⟨rfl, hx⟩ := hy
    obtain ⟨v, e1, e2⟩ := k.get hd
    have : some x = some v := (hx xs hl).symm.trans e1
    cases this
    exact ⟨G2, Le.refl, g, e2.mono p e⟩
theorem range_get {lo : Int} {n i : Nat} {d : D} (h : (rangeD lo n)[i]? = some d) : i < n ∧ d = .int (lo + (i : Nat)) := by
  unfold rangeD at h
  rw [List.getElem?_map] at h
  by_cases hi : i < n
  · rw [List.getElem?_range hi] at h
    cases h
    exact ⟨hi, rfl⟩
  · rw [List.getElem?_eq_none (by simpa using hi)] at h
    cases h
theorem range_len (lo : Int) (n : Nat) : (rangeD lo n).length = n := by simp [rangeD]
theorem it_rng (lo : Int) (n : Nat) : ItR K T r G (Itr lo n) (rangeD lo n) := fun r2 G2 H2 s2 p e g i => by
  rw [range_len]
  refine ⟨fun hi => hi, fun hi => ?_, fun x H' d hd hy => ?_⟩
  · show n ≤ i
    omega
  · obtain ⟨rfl, hx⟩ := hy
    obtain ⟨_, rfl⟩ := range_get hd
    subst hx
    exact ⟨G2, Le.refl, g, of_int _⟩
end

section
variable {X : Cx} {T : Tb} {W : WX} {cl : Calls} {a b c e : Expr} {ca cb cc : CE} {pos p : Pos} {tg : Expr}
theorem imp_i {w w' : TI} (h : PI X tg e w) (i : ∀ σ H Q, w' σ H Q → w σ H Q) : PI X tg e w' := ⟨fun pins s σ H Q I q => h.run pins s σ H Q I (i σ H Q q)⟩
theorem or_i {w w' : TI} (h : PI X tg e w) (k : PI X tg e w') : PI X tg e (fun σ H Q => w σ H Q ∨ w' σ H Q) := ⟨fun pins s σ H Q I q => q.elim (h.run pins s σ H Q I) (k.run pins s σ H Q I)⟩
/-- a list or a tuple, as it is -/
theorem gi_seq (h : PE X e (tE X.K T W cl ca)) : PI X tg e (tI X.K T W cl ca) :=
  imp_i (or_i (pi_list h) (pi_tup h)) fun σ H Q ⟨env, s, r, G, g, ee, h⟩ => by
    cases hq : evE cl ca env s with
    | bad => rw [hq] at h; exact h.elim
    | err c ds s1 => rw [hq] at h; exact .inl ⟨env, s, r, G, g, ee, by rw [hq]; exact h⟩
    | ok d s1 =>
      rw [hq] at h
      obtain ⟨items, h1, h2⟩ := h
      cases d <;> first | (cases h1; done) | skip
      · cases h1
        refine .inr ⟨env, s, r, G, g, ee, ?_⟩
        rw [hq]
        intro y r' G' H' l g' hy
        obtain ⟨p, xs, rfl, k1, k2⟩ := rp_tup hy
        exact ⟨p, rfl, ⟨xs, SqT.of (g'.sub _ _ k1)⟩, h2 _ r' G' H' l g' (it_tup (SqT.of k1) k2)⟩
      · cases h1
        refine .inl ⟨env, s, r, G, g, ee, ?_⟩
        rw [hq]
        intro y r' G' H' l g' hy
        obtain ⟨p, xs, rfl, k1, k2⟩ := rr_lst (Rr.of g' hy)
        have hy' := hy
        unfold Rp at hy'
        obtain ⟨p', xs', e0, k1', k2'⟩ := hy'
        cases e0
        exact ⟨p, rfl, ⟨xs, SqL.of k1⟩, h2 _ r' G' H' l g' (it_lst (SqL.of k1') k2')⟩
theorem okR_of {i : Int} (h : okR i = true) : -(2 ^ 60) ≤ i ∧ i ≤ 2 ^ 60 := by
  have h' := Bool.and_eq_true_iff.mp h
  exact ⟨of_decide_eq_true h'.1, of_decide_eq_true h'.2⟩
theorem gi_rng1 (hg : Gl X "range") (hm : X.mg "range" = none) (ha : PE X a (tE X.K T W cl ca)) (hs : starEach [a] X.env = (false, eval a X.env) :: starEach [] X.env) : PI X tg (.Call (.Name "range" p) [a] [] pos) (tI X.K T W cl (.rng1 ca)) :=
  imp_i (pi_range1 hg hm (gl_cons ha gl_nil hs) (hs := hs)) fun σ H Q ⟨env, s, r, G, g, ee, h⟩ => ⟨env, s, r, G, g, ee, by
    simp only [evE] at h
    simp only [evEs]
    cases hq : evE cl ca env s with
    | bad => rw [hq] at h; exact h.elim
    | err c ds s1 => rw [hq] at h; exact h
    | ok d s1 =>
      rw [hq] at h
      cases d <;> first | exact (show False from h).elim | skip
      rename_i n
      show Out X.K T (RpL X.K T) W σ _ r G H (.ok [.int n] s1)
      simp only [R.bind] at h
      split at h
      · rename_i hc
        obtain ⟨items, h1, h2⟩ := h
        cases h1
        intro y r' G' H' l g' hy
        obtain ⟨v, t, rfl, m1, m2⟩ := hy.cons_inv
        have := m2.nil_inv
        subst this
        cases rp_int m1
        have ho := okR_of hc
        exact ⟨n, rfl, by omega, by omega, h2 _ r' G' H' l g' (it_rng 0 n.toNat)⟩
      · exact h.elim⟩
theorem gi_rng2 (hg : Gl X "range") (hm : X.mg "range" = none) (ha : PE X a (tE X.K T W cl ca)) (hb : PE X b (tE X.K T W cl cb)) (hs : starEach [a, b] X.env = (false, eval a X.env) :: starEach [b] X.env) (hs2 : starEach [b] X.env = (false, eval b X.env) :: starEach [] X.env) :
    PI X tg (.Call (.Name "range" p) [a, b] [] pos) (tI X.K T W cl (.rng2 ca cb)) :=
  imp_i (pi_range2 hg hm (gl_cons ha (gl_cons hb gl_nil hs2) hs) (hs := by rw [hs, hs2]; rfl) (hs2 := hs2)) fun σ H Q ⟨env, s, r, G, g, ee, h⟩ => ⟨env, s, r, G, g, ee, by
    simp only [evE] at h
    simp only [evEs]
    cases hq : evE cl ca env s with
    | bad => rw [hq] at h; exact h.elim
    | err c ds s1 => rw [hq] at h; exact h
    | ok d s1 =>
      rw [hq] at h
      simp only [R.bind] at h
      show Out X.K T (RpL X.K T) W σ _ r G H (((evE cl cb env s1).bind fun d2 s2 => .ok [d2] s2).bind fun ds s2 => .ok (d :: ds) s2)
      cases hq2 : evE cl cb env s1 with
      | bad => rw [hq2] at h; exact h.elim
      | err c ds s2 => rw [hq2] at h; exact h
      | ok d2 s2 =>
        rw [hq2] at h
        cases d <;> first | exact (show False from h).elim | skip
        cases d2 <;> first | exact (show False from h).elim | skip
        rename_i i j
        show Out X.K T (RpL X.K T) W σ _ r G H (.ok [.int i, .int j] s2)
        simp only at h
        split at h
        · rename_i hc
          obtain ⟨items, h1, h2⟩ := h
          cases h1
          intro y r' G' H' l g' hy
          obtain ⟨v, t, rfl, m1, m2⟩ := hy.cons_inv
          obtain ⟨v2, t2, rfl, m3, m4⟩ := m2.cons_inv
          have := m4.nil_inv
          subst this
          cases rp_int m1
          cases rp_int m3
          have hc' := Bool.and_eq_true_iff.mp hc
          have h1 := okR_of hc'.1
          have h2' := okR_of hc'.2
          exact ⟨i, j, rfl, ⟨by omega, by omega, by omega, by omega⟩, h2 _ r' G' H' l g' (it_rng i (j - i).toNat)⟩
        · exact h.elim⟩
end

/-! ### targets -/
theorem wipe_get {σ : St} {vs : List Nat} (i : Nat) : (L2.wipe σ vs)[i]? = if i ∈ vs then (if i < σ.length then some none else none) else σ[i]? := by
  induction vs with
  | nil => simp [L2.wipe]
  | cons v vs ih =>
    unfold L2.wipe
    have hl := L2.wipe_length σ vs
    by_cases h : v = i
    · subst h
      rw [if_pos (List.mem_cons_self ..)]
      by_cases hv : v < σ.length
      · rw [if_pos hv, List.getElem?_set_self (by rw [hl]; exact hv)]
      · rw [if_neg hv, List.getElem?_eq_none (by rw [List.length_set, hl]; omega)]
    · rw [List.getElem?_set_ne h, ih]
      by_cases hm : i ∈ vs
      · rw [if_pos hm, if_pos (List.mem_cons_of_mem _ hm)]
      · rw [if_neg hm, if_neg (by simp only [List.mem_cons, not_or]; exact ⟨fun z => h z.symm, hm⟩)]
theorem wipe_set {σ : St} {vs : List Nat} {i : Nat} {x : Option V} (h : i ∈ vs) : L2.wipe (σ.set i x) vs = L2.wipe σ vs := by
  refine List.ext_getElem? fun j => ?_
  rw [wipe_get, wipe_get]
  by_cases hj : j ∈ vs
  · rw [if_pos hj, if_pos hj, List.length_set]
  · have ne : i ≠ j := fun z => hj (by rw [← z]; exact h)
    rw [if_neg hj, if_neg hj, List.getElem?_set_ne ne]
/-- a target and its slots -/
def TgOk (K : PySem.W.Frag) (T : Tb) (g : TG) (tgs : List Nat) : Prop :=
  ∀ (r : List Addr) (G H : Hp) (σ : St) (env env2 : Env) (d : D) (x : V) (Q : St → Hp → Prop), EnvR K T r G σ env → Ex G H → Rp K T r G d x → setTg env tgs d = some env2 →
    (∀ σ2, EnvR K T r G σ2 env2 → (∀ vs : List Nat, (∀ i ∈ tgs, i ∈ vs) → L2.wipe σ2 vs = L2.wipe σ vs) → Q σ2 H) → g x σ H Q
theorem tg_name {K : PySem.W.Frag} {T : Tb} (i : Nat) : TgOk K T (gName i) [i] := fun r G H σ env env2 d x Q e ex hx hs k => by
  cases hs
  exact k _ (e.set i hx) fun vs hv => wipe_set (hv i (List.mem_singleton.mpr rfl))
/-- names one behind another -/
def gNs : List Nat → TGs
  | [] => gNil
  | i :: is => gCons (gName i) (gNs is)
theorem gNs_ok {K : PySem.W.Frag} {T : Tb} {r : List Addr} {G : Hp} {H : Hp} : ∀ (is : List Nat) (ds : List D) (xs : List V) (σ : St) (env : Env) (Q : St → Hp → Prop), EnvR K T r G σ env → RpL K T r G ds xs → ds.length = is.length →
    (∀ σ2, EnvR K T r G σ2 ((is.zip ds).foldl (fun e p => e.set p.1 (some p.2)) env) → (∀ vs : List Nat, (∀ i ∈ is, i ∈ vs) → L2.wipe σ2 vs = L2.wipe σ vs) → Q σ2 H) → gNs is xs σ H Q
  | [], ds, xs, σ, env, Q, e, h, hl, k => by
    have : ds = [] := List.eq_nil_of_length_eq_zero hl
    subst this
    exact ⟨h.nil_inv, k σ e fun _ _ => rfl⟩
  | i :: is, ds, xs, σ, env, Q, e, h, hl, k => by
    cases ds with
    | nil => cases hl
    | cons d ds =>
      obtain ⟨v, t, rfl, h1, h2⟩ := h.cons_inv
      refine ⟨v, t, rfl, ?_⟩
      show gNs is t (σ.set i (some v)) H Q
      refine gNs_ok is ds t _ (env.set i (some d)) Q (e.set i h1) h2 (Nat.succ.inj hl) fun σ2 e2 w2 => k σ2 e2 fun vs hv => ?_
      rw [w2 vs fun j hj => hv j (List.mem_cons_of_mem _ hj)]
      exact wipe_set (hv i (List.mem_cons_self ..))
theorem tg_tup {K : PySem.W.Frag} {T : Tb} (is : List Nat) (h2 : 2 ≤ is.length) : TgOk K T (gTup K is.length (gNs is)) is := fun r G H σ env env2 d x Q e ex hx hs k => by
  unfold setTg at hs
  split at hs
  · simp at h2
  · cases d <;> first | (cases hs; done) | skip
    rename_i ds
    simp only at hs
    split at hs
    · rename_i hl
      cases hs
      have hl' : ds.length = is.length := Nat.eq_of_beq_eq_true hl
      obtain ⟨a, xs, rfl, k1, k2⟩ := rp_tup hx
      exact ⟨a, xs, rfl, SqT.of (ex _ _ k1), by rw [k2.length, hl'], gNs_ok is ds xs σ env Q e k2 hl' fun σ2 e2 w2 => k σ2 e2 w2⟩
    · cases hs
end T5

set_option Elab.async false
set_option linter.all false
set_option maxRecDepth 100000
set_option maxHeartbeats 1000000
/-! T5: list comprehensions. -/
namespace T5
open PySem PySem.Spec L2
open Evl (Ex)

abbrev W0 : WX := fun _ _ _ _ => False
section
variable {X : Cx} {T : Tb} {W : WX} {cl : Calls} {c : Expr} {cc : CE}
theorem gs_nil : PTs X [] (tQ X.K T W cl (.con (.bl true))) := ⟨fun pins s σ H Q I h => (pts_nil (X := X)).run pins s σ H Q I (by
  obtain ⟨env, s, r, G, g, e, h⟩ := h
  simp only [evE] at h
  obtain ⟨b, hb, q⟩ := h.here g (of_bl _)
  cases hb
  exact q)⟩
theorem gs_one (h : PT X c (tQ X.K T W cl cc)) : PTs X [c] (tQ X.K T W cl cc) := pts_one h
end

section
variable {K : PySem.W.Frag} {T : Tb} {r : List Addr} {G H : Hp} {s : Sto} {p : Addr}
/-- a new object that is neither of the store nor fixed -/
theorem le_tmp (g : Gd K T r G H s) (hp : H p = none) (o : HO) : Le r G H r G (upd H p o) where
  pre := .refl
  fr := fun _ h => .inl h
  ex := fun _ _ h => h
  kp := fun a o' ha h _ => by
    rw [upd_ne (ne_of_none h hp)]
    exact h
  st := fun a h => by
    by_cases e : a = p
    · rw [e]; exact hp
    · rw [upd_ne e] at h; exact h
  nw := fun a o' h => .inl h
  tbk := fun a ps h => ⟨ps, by rw [upd_ne (ne_of_none h hp)]; exact h⟩
theorem Gd.tmp (g : Gd K T r G H s) (h1 : p ∉ r) (h2 : G p = none) (nt : NT H p) (o : HO) : Gd K T r G (upd H p o) s where
  sub := fun a o' h => by
    have e : a ≠ p := fun z => by rw [z, h2] at h; cases h
    rw [upd_ne e]
    exact g.sub a o' h
  off := g.off
  len := g.len
  nd := g.nd
  obj := fun n a so k1 k2 => by
    have e : a ≠ p := fun z => h1 (z ▸ List.mem_of_getElem? k1)
    rw [upd_ne e]
    exact g.obj n a so k1 k2
  flr := g.flr
  flg := g.flg
  tbs := tabs_but g.tbs nt fun b hb => upd_ne hb
  ngt := g.ngt
def del (H : Hp) (p : Addr) : Hp := fun b => if b = p then none else H b
theorem del_ne {a : Addr} (h : a ≠ p) : del H p a = H a := if_neg h
theorem del_at : del H p p = none := if_pos rfl
theorem upd_del {o : HO} (h : H p = some o) : upd (del H p) p o = H := by
  funext b
  by_cases e : b = p
  · subst e
    rw [upd_same, h]
  · rw [upd_ne e, del_ne e]
theorem Gd.del (g : Gd K T r G H s) (h1 : p ∉ r) (h2 : G p = none) (nt : NT H p) : Gd K T r G (del H p) s where
  sub := fun a o' h => by
    have e : a ≠ p := fun z => by rw [z, h2] at h; cases h
    rw [del_ne e]
    exact g.sub a o' h
  off := g.off
  len := g.len
  nd := g.nd
  obj := fun n a so k1 k2 => by
    have e : a ≠ p := fun z => h1 (z ▸ List.mem_of_getElem? k1)
    rw [del_ne e]
    exact g.obj n a so k1 k2
  flr := g.flr
  flg := g.flg
  tbs := tabs_but g.tbs nt fun b hb => del_ne hb
  ngt := g.ngt
theorem Le.del {r' : List Addr} {G' H' : Hp} (l : Le r G H r' G' H') (hp : H p = none) : Le r G H r' G' (T5.del H' p) where
  pre := l.pre
  fr := l.fr
  ex := l.ex
  kp := fun a o ha h nt => by
    have e : a ≠ p := ne_of_none h hp
    rw [del_ne e]
    exact l.kp a o ha h nt
  st := fun a h => by
    by_cases e : a = p
    · rw [e]; exact hp
    · rw [del_ne e] at h
      exact l.st a h
  nw := l.nw
  tbk := fun a ps h => by
    obtain ⟨qs, q⟩ := l.tbk a ps h
    exact ⟨qs, by rw [del_ne (ne_of_none h hp)]; exact q⟩
theorem Le.updTmp {r' : List Addr} {G' H' : Hp} (l : Le r G H r' G' H') (hp : H p = none) (o : HO) : Le r G H r' G' (upd H' p o) where
  pre := l.pre
  fr := l.fr
  ex := l.ex
  kp := fun a o' ha h nt => by
    rw [upd_ne (ne_of_none h hp)]
    exact l.kp a o' ha h nt
  st := fun a h => by
    by_cases e : a = p
    · rw [e]; exact hp
    · rw [upd_ne e] at h
      exact l.st a h
  nw := l.nw
  tbk := fun a ps h => by
    obtain ⟨qs, q⟩ := l.tbk a ps h
    exact ⟨qs, by rw [upd_ne (ne_of_none h hp)]; exact q⟩
end

/-- the turn of a comprehension -/
def turn (cl : Calls) (env : Env) (own tgs : List Nat) (ce cc : CE) (y : D) (s2 : Sto) : R (Option D) :=
  match setTg (wipeE env own) tgs y with
  | some env2 => (evE cl cc env2 s2).bind fun b s3 => (match b with
    | .bl true => (evE cl ce env2 s3).bind fun d s4 => .ok (some d) s4
    | .bl false => .ok none s3
    | _ => .bad)
  | none => .bad
section
variable {X : Cx} {T : Tb} {W : WX} {cl : Calls} {elt tg iter : Expr} {ifs : List Expr} {scope : Scope} {own : List (Str × Nat)} {pos : Pos} {g : TG} {tgs : List Nat} {ce ci cc : CE}
theorem lc_reads (hT : TgOk X.K T g tgs) (hsub : ∀ i ∈ tgs, i ∈ own.map (·.2)) : ∀ σ H Q, tF X.K T W cl (.lc (own.map (·.2)) tgs ce ci cc) σ H Q → tLc (tI X.K T W cl ci) g (tQ X.K T W0 cl cc) (tE X.K T W0 cl ce) (own.map (·.2)) σ H Q := by
  rintro σ H Q ⟨env, s, r, G, gd, ee, h⟩
  generalize hvs : own.map (·.2) = vs at *
  simp only [evE] at h
  refine ⟨env, s, r, G, gd, ee, ?_⟩
  cases hq : evE cl ci env s with
  | bad => rw [hq] at h; exact h.elim
  | err c ds s1 => rw [hq] at h; exact h
  | ok d s1 =>
    rw [hq] at h
    simp only [R.bind] at h
    cases hi : seqOf d with
    | none => rw [hi] at h; exact h.elim
    | some items =>
      rw [hi] at h
      refine ⟨items, hi, fun J r1 G1 H1 l1 g1 hJ Dl hD => ?_⟩
      have h : OutF X.K T W σ Q r G H ((lcL (turn cl env vs tgs ce cc) items [] s1).calm.bind fun ds s5 => .ok (.lst ds) s5) := h
      cases hr : lcL (turn cl env vs tgs ce cc) items [] s1 with
      | bad => rw [hr] at h; exact h.elim
      | err c ds s5 => rw [hr] at h; exact h.elim
      | ok ds s5 =>
        rw [hr] at h
        have h : OutF X.K T W σ Q r G H (.ok (.lst ds) s5) := h
        have ee1 := ee.le l1
        refine ⟨fun i m Hi => m = items.length - i ∧ i ≤ items.length ∧ ∃ ri Gi si accD accV, Gd X.K T ri Gi Hi si ∧ Le r1 G1 H1 ri Gi Hi ∧ Hi Dl = some (.lst accV) ∧ Gi Dl = none ∧ Dl ∉ ri ∧ RpL X.K T ri Gi accD accV ∧
          lcL (turn cl env vs tgs ce cc) (items.drop i) accD.reverse si = .ok ds s5, ⟨items.length, by omega, by omega, r1, G1, s1, [], [], g1.tmp (g1.not_in hD) (g1.g_none hD) (.none hD) _, le_tmp g1 hD _, upd_same, g1.g_none hD, g1.not_in hD, .nil, hr⟩, ?_⟩
        rintro i m Hi ⟨rfl, hile, ri, Gi, si, accD, accV, gi, li, hDl, hGD, hDr, hacc, hrun⟩
        have hJi := hJ ri Gi Hi si li.pre li.ex gi i
        by_cases hlt : i < items.length
        · refine .inr ⟨hJi.1 hlt, fun H' => items.length - (i + 1) = items.length - (i + 1) ∧ i + 1 ≤ items.length ∧ ∃ ri Gi si accD accV, Gd X.K T ri Gi H' si ∧ Le r1 G1 H1 ri Gi H' ∧ H' Dl = some (.lst accV) ∧ Gi Dl = none ∧ Dl ∉ ri ∧ RpL X.K T ri Gi accD accV ∧
            lcL (turn cl env vs tgs ce cc) (items.drop (i + 1)) accD.reverse si = .ok ds s5, fun H' hN => ⟨items.length - (i + 1), by omega, rfl, hN.2.1, hN.2.2⟩, fun x H' hy => ?_⟩
          have hdi : items[i]? = some items[i] := List.getElem?_eq_getElem hlt
          obtain ⟨G', l2, g2, hx⟩ := hJi.2.2 x H' items[i] hdi hy
          rw [List.drop_eq_getElem_cons hlt] at hrun
          unfold lcL at hrun
          -- the turn is through
          cases ht : turn cl env vs tgs ce cc items[i] si with
          | bad => rw [ht] at hrun; cases hrun
          | err c ds' s' => rw [ht] at hrun; cases hrun
          | ok o s3 =>
            rw [ht] at hrun
            unfold turn at ht
            cases hset : setTg (wipeE env vs) tgs items[i] with
            | none => rw [hset] at ht; cases ht
            | some env2 =>
              rw [hset] at ht
              simp only at ht
              have hG'D : G' Dl = none := by
                cases q : G' Dl with
                | none => rfl
                | some o' =>
                  rcases l2.nw Dl o' q with z | z | ⟨_, z, _, z'⟩
                  · rw [hGD] at z; cases z
                  · rw [hDl] at z; cases z
                  · rw [hDl, z'] at z; cases z
              have hH'D : H' Dl = some (.lst accV) := l2.kp Dl _ hDr hDl (fun _ z => by cases z)
              have eeW : EnvR X.K T ri G' (L2.wipe σ vs) (wipeE env vs) := (((ee1.le li).le l2).wipe vs)
              refine hT ri G' H' (L2.wipe σ vs) (wipeE env vs) env2 items[i] x _ eeW g2.exH hx hset fun σ2 e2 hw => ⟨?_, ?_⟩
              · rw [hw vs hsub]
                refine List.ext_getElem? fun j => ?_
                rw [wipe_get, wipe_get, L2.wipe_length]
                by_cases hj : j ∈ vs
                · rw [if_pos hj, if_pos hj]
                · rw [if_neg hj, if_neg hj]
              · -- the test
                refine ⟨env2, si, ri, G', g2, e2, ?_⟩
                cases hc : evE cl cc env2 si with
                | bad => rw [hc] at ht; cases ht
                | err c ds' s' => rw [hc] at ht; cases ht
                | ok b s2 =>
                  rw [hc] at ht
                  simp only [R.bind] at ht
                  intro y r3 G3 H3 l3 g3 hb
                  have hl3 : Le r1 G1 H1 r3 G3 H3 := (li.trans l2).trans l3
                  have hD3 : H3 Dl = some (.lst accV) := l3.kp Dl _ hDr hH'D (fun _ z => by cases z)
                  have hr3 : Dl ∉ r3 := l3.out hDr hH'D
                  have hG3 : G3 Dl = none := by
                    cases q : G3 Dl with
                    | none => rfl
                    | some o' =>
                      rcases l3.nw Dl o' q with z | z | ⟨_, z, _, z'⟩
                      · rw [hG'D] at z; cases z
                      · rw [hH'D] at z; cases z
                      · rw [hH'D, z'] at z; cases z
                  cases b <;> first | (cases ht; done) | skip
                  rename_i b
                  cases rp_bl hb
                  refine ⟨b, rfl, ?_⟩
                  cases b with
                  | false =>
                    cases ht
                    refine ⟨rfl, by omega, r3, G3, _, accD, accV, g3, hl3, hD3, hG3, hr3, (hacc.mono l2.pre l2.ex).mono l3.pre l3.ex, hrun⟩
                  | true =>
                    show tE X.K T W0 cl ce σ2 H3 _
                    refine ⟨env2, s2, r3, G3, g3, e2.le l3, ?_⟩
                    simp only at ht
                    cases hce : evE cl ce env2 s2 with
                    | bad => rw [hce] at ht; cases ht
                    | err c ds' s' => rw [hce] at ht; cases ht
                    | ok z s4 =>
                      rw [hce] at ht
                      cases ht
                      intro y r4 G4 H4 l4 g4 hz
                      have hD4 : H4 Dl = some (.lst accV) := l4.kp Dl _ hr3 hD3 (fun _ z => by cases z)
                      have hr4 : Dl ∉ r4 := l4.out hr3 hD3
                      have hG4 : G4 Dl = none := by
                        cases q : G4 Dl with
                        | none => rfl
                        | some o' =>
                          rcases l4.nw Dl o' q with z' | z' | ⟨_, z', _, z''⟩
                          · rw [hG3] at z'; cases z'
                          · rw [hD3] at z'; cases z'
                          · rw [hD3, z''] at z'; cases z'
                      have hacc4 : RpL X.K T r4 G4 accD accV := (((hacc.mono l2.pre l2.ex).mono l3.pre l3.ex).mono l4.pre l4.ex)
                      simp only [R.bind] at hrun
                      split at hrun
                      · rename_i hcap
                        refine ⟨accV, hD4, by rw [hacc4.length, ← List.length_reverse]; exact cap_lt hcap, rfl, by omega, r4, G4, s3, accD ++ [z], accV ++ [y], g4.tmp hr4 hG4 (.lst hD4) _, (hl3.trans l4).updTmp hD _, upd_same, hG4, hr4, hacc4.snoc hz, ?_⟩
                        rw [List.reverse_append]
                        exact hrun
                      · cases hrun
        · have e : i = items.length := by omega
          subst e
          refine .inl ⟨hJi.2.1 rfl, ?_⟩
          rw [List.drop_length] at hrun
          unfold lcL at hrun
          rw [List.reverse_reverse] at hrun
          cases hrun
          have hfin := h Dl accV ri Gi (T5.del Hi Dl) ((l1.trans li).del (l1.st _ hD)) (gi.del hDr hGD (.lst hDl)) hacc del_at
          rw [upd_del hDl] at hfin
          exact hfin
end
end T5

set_option Elab.async false
set_option linter.all false
set_option maxRecDepth 100000
set_option maxHeartbeats 1000000
/-! T5: statements. -/
namespace T5
open PySem PySem.Spec L2
open Evl (Ex)

section
variable (K : PySem.W.Frag) (T : Tb)
def OutS (W : WX) (E : Ends) (r : List Addr) (G H : Hp) : SR → Prop
  | .nx env s => ∀ σ' r' G' H', Le r G H r' G' H' → Gd K T r' G' H' s → EnvR K T r' G' σ' env → E.nx σ' H'
  | .bk env s => ∀ σ' r' G' H', Le r G H r' G' H' → Gd K T r' G' H' s → EnvR K T r' G' σ' env → E.bk σ' H'
  | .ct env s => ∀ σ' r' G' H', Le r G H r' G' H' → Gd K T r' G' H' s → EnvR K T r' G' σ' env → E.ct σ' H'
  | .rt d s => ∀ v r' G' H', Le r G H r' G' H' → Gd K T r' G' H' s → Rp K T r' G' d v → E.rt v H'
  | .err c ds env s => ∀ cv dd σ' r' G' H', Le r G H r' G' H' → Gd K T r' G' H' s → EnvR K T r' G' σ' env → ErrR K T r' G' H' cv dd c ds → W cv dd σ' H'
  | .bad => False
def tSt (W : WX) (cl : Calls) (c : CS) : TS := fun E σ H => ∃ env s r G, Gd K T r G H s ∧ EnvR K T r G σ env ∧ OutS K T W E r G H (evS cl c env s)
def tSs (W : WX) (cl : Calls) (c : CSs) : TS := fun E σ H => ∃ env s r G, Gd K T r G H s ∧ EnvR K T r G σ env ∧ OutS K T W E r G H (evSs cl c env s)
end
section
variable {K : PySem.W.Frag} {T : Tb} {W : WX} {E : Ends} {r r' : List Addr} {G G' H H' : Hp} {σ : St}
theorem OutS.le {o : SR} (l : Le r G H r' G' H') (h : OutS K T W E r G H o) : OutS K T W E r' G' H' o := by
  cases o with
  | nx env s => exact fun σ' r2 G2 H2 l2 g e => h σ' r2 G2 H2 (l.trans l2) g e
  | bk env s => exact fun σ' r2 G2 H2 l2 g e => h σ' r2 G2 H2 (l.trans l2) g e
  | ct env s => exact fun σ' r2 G2 H2 l2 g e => h σ' r2 G2 H2 (l.trans l2) g e
  | rt d s => exact fun v r2 G2 H2 l2 g e => h v r2 G2 H2 (l.trans l2) g e
  | err c ds env s => exact fun cv dd σ' r2 G2 H2 l2 g e q => h cv dd σ' r2 G2 H2 (l.trans l2) g e q
  | bad => exact h
/-- an expression, then what a statement does with its value -/
theorem rdgS_bind {γ δ : Type} {RS : List Addr → Hp → γ → δ → Prop} {env : Env} {s : Sto} {ev : Env → Sto → R γ} {f : γ → Sto → SR} {Q1 : δ → Hp → Prop} (g : Gd K T r G H s) (e : EnvR K T r G σ env) (h : OutS K T W E r G H ((ev env s).thn env f))
    (k : ∀ x y r' G' H' s', ev env s = .ok x s' → Le r G H r' G' H' → Gd K T r' G' H' s' → EnvR K T r' G' σ env → RS r' G' x y → OutS K T W E r' G' H' (f x s') → Q1 y H') : Rdg K T RS W ev σ H Q1 := by
  refine ⟨env, s, r, G, g, e, ?_⟩
  cases hq : ev env s with
  | ok x s1 =>
    rw [hq] at h
    exact fun y r2 G2 H2 l2 g2 q => k x y r2 G2 H2 s1 hq l2 g2 (e.le l2) q (OutS.le l2 h)
  | err c ds s1 =>
    rw [hq] at h
    exact fun cv dd r2 G2 H2 l2 g2 q => h cv dd σ r2 G2 H2 l2 g2 (e.le l2) q
  | bad =>
    rw [hq] at h
    exact h.elim
theorem OutS.nxt {env : Env} {s : Sto} (h : OutS K T W E r G H (.nx env s)) (g : Gd K T r G H s) (e : EnvR K T r G σ env) : E.nx σ H := h σ r G H Le.refl g e
end

section
variable {X : Cx} {T : Tb} {W : WX} {cl : Calls} {a b c e : Expr} {ca cb cc ce : CE} {pos pos' : Pos} {st : Stmt} {rest : List Stmt} {cs : CS} {css : CSs} {ces : CEs}
theorem gst_bad : PS X st (tSt X.K T W cl .bad) := imp_s false_s fun E σ H ⟨_, _, _, _, _, _, h⟩ => by
  simp only [evS] at h
  exact h
theorem gss_nil : PSs X [] (tSs X.K T W cl .nil) := imp_ss pss_nil fun E σ H ⟨env, s, r, G, g, e, h⟩ => by
  simp only [evSs] at h
  exact h.nxt g e
theorem gss_cons (h1 : PS X st (tSt X.K T W cl cs)) (h2 : PSs X rest (tSs X.K T W cl css)) : PSs X (st :: rest) (tSs X.K T W cl (.cons cs css)) :=
  imp_ss (pss_cons h1 h2) fun E σ H ⟨env, s, r, G, g, e, h⟩ => ⟨env, s, r, G, g, e, by
    simp only [evSs] at h
    cases hq : evS cl cs env s with
    | nx env1 s1 =>
      rw [hq] at h
      exact fun σ' r' G' H' l g' e' => ⟨env1, s1, r', G', g', e', OutS.le l h⟩
    | bk env1 s1 => rw [hq] at h; exact h
    | ct env1 s1 => rw [hq] at h; exact h
    | rt d s1 => rw [hq] at h; exact h
    | err c ds env1 s1 => rw [hq] at h; exact h
    | bad => rw [hq] at h; exact h⟩
theorem gst_pass : PS X (.Pass pos) (tSt X.K T W cl .pass) := imp_s ps_pass fun E σ H ⟨env, s, r, G, g, e, h⟩ => by
  simp only [evS] at h
  exact h.nxt g e
theorem gst_brk : PS X (.Break pos) (tSt X.K T W cl .brk) := imp_s ps_break fun E σ H ⟨env, s, r, G, g, e, h⟩ => by
  simp only [evS] at h
  exact h σ r G H Le.refl g e
theorem gst_cnt : PS X (.Continue pos) (tSt X.K T W cl .cnt) := imp_s ps_continue fun E σ H ⟨env, s, r, G, g, e, h⟩ => by
  simp only [evS] at h
  exact h σ r G H Le.refl g e
theorem gst_ret (h : PE X e (tE X.K T W cl ce)) : PS X (.Return (some e) pos) (tSt X.K T W cl (.ret ce)) :=
  imp_s (ps_ret h) fun E σ H ⟨env, s, r, G, g, e, h⟩ => by
    simp only [evS] at h
    exact rdgS_bind g e h fun x y r1 G1 H1 s1 _ l1 g1 e1 hx h1 => h1 y r1 G1 H1 Le.refl g1 hx
theorem gst_expr (h : PE X e (tE X.K T W cl ce)) (hs : PS X (.Expr e pos) (tDrop (tE X.K T W cl ce))) : PS X (.Expr e pos) (tSt X.K T W cl (.expr ce)) :=
  imp_s hs fun E σ H ⟨env, s, r, G, g, e, h⟩ => by
    simp only [evS] at h
    exact rdgS_bind g e h fun x y r1 G1 H1 s1 _ l1 g1 e1 hx h1 => h1.nxt g1 e1
theorem gst_if {t u : List Stmt} {ct cu : CSs} (hc : PT X c (tQ X.K T W cl cc)) (ht : PSs X t (tSs X.K T W cl ct)) (hu : PSs X u (tSs X.K T W cl cu)) : PS X (.If c t u pos) (tSt X.K T W cl (.iff cc ct cu)) :=
  imp_s (ps_if hc ht hu) fun E σ H ⟨env, s, r, G, g, e, h⟩ => by
    simp only [evS] at h
    refine rdgS_bind g e h fun x y r1 G1 H1 s1 ex l1 g1 e1 hx h1 => ?_
    clear ex
    cases x <;> first | exact h1.elim | skip
    rename_i i
    cases rp_bl hx
    refine ⟨i, rfl, ?_⟩
    cases i with
    | true => exact ⟨env, s1, r1, G1, g1, e1, h1⟩
    | false => exact ⟨env, s1, r1, G1, g1, e1, h1⟩
/-- x = e, a, b = e -/
theorem gst_asg {te : TE} {g0 : TG} {tgs : List Nat} (h : PS X st (tAsg te g0)) (hi : ∀ σ H Q, tE X.K T W cl ce σ H Q → te σ H Q) (hT : TgOk X.K T g0 tgs) : PS X st (tSt X.K T W cl (.asg tgs ce)) :=
  imp_s h fun E σ H ⟨env, s, r, G, g, e, h⟩ => by
    simp only [evS] at h
    refine hi σ H _ (rdgS_bind g e h fun x y r1 G1 H1 s1 _ l1 g1 e1 hx h1 => ?_)
    cases hs : setTg env tgs x with
    | none => rw [hs] at h1; exact h1.elim
    | some env2 =>
      rw [hs] at h1
      exact hT r1 G1 H1 σ env env2 x y _ e1 g1.exH hx hs fun σ2 e2 _ => h1 σ2 r1 G1 H1 Le.refl g1 e2
theorem setAll2 {env env1 : Env} {i j : Nat} {ds : List D} (h : setAll env [i, j] ds = some env1) : ∃ d1 d2, ds = [d1, d2] ∧ env1 = (env.set i (some d1)).set j (some d2) := by
  cases ds with
  | nil => cases h
  | cons d1 t =>
    cases t with
    | nil => cases h
    | cons d2 t2 =>
      cases t2 with
      | nil => cases h; exact ⟨d1, d2, rfl, rfl⟩
      | cons d3 t3 => cases h
theorem setAll3 {env env1 : Env} {i j l : Nat} {ds : List D} (h : setAll env [i, j, l] ds = some env1) : ∃ d1 d2 d3, ds = [d1, d2, d3] ∧ env1 = ((env.set i (some d1)).set j (some d2)).set l (some d3) := by
  cases ds with
  | nil => cases h
  | cons d1 t =>
    obtain ⟨d2, d3, rfl, e⟩ := setAll2 (show setAll (env.set i (some d1)) [j, l] t = some env1 from h)
    exact ⟨d1, d2, d3, rfl, e⟩
theorem gst_par {i j : Nat} (h : PS X st (tPar i j (tL X.K T W cl ces))) : PS X st (tSt X.K T W cl (.par [i, j] ces)) :=
  imp_s h fun E σ H ⟨env, s, r, G, g, e, h⟩ => by
    simp only [evS] at h
    refine rdgS_bind g e h fun ds vs r1 G1 H1 s1 _ l1 g1 e1 hx h1 => ?_
    cases hs : setAll env [i, j] ds with
    | none => rw [hs] at h1; exact h1.elim
    | some env1 =>
      rw [hs] at h1
      obtain ⟨d1, d2, rfl, rfl⟩ := setAll2 hs
      obtain ⟨v, t, rfl, k1, k2⟩ := hx.cons_inv
      obtain ⟨u, t2, rfl, k3, k4⟩ := k2.cons_inv
      have := k4.nil_inv
      subst this
      exact ⟨v, u, rfl, h1.nxt g1 ((e1.set i k1).set j k3)⟩
theorem gst_par3 {i j l : Nat} (h : PS X st (tPar3 i j l (tL X.K T W cl ces))) : PS X st (tSt X.K T W cl (.par [i, j, l] ces)) :=
  imp_s h fun E σ H ⟨env, s, r, G, g, e, h⟩ => by
    simp only [evS] at h
    refine rdgS_bind g e h fun ds vs r1 G1 H1 s1 _ l1 g1 e1 hx h1 => ?_
    cases hs : setAll env [i, j, l] ds with
    | none => rw [hs] at h1; exact h1.elim
    | some env1 =>
      rw [hs] at h1
      obtain ⟨d1, d2, d3, rfl, rfl⟩ := setAll3 hs
      obtain ⟨v, t, rfl, k1, k2⟩ := hx.cons_inv
      obtain ⟨u, t2, rfl, k3, k4⟩ := k2.cons_inv
      obtain ⟨w, t3, rfl, k5, k6⟩ := k4.cons_inv
      have := k6.nil_inv
      subst this
      exact ⟨v, u, w, rfl, h1.nxt g1 (((e1.set i k1).set j k3).set l k5)⟩
theorem isLL_inv {s : Sto} {x : D} (h : isLL s x = true) : ∃ n ds, x = .loc n ∧ s[n]? = some (.lst ds) := by
  cases x <;> first | (cases h; done) | skip
  rename_i n
  unfold isLL at h
  simp only at h
  split at h
  · rename_i ds hds
    exact ⟨n, ds, rfl, hds⟩
  · cases h
theorem appD_inv {x v : D} {s2 s3 : Sto} (h : appD s2 x v = some s3) : ∃ n ds, x = .loc n ∧ s2[n]? = some (.lst ds) ∧ Nat.blt ds.length cap = true ∧ s3 = s2.set n (.lst (ds ++ [v])) := by
  cases x <;> first | (cases h; done) | skip
  rename_i n
  unfold appD at h
  simp only at h
  split at h
  · rename_i ds hds
    split at h
    · rename_i hc
      cases h
      exact ⟨n, ds, rfl, hds, hc, rfl⟩
    · cases h
  · cases h
theorem rp_loc {K : PySem.W.Frag} {r : List Addr} {G : Hp} {n : Nat} {v : V} (h : Rp K T r G (.loc n) v) : ∃ a, v = .ref a ∧ r[n]? = some a := by unfold Rp at h; exact h
/-- o.append(e) -/
theorem gst_app (h : PS X st (tDrop (tBM X.K "list" rAppend (tE X.K T W cl ca) (tL X.K T W cl (.cons cb .nil))))) : PS X st (tSt X.K T W cl (.app ca cb)) :=
  imp_s h fun E σ H ⟨env, s, r, G, g, e, h⟩ => by
    simp only [evS] at h
    show tE X.K T W cl ca σ H _
    refine rdgS_bind g e h fun x y r1 G1 H1 s1 ex l1 g1 e1 hx h1 => ?_
    split at h1
    · rename_i hc
      obtain ⟨n, ds, rfl, hs⟩ := isLL_inv hc
      obtain ⟨a, rfl, ha⟩ := rp_loc hx
      obtain ⟨xs, k1, k2⟩ := g1.obj n a _ ha hs
      refine ⟨.inl ⟨rfl, xs, SqL.of k1⟩, ?_⟩
      -- the argument
      refine ⟨env, s1, r1, G1, g1, e1, ?_⟩
      simp only [evEs]
      cases hqb : evE cl cb env s1 with
      | bad => rw [hqb] at h1; exact h1.elim
      | err c ds' s2 =>
        rw [hqb] at h1
        exact fun cv dd r2 G2 H2 l2 g2 q => h1 cv dd σ r2 G2 H2 l2 g2 (e1.le l2) q
      | ok v s2 =>
        rw [hqb] at h1
        intro vs r2 G2 H2 l2 g2 hvs
        obtain ⟨u, t, rfl, m1, m2⟩ := hvs.cons_inv
        have := m2.nil_inv
        subst this
        have h1 : OutS X.K T W E r1 G1 H1 (match appD s2 (.loc n) v with | some s3 => .nx env s3 | none => .bad) := h1
        cases hap : appD s2 (.loc n) v with
        | none => rw [hap] at h1; exact h1.elim
        | some s3 =>
          rw [hap] at h1
          obtain ⟨n', ds2, e0, hs2, hcap, rfl⟩ := appD_inv hap
          cases e0
          have ha2 := l2.pre n a ha
          obtain ⟨ys, j1, j2⟩ := g2.obj n a _ ha2 hs2
          refine ⟨a, ys, u, rfl, rfl, j1, by rw [j2.length]; exact cap_lt hcap, ?_⟩
          exact h1 σ r2 G2 _ (l2.trans (le_put g2 (List.mem_of_getElem? ha2) _)) (g2.put ha2 ⟨_, rfl, j2.snoc m1⟩) (e1.le l2)
    · exact h1.elim
theorem setD_inv {s s' : Sto} {x i v : D} (h : setD s x i v = some s') : ∃ n, x = .loc n ∧ ((∃ ds j k, s[n]? = some (.lst ds) ∧ i = .int j ∧ ixN ds.length j = some k ∧ s' = s.set n (.lst (ds.set k v))) ∨
    ∃ kvs k, s[n]? = some (.dic kvs) ∧ keyOf i = some k ∧ Nat.blt kvs.length cap = true ∧ s' = s.set n (.dic (put k v kvs))) := by
  cases x <;> first | (cases h; done) | skip
  rename_i n
  refine ⟨n, rfl, ?_⟩
  unfold setD at h
  simp only at h
  split at h
  · rename_i ds hds
    cases i <;> first | (cases h; done) | skip
    rename_i j
    simp only at h
    cases hk : ixN ds.length j with
    | none => rw [hk] at h; cases h
    | some k =>
      rw [hk] at h
      cases h
      exact .inl ⟨ds, j, k, hds, rfl, hk, rfl⟩
  · rename_i kvs hds
    cases hk : keyOf i with
    | none => rw [hk] at h; cases h
    | some k =>
      rw [hk] at h
      simp only [Option.bind_some] at h
      split at h
      · rename_i hc
        cases h
        exact .inr ⟨kvs, k, hds, rfl, hc, rfl⟩
      · cases h
  · cases h
theorem put_ok {K : PySem.W.Frag} {r : List Addr} {G : Hp} {k : L2.Key} {v : D} {u : V} (hv : Rp K T r G v u) : ∀ {kvs : List (L2.Key × D)} {ws : List (L2.Key × V)}, (ws.map (·.1)).Nodup → KvR K T r G kvs ws → KvR K T r G (put k v kvs) (putK ws k u)
  | [], ws, _, h => by
    have h : ws = [] := h
    subst h
    exact ⟨(k, u), [], rfl, rfl, hv, rfl⟩
  | p :: kvs, ws, nd, h => by
    obtain ⟨q, t, rfl, e1, e2, e3⟩ := h
    have nd' := List.nodup_cons.mp (show (q.1 :: t.map (·.1)).Nodup from nd)
    unfold put
    by_cases hk : p.1 = k
    · rw [if_pos (decide_eq_true hk)]
      have hq : q.1 = k := e1.trans hk
      have : putK (q :: t) k u = (k, u) :: t := by
        unfold putK
        rw [if_pos (by rw [List.any_cons, decide_eq_true hq]; rfl), List.map_cons, if_pos hq, hq]
        congr 1
        have : ∀ z ∈ t, (if z.1 = k then (z.1, u) else z) = id z := fun z hz => if_neg fun hz2 => nd'.1 (List.mem_map.mpr ⟨z, hz, by rw [hz2, hq]⟩)
        rw [List.map_congr_left this, List.map_id]
      rw [this]
      exact ⟨(k, u), t, rfl, rfl, hv, e3⟩
    · rw [if_neg (by rw [decide_eq_false hk]; decide)]
      have hq : q.1 ≠ k := fun z => hk (e1.symm.trans z)
      have ih := put_ok (k := k) (kvs := kvs) (ws := t) hv nd'.2 e3
      have : putK (q :: t) k u = q :: putK t k u := by
        unfold putK
        rw [List.any_cons, decide_eq_false hq, Bool.false_or]
        split
        · rw [List.map_cons, if_neg hq]
        · rfl
      rw [this]
      exact ⟨q, putK t k u, rfl, e1, e2, ih⟩
theorem put_keys (k : L2.Key) (v : D) : ∀ kvs : List (L2.Key × D), (kvs.map (·.1)).Nodup → ((put k v kvs).map (·.1)).Nodup ∧ ∀ x ∈ (put k v kvs).map (·.1), x = k ∨ x ∈ kvs.map (·.1)
  | [], _ => ⟨by simp [put], fun x hx => .inl (by simpa [put] using hx)⟩
  | p :: kvs, nd => by
    have nd' := List.nodup_cons.mp (show (p.1 :: kvs.map (·.1)).Nodup from nd)
    unfold put
    by_cases hk : p.1 = k
    · rw [if_pos (decide_eq_true hk)]
      subst hk
      exact ⟨nd, fun x hx => .inr hx⟩
    · rw [if_neg (by rw [decide_eq_false hk]; decide)]
      obtain ⟨i1, i2⟩ := put_keys k v kvs nd'.2
      refine ⟨List.nodup_cons.mpr ⟨fun hm => ?_, i1⟩, fun x hx => ?_⟩
      · rcases i2 p.1 hm with z | z
        · exact hk z
        · exact nd'.1 z
      · rcases List.mem_cons.mp hx with z | z
        · exact .inr (z ▸ List.mem_cons_self ..)
        · rcases i2 x z with z | z
          · exact .inl z
          · exact .inr (List.mem_cons_of_mem _ z)
theorem kvr_len {K : PySem.W.Frag} {r : List Addr} {G : Hp} {kvs : List (L2.Key × D)} {ws : List (L2.Key × V)} (h : KvR K T r G kvs ws) : ws.length = kvs.length := by
  have := congrArg List.length h.keys
  simpa using this
/-- o[i] = e -/
theorem gst_setI (h1 : PS X st (tAsg (tE X.K T W cl ce) (gSub (tE X.K T W cl ca) (tE X.K T W cl cb) rSetL))) (h2 : PS X st (sDPut (tE X.K T W cl ca) (tE X.K T W cl cb) (tE X.K T W cl ce))) : PS X st (tSt X.K T W cl (.setI ca cb ce)) :=
  imp_s (or_s h1 h2) fun E σ H ⟨env, s, r, G, g, e, h⟩ => by
    simp only [evS] at h
    -- which of both: by what stands behind all three
    by_cases hl : ∃ v s1 x s2 y s3 n kvs, evE cl ce env s = .ok v s1 ∧ evE cl ca env s1 = .ok x s2 ∧ evE cl cb env s2 = .ok y s3 ∧ x = .loc n ∧ s3[n]? = some (.dic kvs)
    · obtain ⟨v, s1, x, s2, y, s3, n, kvs, q1, q2, q3, rfl, q4⟩ := hl
      refine .inr (rdgS_bind g e h fun v' u r1 G1 H1 s1' x1 l1 g1 e1 hv h1 => rdgS_bind g1 e1 h1 fun x' a' r2 G2 H2 s2' x2 l2 g2 e2 hx h2 => rdgS_bind g2 e2 h2 fun y' k' r3 G3 H3 s3' x3 l3 g3 e3 hy h3 => ?_)
      rw [q1] at x1; cases x1
      rw [q2] at x2; cases x2
      rw [q3] at x3; cases x3
      cases hset : setD s3 (.loc n) y v with
      | none => rw [hset] at h3; exact h3.elim
      | some s4 =>
        rw [hset] at h3
        obtain ⟨n', e0, hcase⟩ := setD_inv hset
        cases e0
        rcases hcase with ⟨ds, j, k, z1, _⟩ | ⟨kvs', k, z1, z2, z3, rfl⟩
        · rw [q4] at z1; cases z1
        · rw [q4] at z1
          cases z1
          obtain ⟨a, rfl, ha⟩ := rp_loc (hx.le l3)
          obtain ⟨ws, j1, j2, j3⟩ := g3.obj n a _ ha q4
          have hkv : k' = kV k := by
            unfold keyOf at z2
            split at z2 <;> first | (cases z2; done) | skip
            · cases z2; exact rp_int hy
            · cases z2; unfold Rp at hy; exact hy
          refine ⟨a, _, rfl, .inl ⟨ws, k, j1, hkv, by rw [kvr_len j2]; exact cap_lt z3, rfl⟩, ?_⟩
          exact h3 σ r3 G3 _ (le_put g3 (List.mem_of_getElem? ha) _) (g3.put ha ⟨_, rfl, put_ok ((hv.le l2).le l3) (by rw [j2.keys]; exact j3) j2, (put_keys k v kvs j3).1⟩) e3
    · refine .inl (rdgS_bind g e h fun v u r1 G1 H1 s1 x1 l1 g1 e1 hv h1 => rdgS_bind g1 e1 h1 fun x a' r2 G2 H2 s2 x2 l2 g2 e2 hx h2 => rdgS_bind g2 e2 h2 fun y k' r3 G3 H3 s3 x3 l3 g3 e3 hy h3 => ?_)
      cases hset : setD s3 x y v with
      | none => rw [hset] at h3; exact h3.elim
      | some s4 =>
        rw [hset] at h3
        obtain ⟨n, rfl, hcase⟩ := setD_inv hset
        rcases hcase with ⟨ds, j, k, z1, rfl, z2, rfl⟩ | ⟨kvs', k, z1, z2, z3, rfl⟩
        · obtain ⟨a, rfl, ha⟩ := rp_loc (hx.le l3)
          obtain ⟨xs, j1, j2⟩ := g3.obj n a _ ha z1
          cases rp_int hy
          refine ⟨a, xs, j, k, rfl, rfl, j1, by rw [j2.length]; exact z2, ?_⟩
          exact h3 σ r3 G3 _ (le_put g3 (List.mem_of_getElem? ha) _) (g3.put ha ⟨_, rfl, j2.set k ((hv.le l2).le l3)⟩) e3
        · exact absurd ⟨v, s1, _, s2, y, s3, n, kvs', x1, x2, x3, rfl, z1⟩ hl
end
end T5

set_option Elab.async false
set_option linter.all false
set_option maxRecDepth 100000
set_option maxHeartbeats 1000000
/-! T5: loops, displayed dicts. -/
namespace T5
open PySem PySem.Spec L2
open Evl (Ex)
section
variable {X : Cx} {T : Tb} {W : WX} {cl : Calls} {st : Stmt} {ci cc : CE} {cb : CSs} {g0 : TG} {tgs : List Nat}
/-- for target in iter: body -/
theorem gst_for (h : PS X st (tFor (tI X.K T W cl ci) g0 (tSs X.K T W cl cb))) (hT : TgOk X.K T g0 tgs) : PS X st (tSt X.K T W cl (.loop tgs ci cb)) :=
  imp_s h fun E σ H ⟨env, s, r, G, g, e, h⟩ => by
    simp only [evS] at h
    refine ⟨env, s, r, G, g, e, ?_⟩
    cases hq : evE cl ci env s with
    | bad => rw [hq] at h; exact h.elim
    | err c ds s1 =>
      rw [hq] at h
      exact fun cv dd r2 G2 H2 l2 g2 q => h cv dd σ r2 G2 H2 l2 g2 (e.le l2) q
    | ok d s1 =>
      rw [hq] at h
      simp only [R.thn] at h
      cases hi : seqOf d with
      | none => rw [hi] at h; exact h.elim
      | some items =>
        rw [hi] at h
        simp only at h
        generalize hf : (fun (y : D) (env1 : Env) (s2 : Sto) => (match setTg env1 tgs y with | some env2 => evSs cl cb env2 s2 | none => SR.bad)) = f at h
        refine ⟨items, hi, fun J r1 G1 H1 l1 g1 hJ => ?_⟩
        refine ⟨fun i m σi Hi => m = items.length - i ∧ i ≤ items.length ∧ ∃ ri Gi si envi, Gd X.K T ri Gi Hi si ∧ Le r1 G1 H1 ri Gi Hi ∧ EnvR X.K T ri Gi σi envi ∧ OutS X.K T W E ri Gi Hi (forL f (items.drop i) envi si),
          ⟨items.length, by omega, by omega, r1, G1, s1, env, g1, Le.refl, e.le l1, OutS.le l1 h⟩, ?_⟩
        rintro i m σi Hi ⟨rfl, hile, ri, Gi, si, envi, gi, li, ei, ho⟩
        have hJi := hJ ri Gi Hi si li.pre li.ex gi i
        by_cases hlt : i < items.length
        · refine .inr ⟨hJi.1 hlt, fun σ' H' => i + 1 ≤ items.length ∧ ∃ ri Gi si envi, Gd X.K T ri Gi H' si ∧ Le r1 G1 H1 ri Gi H' ∧ EnvR X.K T ri Gi σ' envi ∧ OutS X.K T W E ri Gi H' (forL f (items.drop (i + 1)) envi si),
            fun σ' H' hN => ⟨items.length - (i + 1), by omega, rfl, hN.1, hN.2⟩, fun x H' hy => ?_⟩
          have hdi : items[i]? = some items[i] := List.getElem?_eq_getElem hlt
          obtain ⟨G', l2, g2, hx⟩ := hJi.2.2 x H' items[i] hdi hy
          rw [List.drop_eq_getElem_cons hlt] at ho
          unfold forL at ho
          have hfi : f items[i] envi si = (match setTg envi tgs items[i] with | some env2 => evSs cl cb env2 si | none => SR.bad) := by rw [← hf]
          cases hset : setTg envi tgs items[i] with
          | none =>
            rw [hset] at hfi
            rw [hfi] at ho
            exact ho.elim
          | some env2 =>
            rw [hset] at hfi
            simp only at hfi
            refine hT ri G' H' σi envi env2 items[i] x _ (ei.le l2) g2.exH hx hset fun σ2 e2 _ => ⟨env2, si, ri, G', g2, e2, ?_⟩
            cases hb : evSs cl cb env2 si with
            | nx env3 s3 =>
              rw [hfi, hb] at ho
              exact fun σ' r3 G3 H3 l3 g3 e3 => ⟨by omega, r3, G3, s3, env3, g3, (li.trans l2).trans l3, e3, OutS.le (l2.trans l3) ho⟩
            | ct env3 s3 =>
              rw [hfi, hb] at ho
              exact fun σ' r3 G3 H3 l3 g3 e3 => ⟨by omega, r3, G3, s3, env3, g3, (li.trans l2).trans l3, e3, OutS.le (l2.trans l3) ho⟩
            | bk env3 s3 =>
              rw [hfi, hb] at ho
              exact fun σ' r3 G3 H3 l3 g3 e3 => ho σ' r3 G3 H3 (l2.trans l3) g3 e3
            | rt d' s3 =>
              rw [hfi, hb] at ho
              exact fun v r3 G3 H3 l3 g3 e3 => ho v r3 G3 H3 (l2.trans l3) g3 e3
            | err c ds env3 s3 =>
              rw [hfi, hb] at ho
              exact fun cv dd σ' r3 G3 H3 l3 g3 e3 q => ho cv dd σ' r3 G3 H3 (l2.trans l3) g3 e3 q
            | bad =>
              rw [hfi, hb] at ho
              exact ho
        · have e' : i = items.length := by omega
          subst e'
          refine .inl ⟨hJi.2.1 rfl, ?_⟩
          rw [List.drop_length] at ho
          unfold forL at ho
          exact ho.nxt gi ei
theorem gst_while (h : PS X st (tWhile (tQ X.K T W cl cc) (tSs X.K T W cl cb))) : PS X st (tSt X.K T W cl (.whl cc cb)) :=
  imp_s h fun E σ H ⟨env, s, r, G, g, e, h⟩ => by
    simp only [evS] at h
    refine ⟨fun m σ H => ∃ env s r G, Gd X.K T r G H s ∧ EnvR X.K T r G σ env ∧ OutS X.K T W E r G H (whlL (evE cl cc) (evSs cl cb) m env s), ⟨100000, env, s, r, G, g, e, h⟩, ?_⟩
    rintro m σ H ⟨env, s, r, G, g, e, h⟩
    cases m with
    | zero => exact h.elim
    | succ n =>
      unfold whlL at h
      refine rdgS_bind g e h fun x y r1 G1 H1 s1 ex l1 g1 e1 hx h1 => ?_
      clear ex
      cases x <;> first | exact h1.elim | skip
      rename_i i
      cases rp_bl hx
      refine ⟨i, rfl, ?_⟩
      cases i with
      | false => exact h1.nxt g1 e1
      | true =>
        show ∃ N : St → Hp → Prop, (∀ σ' H', N σ' H' → ∃ m', m' < n + 1 ∧ _) ∧ tSs X.K T W cl cb { nx := N, rt := E.rt, bk := E.nx, ct := N } σ H1
        refine ⟨fun σ' H' => ∃ env s r G, Gd X.K T r G H' s ∧ EnvR X.K T r G σ' env ∧ OutS X.K T W E r G H' (whlL (evE cl cc) (evSs cl cb) n env s), fun σ' H' hN => ⟨n, Nat.lt_succ_self n, hN⟩, env, s1, r1, G1, g1, e1, ?_⟩
        simp only at h1
        cases hb : evSs cl cb env s1 with
        | nx env3 s3 =>
          rw [hb] at h1
          exact fun σ' r3 G3 H3 l3 g3 e3 => ⟨env3, s3, r3, G3, g3, e3, OutS.le l3 h1⟩
        | ct env3 s3 =>
          rw [hb] at h1
          exact fun σ' r3 G3 H3 l3 g3 e3 => ⟨env3, s3, r3, G3, g3, e3, OutS.le l3 h1⟩
        | bk env3 s3 => rw [hb] at h1; exact h1
        | rt d' s3 => rw [hb] at h1; exact h1
        | err c ds env3 s3 => rw [hb] at h1; exact h1
        | bad => rw [hb] at h1; exact h1
end

/-! ### {k: e, ..} -/
def trsOf (K : PySem.W.Frag) (T : Tb) (W : WX) (cl : Calls) : List L2.Key → CEs → List (TE × TE)
  | k :: ks, .cons c cs => (tC (kV k), tE K T W cl c) :: trsOf K T W cl ks cs
  | _, _ => []
def CEs.len : CEs → Nat
  | .nil => 0
  | .cons _ cs => cs.len + 1
  | .star _ _ => 1000000
section
variable {X : Cx} {T : Tb} {W : WX} {cl : Calls} {pos : Pos}
theorem pairs_run {K : PySem.W.Frag} {σ : St} {env : Env} : ∀ (ks : List L2.Key) (cs : CEs) (r : List Addr) (G H : Hp) (s : Sto) (Q : List (V × V) → Hp → Prop), ks.length ≤ 15 → ks.length = cs.len → Gd K T r G H s → EnvR K T r G σ env →
    Out K T (RpL K T) W σ (fun vs H' => Q ((ks.map kV).zip vs) H') r G H (evEs cl cs env s) → tPairs (trsOf K T W cl ks cs) σ H Q
  | ks, .nil, r, G, H, s, Q, h15, hl, g, e, h => by
    simp only [evEs] at h
    have hk : ks = [] := List.eq_nil_of_length_eq_zero hl
    subst hk
    exact h [] r G H Le.refl g .nil
  | ks, .star c cs, r, G, H, s, Q, h15, hl, g, e, h => absurd hl (fun z => by rw [z] at h15; exact absurd h15 (show ¬ (1000000 ≤ 15) by decide))
  | [], .cons c cs, r, G, H, s, Q, h15, hl, g, e, h => by cases hl
  | k :: ks, .cons c cs, r, G, H, s, Q, h15, hl, g, e, h => by
    simp only [evEs] at h
    show tE K T W cl c σ H fun y H2 => tPairs (trsOf K T W cl ks cs) σ H2 fun ps H3 => Q ((kV k, y) :: ps) H3
    refine rdg_bind g e h fun x v r1 G1 H1 s1 l1 g1 e1 hx h1 => ?_
    refine pairs_run ks cs r1 G1 H1 s1 _ (Nat.le_of_succ_le h15) (Nat.succ.inj hl) g1 e1 ?_
    cases hq : evEs cl cs env s1 with
    | bad => rw [hq] at h1; exact h1
    | err c' ds s2 => rw [hq] at h1; exact h1
    | ok ds s2 =>
      rw [hq] at h1
      intro vs r2 G2 H2 l2 g2 hvs
      exact h1 (v :: vs) r2 G2 H2 l2 g2 (.cons (hx.le l2) hvs)
/-- the values one by one -/
inductive Each (X : Cx) (T : Tb) (W : WX) (cl : Calls) : List (Option Expr) → List Expr → List L2.Key → CEs → Prop
  | nil : Each X T W cl [] [] [] .nil
  | cons {k v : Expr} {ks : List (Option Expr)} {vs : List Expr} {key : L2.Key} {keys : List L2.Key} {c : CE} {cs : CEs} : PE X k (tC (kV key)) → PE X v (tE X.K T W cl c) → Each X T W cl ks vs keys cs → Each X T W cl (some k :: ks) (v :: vs) (key :: keys) (.cons c cs)
theorem Each.pps {keys : List (Option Expr)} {values : List Expr} {ks : List L2.Key} {cs : CEs} (h : Each X T W cl keys values ks cs) : PPs X pos keys values (trsOf X.K T W cl ks cs) ∧ ks.length = cs.len ∧ (keys.all fun x => x.isSome) = true ∧ keys.length = values.length ∧ keys.length = ks.length := by
  induction h with
  | nil => exact ⟨pps_nil, rfl, rfl, rfl, rfl⟩
  | cons h1 h2 h3 ih =>
    obtain ⟨i1, i2, i3, i4, i5⟩ := ih
    refine ⟨pps_cons h1 h2 i1, congrArg Nat.succ i2, by simpa using i3, congrArg Nat.succ i4, congrArg Nat.succ i5⟩
/-- what a display comes to -/
theorem fold_put {K : PySem.W.Frag} {r : List Addr} {G : Hp} : ∀ (ks : List L2.Key) (ds : List D) (vs : List V) (m : List (L2.Key × D)) (ws : List (L2.Key × V)), RpL K T r G ds vs → KvR K T r G m ws → (m.map (·.1)).Nodup →
    KvR K T r G ((ks.zip ds).foldl (fun m p => put p.1 p.2 m) m) ((ks.zip vs).foldl (fun acc kv => putK acc kv.1 kv.2) ws) ∧ (((ks.zip ds).foldl (fun m p => put p.1 p.2 m) m).map (·.1)).Nodup
  | [], ds, vs, m, ws, _, h, nd => ⟨h, nd⟩
  | k :: ks, [], vs, m, ws, hv, h, nd => by
    rw [hv.nil_inv]
    exact ⟨h, nd⟩
  | k :: ks, d :: ds, vs, m, ws, hv, h, nd => by
    obtain ⟨v, t, rfl, h1, h2⟩ := hv.cons_inv
    exact fold_put ks ds t (put k d m) (putK ws k v) h2 (put_ok h1 (by rw [h.keys]; exact nd) h) (put_keys k d m nd).1
theorem zip_kv : ∀ (ks : List L2.Key) (vs : List V), (ks.map kV).zip vs = (ks.zip vs).map fun kv => (kV kv.1, kv.2)
  | [], _ => rfl
  | _ :: _, [] => rfl
  | k :: ks, v :: vs => by
    rw [List.map_cons, List.zip_cons_cons, List.zip_cons_cons, List.map_cons, zip_kv ks vs]
theorem ge_dic {keys : List (Option Expr)} {values : List Expr} {ks : List L2.Key} {cs : CEs} (h : Each X T W cl keys values ks cs) (hne : keys ≠ []) (h15 : keys.length ≤ 15) : PE X (.Dict keys values pos) (tE X.K T W cl (.dic ks cs)) := by
  obtain ⟨i1, i2, i3, i4, i5⟩ := h.pps (pos := pos)
  refine imp_e (pe_disp i1 i3 i4 hne h15) fun σ H Q ⟨env, s, r, G, g, e, h⟩ p hp => ?_
  simp only [evE] at h
  have g1 := g.tmp (g.not_in hp) (g.g_none hp) (.none hp) (.dK [])
  have l1 := le_tmp g hp (.dK [])
  refine pairs_run ks cs r G _ s _ (by rw [← i5]; exact h15) i2 g1 e ?_
  cases hq : evEs cl cs env s with
  | bad => rw [hq] at h; exact h
  | err c ds s1 =>
    rw [hq] at h
    exact fun cv dd r2 G2 H2 l2 g2 q => h cv dd r2 G2 H2 (l1.trans l2) g2 q
  | ok ds s1 =>
    rw [hq] at h
    simp only [R.bind] at h
    intro vs r2 G2 H2 l2 g2 hvs
    split at h
    · rename_i hc
      have hc' := Bool.and_eq_true_iff.mp hc
      have hlen : ks.length = ds.length := Nat.eq_of_beq_eq_true hc'.1
      have hpH : H2 p = some (.dK []) := l2.kp p _ (g.not_in hp) upd_same (fun _ z => by cases z)
      have hpr : p ∉ r2 := l2.out (g.not_in hp) (upd_same (H := H) (a := p) (o := .dK []))
      have hpG : G2 p = none := by
        cases q : G2 p with
        | none => rfl
        | some o' =>
          rcases l2.nw p o' q with z | z | ⟨_, z, _, z'⟩
          · rw [g.g_none hp] at z; cases z
          · rw [upd_same] at z; cases z
          · rw [upd_same, z'] at z; cases z
      refine ⟨hpH, ks.zip vs, zip_kv ks vs, ?_, ?_⟩
      · rw [List.length_zip]
        omega
      · obtain ⟨f1, f2⟩ := fold_put ks ds vs [] [] hvs rfl List.nodup_nil
        have hd := g2.del hpr hpG (.dK hpH)
        have hll : Le r G H r2 G2 (T5.del H2 p) := (l1.trans l2).del hp
        have hb := hd.box (p := p) del_at (o := .dK (mergeK [] (ks.zip vs))) (so := .dic ((ks.zip ds).foldl (fun m p => put p.1 p.2 m) [])) ⟨_, rfl, f1, f2⟩
        have hbl := le_box hd (p := p) del_at (.dK (mergeK [] (ks.zip vs)))
        have eu : upd (T5.del H2 p) p (.dK (mergeK [] (ks.zip vs))) = upd H2 p (.dK (mergeK [] (ks.zip vs))) := by
          funext b
          by_cases eb : b = p
          · subst eb; rw [upd_same, upd_same]
          · rw [upd_ne eb, upd_ne eb, del_ne eb]
        rw [eu] at hb hbl
        refine h (.ref p) (r2 ++ [p]) G2 _ (hll.trans hbl) hb ?_
        unfold Rp
        exact ⟨p, rfl, by rw [← hd.len]; simp⟩
    · exact h.elim
end
end T5

set_option Elab.async false
set_option linter.all false
set_option maxRecDepth 100000
set_option maxHeartbeats 4000000
/-! T5: enumerate of a tuple. -/
namespace PySem
open Sem (wp)
open AutoSeq1 (wpAny_loadPart')
theorem t5_meets_enum_newT (l : Addr) (items : Array Value) (n : Nat) (dct : Option Addr) (sl : Array (Option Value)) :
    Meets (Builtin.«enumerate.__new__» ⟨[.type "enumerate", .ref l], []⟩) (fun _ R s => s.heap.get? l = some { cls := .type "tuple", dict := dct, data := .seq items n, slots := sl } ∧
      R (.ok (.ret (.ref (s.heap.push { cls := .type "tuple_iterator", data := .fields #[.ref l, .int 0 0] }).objs.size)))
        { s with heap := (s.heap.push { cls := .type "tuple_iterator", data := .fields #[.ref l, .int 0 0] }).push { cls := .type "enumerate", data := .fields #[.none, .bool false, .ref s.heap.objs.size, rawInt 0, .none, .none] } }) :=
  .of_wp fun prog w A R s h => by
    obtain ⟨hp, g, d, tk, os⟩ := s; obtain ⟨hl, h⟩ := h
    have hsub := sub_enumerate
    have hL : Heap.IsTuple (Shared.heap ⟨hp, g, d, tk, os⟩) l items := ⟨_, hl, rfl, n, rfl⟩
    wp_walk using wpAny_loadPart' hl
    refine wpAny_stack_any fun st => wpAny_pure ?_
    split
    · rename_i c _ _ _ _ _
      cases (c == Value.type "enumerate")
      · wp_walk using wpAny_loadPart' hl, wpAny_pyIter_tuple hL
        exact ⟨_, rfl, h⟩
      · wp_walk using wpAny_loadPart' hl, wpAny_pyIter_tuple hL
        exact ⟨_, rfl, h⟩
    · wp_walk using wpAny_loadPart' hl, wpAny_pyIter_tuple hL
      exact ⟨_, rfl, h⟩
section
variable {prog : Program} {w : World} {A : Around} {E : Value → Shared → Prop} {s : Shared}
theorem t5_call_enumT {l : Addr} {items : Array Value} {Q : Value → Shared → Prop} (hL : s.heap.IsTuple l items)
    (h : ∀ h', IsEnum h' (s.heap.objs.size + 1) s.heap.objs.size 0 .none → h'.IsTupleIter s.heap.objs.size l 0 → h'.objs.size = s.heap.objs.size + 2 →
      (∀ b o, s.heap.get? b = some o → h'.get? b = some o) → Q (.ref (s.heap.objs.size + 1)) { s with heap := h' }) :
    wpAny (model prog w) A (call (.type "enumerate") [.ref l]) Q E s := by
  obtain ⟨⟨c, dct, dt, sl⟩, hl, hc, n, hd⟩ := hL
  replace hc : c = .type "tuple" := hc
  replace hd : dt = .seq items n := hd
  subst hc hd
  refine callType_new F.called_enumerate (by decide) (F.typeCall_enumerate_1 _) (F.newCall_enumerate_1 _) (fun obj => F.args_object_init_2 obj _) F.entry_enumerate_new
    (t5_meets_enum_newT l items n dct sl) ⟨hl, ?_⟩
  have hz : (s.heap.push { cls := .type "tuple_iterator", data := .fields #[.ref l, .int 0 0] }).objs.size = s.heap.objs.size + 1 := Heap.size_push ..
  show _ ∧ _
  rw [hz]
  have he : IsEnum ((s.heap.push { cls := .type "tuple_iterator", data := .fields #[.ref l, .int 0 0] }).push
      { cls := .type "enumerate", data := .fields #[.none, .bool false, .ref s.heap.objs.size, rawInt 0, .none, .none] }) (s.heap.objs.size + 1) s.heap.objs.size 0 .none := by
    have := Heap.get?_push_size (s.heap.push { cls := .type "tuple_iterator", data := .fields #[.ref l, .int 0 0] })
      (o := { cls := .type "enumerate", data := .fields #[.none, .bool false, .ref s.heap.objs.size, rawInt 0, .none, .none] }) rfl
    rw [hz] at this; exact this
  refine ⟨⟨_, he, rfl⟩, h _ he ⟨_, Heap.get?_push_of_some _ (Heap.get?_push_size _ rfl), rfl, rfl⟩ (by rw [Heap.size_push, hz]) fun b o x => Heap.get?_push_of_some _ (Heap.get?_push_of_some _ x)⟩
end
end PySem
namespace T5
open PySem PySem.Spec PyProof.Rows L2
/-- the tuple at a, each item in a new pair -/
def IteT (K : PySem.W.Frag) (a : Addr) : It :=
  ⟨fun i H => ∃ (xs : List V) (x : V), SqT K H a xs ∧ xs[i]? = some x, fun i H v H' => ∃ T x, v = .ref T ∧ H T = none ∧ H' = upd H T (.tup [.int (i : Nat), x]) ∧ ∀ xs, SqT K H a xs → xs[i]? = some x, fun i H => ∃ xs : List V, SqT K H a xs ∧ xs.length ≤ i⟩
theorem turn_enumT {P : Program} {w : World} {K : PySem.W.Frag} {elts : List Expr} {kk : Nat} {tpos : Pos} (a e it : Addr) :
    Turn P w K (.Tuple elts kk tpos) (IteT K a) [e, it] e (fun i h => (∃ old, IsEnum h e it ((i : Nat) : Int) old) ∧ h.IsTupleIter it a i ∧ e ≠ it) where
  mem := by simp
  obj := fun i h st b hb => by
    obtain ⟨⟨old, he⟩, ⟨o, ho, hc, hd⟩, _⟩ := st
    have e' : b = e ∨ b = it := by simpa using hb
    rcases e' with z | z
    · rw [z]; exact ⟨_, he, fun v q => nomatch q⟩
    · rw [z]; exact ⟨o, ho, fun v q => by rw [hd] at q; cases q⟩
  keep := fun i h h' st k => let ⟨⟨old, he⟩, hi, hne⟩ := st; ⟨⟨old, k e (by simp) _ he⟩, hi.at fun o q => k it (by simp) o q, hne⟩
  item := by
    intro X hP hw hK hc i pins s σ H E I hf st hg
    subst hP hw hK
    obtain ⟨⟨old, he⟩, hit, hne⟩ := st
    obtain ⟨xs, x, hq, hx⟩ := hg
    obtain ⟨its, rv, p, hz⟩ := I.tuple hq
    obtain ⟨u, hu, ru⟩ := rv.get hx
    have hel : e < s.heap.objs.size := Heap.lt_size he
    have hil : it < s.heap.objs.size := by obtain ⟨_, q, _⟩ := hit; exact Heap.lt_size q
    have hai : a ≠ it := fun z => by
      obtain ⟨o1, q1, q2, q3⟩ := hit
      obtain ⟨o2, p1, p2, n2, p3⟩ := (show s.heap.IsTuple a its.toArray from p)
      rw [z, q1] at p1
      cases p1
      rw [q3] at p3
      cases p3
    have hea : e ∉ [it, a] := fun z => by
      have z : e = it ∨ e = a := by simpa using z
      rcases z with z | z
      · exact hne z
      · obtain ⟨o2, p1, p2, n2, p3⟩ := (show s.heap.IsTuple a its.toArray from p)
        rw [← z] at p1
        have he' := he
        unfold IsEnum at he'
        rw [he'] at p1
        cases p1
        cases p3
    have hil2 : i < its.toArray.size := by
      have := (List.getElem?_eq_some_iff.mp hu).1
      simpa using this
    refine wpAny_pyNext_enum_itemD (Draws.tuple (A := X.A.in1) (show X.A.in1.handled = none from I.ok.hd hc) it a hai its.toArray) he ⟨hit, p⟩ hil2 hne hea fun u' h' tk hu' ho hit' hT hsz hk => ?_
    have eu : u' = u := by
      have : its[i]? = some u' := by simpa using hu'
      rw [hu] at this
      exact (Option.some.inj this).symm
    subst eu
    refine ⟨_, rfl, wpAny_letOwnedTupleGo_enum (s := { s with heap := h', toks := tk + 1 }) ho fun h'' he' sb => ?_⟩
    have hT2 : h''.get? s.heap.objs.size = some { cls := .type "tuple", data := .seq #[.int i tk, u'] } := (sb.2 _ (Nat.ne_of_gt hel)).trans hT
    have new : ObjOk X.prog X.w (upd H s.heap.objs.size (.tup [.int (i : Nat), x])) h'' s.heap.objs.size (.tup [.int (i : Nat), x]) :=
      ⟨by show 2 ≤ sizeLine; decide, [.int i tk, u'], .cons ⟨_, rfl⟩ (.cons ru .nil), ⟨_, hT2, rfl, _, rfl⟩⟩
    have I1 : Inv X pins σ (upd H s.heap.objs.size (.tup [.int (i : Nat), x])) { s with heap := h'', toks := tk + 1 } :=
      I.turnedNew (ch := [e, it]) (fun b ob hb q => (sb.2 b (fun z => hb (by simp [z]))).trans (hk b ob (fun z => hb (by simp [z])) (fun z => hb (by simp [z])) q)) hf (Nat.le_refl _) new
    refine ⟨.ref s.heap.objs.size, _, I1, rfl, ⟨_, x, rfl, I.hok.fresh (Nat.le_refl _), rfl, fun ys hy => by rw [I.tuple_inj hy hq]; exact hx⟩, ⟨⟨u', ?_⟩, hit'.1.at fun o q => (sb.2 it (Ne.symm hne)).trans q, hne⟩, fun b hb => ?_⟩
    · have e1 : ((i + 1 : Nat) : Int) = (i : Int) + 1 := by omega
      rw [e1]; exact he'
    · have hb' : b < s.heap.objs.size := by
        have e' : b = e ∨ b = it := by simpa using hb
        rcases e' with z | z
        · rw [z]; exact hel
        · rw [z]; exact hil
      rw [upd_ne (Nat.ne_of_lt hb')]
      exact (hf b hb).1
  done := by
    intro X hP hw hK hc i pins s σ H E I hf st hg
    subst hP hw hK
    obtain ⟨⟨old, he⟩, hit, hne⟩ := st
    obtain ⟨xs, hq, hx⟩ := hg
    obtain ⟨its, rv, p, hz⟩ := I.tuple hq
    obtain ⟨f0, f1, f2, f3, f4, f5⟩ := hf it (by simp)
    have hl := rv.length
    have hT : s.TypeIs (.ref e) "enumerate" := ⟨_, he, rfl⟩
    unfold pyNext
    refine wpAny_bind (wpAny_attempt (wpAny_callSpecial?_slot (name := Str.ofString "__next__") hT F.slot_enumerate_next
      (wpAny_call_entry F.slot_enumerate_next hT F.entry_enumerate_next ?_ (F.args_enumerate_next_1 _))))
    show wpAny _ _ (field (.ref e) 2 >>= _) _ _ _
    refine wpAny_bind (wpAny_field he rfl (x := .ref it) rfl ?_)
    refine wpAny_bind (wpAny_nextOf_tuple_end (I.ok.hd hc) hit (show s.heap.IsTuple a its.toArray from p) (by simp; omega) fun h' x he' hx' => ?_)
    obtain ⟨o, ho, hc'⟩ := hx'
    refine wpAny_bind (wpAny_isInstance (T := "StopIteration") (b := true) ⟨o, ho, hc'⟩ isSubtype_stop ?_)
    exact wpAny_pure ⟨rfl, I.turned (t' := s.toks) (fun b o hb q => he' b o hb q) f0 f1 f3 f4 f5⟩
  self := fun A i s Q E st h => let ⟨⟨_, he⟩, _⟩ := st; wpAny_pyIter_enum he h
def iEnumT (K : PySem.W.Frag) (ta : TA) : TI := fun σ H R => ta σ H fun vs H1 => ∃ a xs, vs = [.ref a] ∧ SqT K H1 a xs ∧ R (IteT K a) H1
theorem pi_enumT {X : Cx} {e : Expr} {ta : TA} {p pos tpos : Pos} {elts : List Expr} {kk : Nat} (hg : Gl X "enumerate") (hm : X.mg "enumerate" = none) (ha : PA X [e] ta) (hs : starEach [e] X.env = [(false, eval e X.env)]) :
    PI X (.Tuple elts kk tpos) (.Call (.Name "enumerate" p) [e] [] pos) (iEnumT X.K ta) := by
  refine ⟨fun pins s σ H R I h => ?_⟩
  refine Call_ (ld_blt I hg hm boot_enumerate (PyProof.Rows.callWith_type1 (thn (ha.run pos pins s σ H _ I h) fun us s1 ⟨vs, H1, I1, r1, q1⟩ => ?_) hs rfl))
  obtain ⟨a, xs, ex, hq, q⟩ := q1
  subst ex
  cases r1 with
  | cons r rr =>
    cases rr
    cases r
    obtain ⟨its, rv, p', hz⟩ := I1.tuple hq
    refine t5_call_enumT (show s1.heap.IsTuple a its.toArray from p') fun h' he hit hsz hk => wpAny_pyIter_enum he ?_
    have I2 : Inv X pins σ H1 { s1 with heap := h' } := I1.kept (t' := s1.toks) hk
    refine ⟨s1.heap.objs.size + 1, [s1.heap.objs.size + 1, s1.heap.objs.size], _, _, H1, rfl, I2, turn_enumT a (s1.heap.objs.size + 1) s1.heap.objs.size, ⟨⟨.none, he⟩, hit, Nat.succ_ne_self _⟩, fun b hb => ?_, q⟩
    have e' : b = s1.heap.objs.size + 1 ∨ b = s1.heap.objs.size := by simpa using hb
    have hle : s1.heap.objs.size ≤ b := by
      rcases e' with z | z
      · rw [z]; exact Nat.le_add_right _ _
      · rw [z]; exact Nat.le_refl _
    exact I1.fpOk hle (I1.hok.fresh hle)
end T5

set_option Elab.async false
set_option linter.all false
set_option maxRecDepth 100000
set_option maxHeartbeats 4000000
/-! T5: max and min of a tuple of ints. -/
namespace PySem
section
variable {prog : Program} {w : World} {A : Around} {E : Value → Shared → Prop} {s : Shared} {l : Addr} {xs : Array (Int × Tok)}
theorem t5_iterT {Q : Value → Shared → Prop} (hl : s.heap.IsTuple l (intItems xs))
    (h : ∀ s₂ : Shared, s₂ = { s with heap := s.heap.push { cls := .type "tuple_iterator", data := .fields #[.ref l, .int 0 0] } } →
      (s₂.heap.IsTupleIter s.heap.objs.size l 0 ∧ s₂.heap.IsTuple l (intItems xs)) → (∀ b ∈ [s.heap.objs.size, l], b < s₂.heap.objs.size) → l ≠ s.heap.objs.size → Q (.ref s.heap.objs.size) s₂) :
    wpAny (model prog w) A (pyIter (.ref l)) Q E s := by
  have hlt : l < s.heap.objs.size := by obtain ⟨_, e, _⟩ := hl; exact Heap.lt_size e
  refine wpAny_pyIter_tuple hl (h _ rfl ⟨⟨_, Heap.get?_push_size _ rfl, rfl, rfl⟩, hl.push _⟩ (fun b hb => ?_) (Nat.ne_of_lt hlt))
  show b < (s.heap.push _).objs.size
  rw [Heap.size_push]
  rcases List.mem_cons.mp hb with rfl | hb
  · exact Nat.lt_succ_self _
  · rcases List.mem_cons.mp hb with rfl | hb
    · exact Nat.lt_succ_of_lt hlt
    · cases hb
theorem t5_keptT {h' : Heap} (hk : ∀ b o, b ∉ [s.heap.objs.size] → (s.heap.push { cls := .type "tuple_iterator", data := .fields #[.ref l, .int 0 0] }).get? b = some o → h'.get? b = some o) :
    ∀ b o, s.heap.get? b = some o → h'.get? b = some o := fun b o e => by
  refine hk b o (fun hm => ?_) (Heap.get?_push_of_some _ e)
  rcases List.mem_cons.mp hm with e1 | hm
  · exact absurd (e1 ▸ Heap.lt_size e) (Nat.lt_irrefl _)
  · cases hm
theorem t5_max_intTup {Q : Value → Shared → Prop} (hh : A.handled = none) (hl : s.heap.IsTuple l (intItems xs)) (hne : 0 < xs.size)
    (h : ∀ v h' tk, (intItems xs)[argBest (fun i j => decide (numAt xs i > numAt xs j)) (xs.size - 1)]? = some v → (∀ b o, s.heap.get? b = some o → h'.get? b = some o) → Q v { s with heap := h', toks := tk }) :
    wpAny (model prog w) A (call (.builtin "max") [.ref l]) Q E s := by
  refine call_max_walk (t5_iterT hl fun s₂ e st hfp hlI => ?_)
  subst e
  refine ⟨_, _, _, _, _, _, _, rfl, Walks.tuple (A := A.in1) hh _ l hlI (intItems xs), st, hfp, by simpa [intItems] using hne, CmpOf.ints_gt (numAt xs) (fun _ _ => intItems_at), fun v h' tk hP hk => ?_⟩
  exact h v h' tk (by simpa [intItems] using hP) (t5_keptT hk)
theorem t5_min_intTup {Q : Value → Shared → Prop} (hh : A.handled = none) (hl : s.heap.IsTuple l (intItems xs)) (hne : 0 < xs.size)
    (h : ∀ v h' tk, (intItems xs)[argBest (fun i j => decide (numAt xs i < numAt xs j)) (xs.size - 1)]? = some v → (∀ b o, s.heap.get? b = some o → h'.get? b = some o) → Q v { s with heap := h', toks := tk }) :
    wpAny (model prog w) A (call (.builtin "min") [.ref l]) Q E s := by
  refine call_min_walk (t5_iterT hl fun s₂ e st hfp hlI => ?_)
  subst e
  refine ⟨_, _, _, _, _, _, _, rfl, Walks.tuple (A := A.in1) hh _ l hlI (intItems xs), st, hfp, by simpa [intItems] using hne, CmpOf.ints_lt (numAt xs) (fun _ _ => intItems_at), fun v h' tk hP hk => ?_⟩
  exact h v h' tk (by simpa [intItems] using hP) (t5_keptT hk)
end
end PySem
namespace T5
open PySem PySem.Spec PyProof.Rows L2
section
variable {prog : Program} {w : World} {A : Around} {E : Value → Shared → Prop} {s : Shared} {l : Addr} {its : List Value} {ns : List Int} {Q : Value → Shared → Prop}
theorem max_rawT (hh : A.handled = none) (hl : s.heap.IsTuple l its.toArray) (hi : IntsAre its ns) (hne : 0 < ns.length)
    (h : ∀ h' tk M t', (∀ b o, s.heap.get? b = some o → h'.get? b = some o) → M ∈ ns → (∀ a, a ∈ ns → a ≤ M) → Q (.int M t') { s with heap := h', toks := tk }) : wpAny (model prog w) A (call (.builtin "max") [.ref l]) Q E s := by
  obtain ⟨xs, e⟩ := hi.allInts.items
  have hn : numsOf (intItems xs).toList = ns := by rw [← e]; exact hi.numsOf
  rw [nums_intItems] at hn
  subst hn
  rw [e] at hl
  have hsz : 0 < xs.size := by simpa using hne
  refine PySem.t5_max_intTup hh hl hsz fun v h' tk hv hk => ?_
  obtain ⟨t, rfl⟩ := intItems_at hv
  obtain ⟨h1, h2⟩ := argBest_gt (numAt xs) (xs.size - 1)
  refine h h' tk _ t hk ?_ fun a ha => ?_
  · rw [numAt_eq]; exact PySem.getD_mem (by rw [List.length_map, Array.length_toList]; omega)
  · obtain ⟨j, hj, rfl⟩ := mem_getD ha
    rw [List.length_map, Array.length_toList] at hj
    rw [← numAt_eq]; exact h2 j (by omega)
theorem min_rawT (hh : A.handled = none) (hl : s.heap.IsTuple l its.toArray) (hi : IntsAre its ns) (hne : 0 < ns.length)
    (h : ∀ h' tk M t', (∀ b o, s.heap.get? b = some o → h'.get? b = some o) → M ∈ ns → (∀ a, a ∈ ns → M ≤ a) → Q (.int M t') { s with heap := h', toks := tk }) : wpAny (model prog w) A (call (.builtin "min") [.ref l]) Q E s := by
  obtain ⟨xs, e⟩ := hi.allInts.items
  have hn : numsOf (intItems xs).toList = ns := by rw [← e]; exact hi.numsOf
  rw [nums_intItems] at hn
  subst hn
  rw [e] at hl
  have hsz : 0 < xs.size := by simpa using hne
  refine PySem.t5_min_intTup hh hl hsz fun v h' tk hv hk => ?_
  obtain ⟨t, rfl⟩ := intItems_at hv
  obtain ⟨h1, h2⟩ := argBest_lt (numAt xs) (xs.size - 1)
  refine h h' tk _ t hk ?_ fun a ha => ?_
  · rw [numAt_eq]; exact PySem.getD_mem (by rw [List.length_map, Array.length_toList]; omega)
  · obtain ⟨j, hj, rfl⟩ := mem_getD ha
    rw [List.length_map, Array.length_toList] at hj
    rw [← numAt_eq]; exact h2 j (by omega)
end
section
variable {X : Cx}
def rMaxT (K : PySem.W.Frag) : List V → Hp → VK → Prop := fun vs H Q => ∃ (a : Addr) (ns : List Int), vs = [V.ref a] ∧ SqT K H a (ns.map V.int) ∧ 0 < ns.length ∧ ∀ m, m ∈ ns → (∀ y, y ∈ ns → y ≤ m) → Q (.int m) H
def rMinT (K : PySem.W.Frag) : List V → Hp → VK → Prop := fun vs H Q => ∃ (a : Addr) (ns : List Int), vs = [V.ref a] ∧ SqT K H a (ns.map V.int) ∧ 0 < ns.length ∧ ∀ m, m ∈ ns → (∀ y, y ∈ ns → m ≤ y) → Q (.int m) H
theorem cr_maxT (hc : X.calm = true) : CallR X (.builtin "max") (rMaxT X.K) := by
  intro pins s σ H vs us Q I r h
  obtain ⟨a, ns, rfl, hs, hne, q⟩ := h
  obtain ⟨its, rv, hl, _⟩ := I.tuple hs
  rw [Vals.ref1 r]
  exact max_rawT (I.ok.hd hc) (show s.heap.IsTuple a its.toArray from hl) rv.ints hne fun h' tk m t' hk h1 h2 => ⟨.int _, H, I.kept hk, ⟨_, rfl⟩, q m h1 h2⟩
theorem cr_minT (hc : X.calm = true) : CallR X (.builtin "min") (rMinT X.K) := by
  intro pins s σ H vs us Q I r h
  obtain ⟨a, ns, rfl, hs, hne, q⟩ := h
  obtain ⟨its, rv, hl, _⟩ := I.tuple hs
  rw [Vals.ref1 r]
  exact min_rawT (I.ok.hd hc) (show s.heap.IsTuple a its.toArray from hl) rv.ints hne fun h' tk m t' hk h1 h2 => ⟨.int _, H, I.kept hk, ⟨_, rfl⟩, q m h1 h2⟩
end
end T5

set_option Elab.async false
set_option linter.all false
set_option maxRecDepth 100000
set_option maxHeartbeats 1000000
/-! T5: more constructs: is None, in, chains, stars, [::-1], dict(pairs), get, enumerate, zip, all, any, max, min, abs. -/
namespace T5
open PySem PySem.Spec L2
open Evl (Ex)
section
variable {K : PySem.W.Frag} {T : Tb} {r : List Addr} {G H : Hp} {s : Sto} {Q : VK}
theorem isN_ok {d : D} {v : V} {b : Bool} (h : isN d = some b) (k : Rr K T r G H d v) : decide (v = .non) = b := by
  cases d <;> (unfold isN at h; first | (cases h; done) | skip)
  · cases h
    have k : Rp K T r G .non v := k
    unfold Rp at k
    subst k
    rfl
  · cases h
    cases rp_bl (show Rp K T r G (.bl _) v from k)
    rfl
  · cases h
    cases rr_int k
    rfl
  · cases h
    have k : Rp K T r G (.str _) v := k
    unfold Rp at k
    subst k
    rfl
  · cases h
    obtain ⟨a, xs, rfl, _⟩ := rp_tup (show Rp K T r G (.tup _) v from k)
    rfl
  · cases h
    obtain ⟨a, xs, rfl, _⟩ := rr_lst k
    rfl
  · cases h
    obtain ⟨a, xs, rfl, _⟩ := rp_scr (show Rp K T r G (.scr _) v from k)
    rfl
  · cases h
    have k : Rp K T r G (.kt _) v := k
    unfold Rp at k
    obtain ⟨a, xs, rfl, _⟩ := k
    rfl
  · cases h
    have k : Rp K T r G (.loc _) v := k
    unfold Rp at k
    obtain ⟨a, rfl, _⟩ := k
    rfl
def rIsA : R2 := fun x y H Q => rIsN x y H Q ∨ rIsB x y H Q
def rNotA : R2 := fun x y H Q => rNotN x y H Q ∨ rNotB x y H Q
theorem isD_cases {x y : D} {b : Bool} {v u : V} (g : Gd K T r G H s) (hx : Rr K T r G H x v) (hy : Rr K T r G H y u) (h : isD x y = some b) : (u = .non ∧ decide (v = .non) = b) ∨ ∃ a c : Bool, v = .bl a ∧ u = .bl c ∧ decide (a = c) = b := by
  unfold isD at h
  split at h
  · have hy : Rp K T r G .non u := hy
    unfold Rp at hy
    exact .inl ⟨hy, isN_ok h hx⟩
  · split at h
    · cases h
      cases rp_bl (show Rp K T r G (.bl _) v from hx)
      cases rp_bl (show Rp K T r G (.bl _) u from hy)
      refine .inr ⟨_, _, rfl, rfl, ?_⟩
      rename_i y x
      cases x <;> cases y <;> rfl
    · cases h
  · cases h
theorem cmp_is {x y : D} {b : Bool} {v u : V} (g : Gd K T r G H s) (hx : Rr K T r G H x v) (hy : Rr K T r G H y u) (h : isD x y = some b) (n : Nxt K T Q r G H s (.bl b)) : rIsA v u H Q := by
  have q := n.here g (of_bl b)
  rcases isD_cases g hx hy h with ⟨e1, e2⟩ | ⟨a, c, e1, e2, e3⟩
  · exact .inl ⟨e1, by rw [e2]; exact q⟩
  · exact .inr ⟨a, c, e1, e2, by rw [e3]; exact q⟩
theorem cmp_isnot {x y : D} {b : Bool} {v u : V} (g : Gd K T r G H s) (hx : Rr K T r G H x v) (hy : Rr K T r G H y u) (h : (isD x y).map (! ·) = some b) (n : Nxt K T Q r G H s (.bl b)) : rNotA v u H Q := by
  have q := n.here g (of_bl b)
  cases hd : isD x y with
  | none => rw [hd] at h; cases h
  | some c0 =>
    rw [hd] at h
    cases h
    rcases isD_cases g hx hy hd with ⟨e1, e2⟩ | ⟨a, c, e1, e2, e3⟩
    · exact .inl ⟨e1, by rw [e2]; exact q⟩
    · exact .inr ⟨a, c, e1, e2, by rw [e3]; exact q⟩
/-! in -/
theorem flatD_ok {d : D} {v w : V} (h : flatD d = some w) (k : Rr K T r G H d v) : v = w ∧ flatV v = true := by
  cases d <;> (unfold flatD at h; first | (cases h; done) | skip)
  · cases h
    have k : Rp K T r G .non v := k
    unfold Rp at k
    subst k
    exact ⟨rfl, rfl⟩
  · cases h
    cases rp_bl (show Rp K T r G (.bl _) v from k)
    exact ⟨rfl, rfl⟩
  · cases h
    cases rr_int k
    exact ⟨rfl, rfl⟩
  · cases h
    have k : Rp K T r G (.str _) v := k
    unfold Rp at k
    subst k
    exact ⟨rfl, rfl⟩
theorem flatL_ok (g : Gd K T r G H s) : ∀ {ds : List D} {ws xs : List V}, flatL ds = some ws → RpL K T r G ds xs → xs = ws ∧ xs.all flatV = true
  | [], ws, xs, h, k => by
    unfold flatL at h
    cases h
    rw [k.nil_inv]
    exact ⟨rfl, rfl⟩
  | d :: ds, ws, xs, h, k => by
    obtain ⟨v, t, rfl, k1, k2⟩ := k.cons_inv
    unfold flatL at h
    cases hf : flatD d with
    | none => rw [hf] at h; cases h
    | some w =>
      rw [hf] at h
      cases hr : flatL ds with
      | none => rw [hr] at h; cases h
      | some w2 =>
        rw [hr] at h
        cases h
        obtain ⟨e1, e2⟩ := flatD_ok hf (Rr.of g k1)
        obtain ⟨e3, e4⟩ := flatL_ok g hr k2
        subst e1 e3
        exact ⟨rfl, by rw [List.all_cons, e2, e4]; rfl⟩
def rInA (K : PySem.W.Frag) (neg : Bool) : R2 := fun x y H Q => rIn K neg x y H Q ∨ ((neg = false ∧ rInD K x y H Q) ∨ (neg = true ∧ rNotInD K x y H Q))
theorem op_inA {X : Cx} (hu : X.A.units + 65 < cLine) : OpR X (compareOp .In) (rInA X.K false) := fun pins s σ H x y v u Q I rx ry z => z.elim (op_in_seq pins s σ H x y v u Q I rx ry) fun z => z.elim (fun z => op_inD hu pins s σ H x y v u Q I rx ry z.2) fun z => by cases z.1
theorem op_notInA {X : Cx} (hu : X.A.units + 65 < cLine) : OpR X (compareOp .NotIn) (rInA X.K true) := fun pins s σ H x y v u Q I rx ry z => z.elim (op_notIn_seq pins s σ H x y v u Q I rx ry) fun z => z.elim (fun z => by cases z.1) fun z => op_notInD hu pins s σ H x y v u Q I rx ry z.2
theorem memF_ok (g : Gd K T r G H s) {a : D} {ds : List D} {b : Bool} {v : V} {xs : List V} (h : memF a ds = some b) (ha : Rr K T r G H a v) (hx : RpL K T r G ds xs) : flatV v = true ∧ xs.all flatV = true ∧ inV v xs = b := by
  unfold memF at h
  cases hf : flatD a with
  | none => rw [hf] at h; cases h
  | some w =>
    rw [hf] at h
    cases hr : flatL ds with
    | none => rw [hr] at h; cases h
    | some ws =>
      rw [hr] at h
      cases h
      obtain ⟨e1, e2⟩ := flatD_ok hf ha
      obtain ⟨e3, e4⟩ := flatL_ok g hr hx
      subst e1 e3
      exact ⟨e2, e4, rfl⟩
theorem mem_cases {x y : D} {b : Bool} {v u : V} (g : Gd K T r G H s) (hx : Rr K T r G H x v) (hy : Rr K T r G H y u) (h : memD x y = some b) :
    (∃ p xs, u = .ref p ∧ (SqL K H p xs ∨ SqT K H p xs) ∧ flatV v = true ∧ xs.all flatV = true ∧ inV v xs = b) ∨ ∃ d ds, Dp K H v d ∧ Dp K H u (.list ds) ∧ SeqAt.shaped d = true ∧ SeqAt.shaped (.list ds) = true ∧ (ds.any fun z => PyData.eqv z d) = b := by
  unfold memD at h
  split at h
  · rename_i ds
    have hy0 := hy
    obtain ⟨p, xs, rfl, e1, e2⟩ := rr_lst hy
    split at h
    · rename_i c hm
      cases h
      obtain ⟨f1, f2, f3⟩ := memF_ok g hm hx e2
      exact .inl ⟨p, xs, rfl, .inl (SqL.of e1), f1, f2, f3⟩
    · cases hp : toP x with
      | none => rw [hp] at h; cases h
      | some p0 =>
        rw [hp] at h
        simp only [Option.bind_some] at h
        cases hq : toPs ds with
        | none => rw [hq] at h; cases h
        | some ps =>
          rw [hq] at h
          simp only [Option.bind_some] at h
          split at h
          · rename_i hc
            cases h
            obtain ⟨c1, c2⟩ := Bool.and_eq_true_iff.mp hc
            have hl : toP (.lst ds) = some (.list ps) := by unfold toP; rw [hq]; rfl
            exact .inr ⟨p0, ps, dp_rd g hp hx, dp_rd g hl hy0, c1, c2, rfl⟩
          · cases h
  · rename_i ds
    obtain ⟨p, xs, rfl, e1, e1', e2⟩ := rr_tup g hy
    obtain ⟨f1, f2, f3⟩ := memF_ok g h hx e2
    exact .inl ⟨p, xs, rfl, .inr e1, f1, f2, f3⟩
  · rename_i ds
    have hy : Rp K T r G (.kt ds) u := hy
    unfold Rp at hy
    obtain ⟨p, xs, rfl, e1, e2⟩ := hy
    obtain ⟨f1, f2, f3⟩ := memF_ok g h hx e2
    exact .inl ⟨p, xs, rfl, .inr (Evl.ex_t g.exH e1), f1, f2, f3⟩
  · cases h
theorem cmp_mem {x y : D} {b : Bool} {v u : V} (g : Gd K T r G H s) (hx : Rr K T r G H x v) (hy : Rr K T r G H y u) (h : memD x y = some b) (n : Nxt K T Q r G H s (.bl b)) : rInA K false v u H Q := by
  have q := n.here g (of_bl b)
  rcases mem_cases g hx hy h with ⟨p, xs, e1, e2, e3, e4, e5⟩ | ⟨d, ds, e1, e2, e3, e4, e5⟩
  · exact .inl ⟨p, xs, e1, e2, e3, e4, by rw [if_neg (by decide), e5]; exact q⟩
  · exact .inr (.inl ⟨rfl, d, ds, e1, e2, e3, e4, by rw [e5]; exact q⟩)
theorem cmp_nmem {x y : D} {b : Bool} {v u : V} (g : Gd K T r G H s) (hx : Rr K T r G H x v) (hy : Rr K T r G H y u) (h : (memD x y).map (! ·) = some b) (n : Nxt K T Q r G H s (.bl b)) : rInA K true v u H Q := by
  have q := n.here g (of_bl b)
  cases hd : memD x y with
  | none => rw [hd] at h; cases h
  | some c0 =>
    rw [hd] at h
    cases h
    rcases mem_cases g hx hy hd with ⟨p, xs, e1, e2, e3, e4, e5⟩ | ⟨d, ds, e1, e2, e3, e4, e5⟩
    · exact .inl ⟨p, xs, e1, e2, e3, e4, by rw [if_pos rfl, e5]; exact q⟩
    · exact .inr (.inr ⟨rfl, d, ds, e1, e2, e3, e4, by rw [e5]; exact q⟩)
end

/-! ### stars, [::-1], chains -/
theorem RpL.rev {K : PySem.W.Frag} {T : Tb} {r : List Addr} {G : Hp} : ∀ {ds : List D} {vs : List V}, RpL K T r G ds vs → RpL K T r G ds.reverse vs.reverse
  | [], vs, h => by rw [h.nil_inv]; exact .nil
  | d :: ds, vs, h => by
    obtain ⟨v, t, rfl, k1, k2⟩ := h.cons_inv
    rw [List.reverse_cons, List.reverse_cons]
    exact (RpL.rev k2).snoc k1
section
variable {X : Cx} {T : Tb} {W : WX} {cl : Calls} {a b c : Expr} {ca cb cc : CE} {pos p : Pos} {es : List Expr} {ces : CEs}
theorem seq_read {K : PySem.W.Frag} {r : List Addr} {G H : Hp} {s : Sto} (g : Gd K T r G H s) {d : D} {v : V} {xs : List D} (h : seqOf d = some xs) (k : Rr K T r G H d v) : ∃ p vs, v = .ref p ∧ (SqT K H p vs ∨ SqL K H p vs) ∧ RpL K T r G xs vs := by
  unfold seqOf at h
  split at h
  · cases h
    obtain ⟨p, vs, rfl, e1, _, e2⟩ := rr_tup g k
    exact ⟨p, vs, rfl, .inl e1, e2⟩
  · cases h
    obtain ⟨p, vs, rfl, e1, e2⟩ := rr_lst k
    exact ⟨p, vs, rfl, .inr (SqL.of e1), e2⟩
  · cases h
theorem gl_star (ha : PE X a (tE X.K T W cl ca)) (hr : PA X es (tL X.K T W cl ces)) : PA X (.Starred a p :: es) (tL X.K T W cl (.star ca ces)) :=
  imp_a (StX.pa_star ha hr) fun σ H Q ⟨env, s, r, G, g, e, h⟩ => by
    simp only [evEs] at h
    refine rdg_bind g e h fun x v r1 G1 H1 s1 l1 g1 e1 hx h1 => ?_
    cases hs : seqOf (rd s1 x) with
    | none => rw [hs] at h1; exact h1.elim
    | some xs =>
      rw [hs] at h1
      obtain ⟨p, vs, rfl, k1, k2⟩ := seq_read g1 hs (Rr.rd g1 hx)
      refine ⟨p, vs, rfl, k1, rdg_bind g1 e1 h1 fun ds ws r2 G2 H2 s2 l2 g2 e2 hds h2 => ?_⟩
      exact h2.here g2 ((k2.le l2).append hds)
theorem gf_rev {k : Nat} {p1 p2 p3 : Pos} (ha : PE X a (tE X.K T W cl ca)) : PE X (.Subscript a (.Slice none none (some (.UnaryOp .USub (.Constant (.int 1) k p1) p2)) p3) pos) (tF X.K T W cl (.rev ca)) :=
  imp_e (pe_revL ha) fun σ H Q ⟨env, s, r, G, g, e, h⟩ => by
    simp only [evE] at h
    refine rdgF_bind g e h fun x v r1 G1 H1 s1 _ l1 g1 e1 hx h1 => ?_
    have hr := Rr.rd g1 hx
    generalize rd s1 x = y at h1 hr
    cases y <;> first | exact (show False from h1).elim | skip
    obtain ⟨q, xs, rfl, k1, k2⟩ := rr_lst hr
    exact ⟨q, xs, rfl, SqL.of k1, fun p hp => h1 p _ r1 G1 H1 Le.refl g1 k2.rev hp⟩
theorem ge_rev {k : Nat} {p1 p2 p3 : Pos} (ha : PE X a (tE X.K T W cl ca)) : PE X (.Subscript a (.Slice none none (some (.UnaryOp .USub (.Constant (.int 1) k p1) p2)) p3) pos) (tE X.K T W cl (.rev ca)) :=
  imp_e (pe_revLT ha) fun σ H Q ⟨env, s, r, G, g, e, h⟩ => by
    simp only [evE] at h
    refine rdg_bind g e h fun x v r1 G1 H1 s1 l1 g1 e1 hx h1 => ?_
    have hr := Rr.rd g1 hx
    generalize rd s1 x = y at h1 hr
    cases y <;> first | exact (show False from h1).elim | skip
    · obtain ⟨q, xs, rfl, k1, _, k2⟩ := rr_tup g1 hr
      exact ⟨q, xs, rfl, .inr ⟨k1, Nxt.tup h1 g1 k2.rev⟩⟩
    · obtain ⟨q, xs, rfl, k1, k2⟩ := rr_lst hr
      exact ⟨q, xs, rfl, .inl ⟨SqL.of k1, Nxt.lst h1 g1 k2.rev⟩⟩
theorem ge_chn {o o2 : CmpOp} {op op2 : COp} {q q2 : R2} (hq : OpR X (compareOp o) q) (hq2 : OpR X (compareOp o2) q2) (hm : lastMarks [o, o2] [b, c] = false)
    (k : ∀ {r : List Addr} {G H : Hp} {s : Sto} {x y : D} {z : Bool} {v u : V} {Q : VK}, Gd X.K T r G H s → Rr X.K T r G H x v → Rr X.K T r G H y u → cmpD op x y = some z → Nxt X.K T Q r G H s (.bl z) → q v u H Q)
    (k2 : ∀ {r : List Addr} {G H : Hp} {s : Sto} {x y : D} {z : Bool} {v u : V} {Q : VK}, Gd X.K T r G H s → Rr X.K T r G H x v → Rr X.K T r G H y u → cmpD op2 x y = some z → Nxt X.K T Q r G H s (.bl z) → q2 v u H Q)
    (ha : PE X a (tE X.K T W cl ca)) (hb : PE X b (tE X.K T W cl cb)) (hc : PE X c (tE X.K T W cl cc)) : PE X (.Compare a [o, o2] [b, c] pos) (tE X.K T W cl (.chn op op2 ca cb cc)) ∧ PT X (.Compare a [o, o2] [b, c] pos) (tQ X.K T W cl (.chn op op2 ca cb cc)) := by
  have i : ∀ σ H Q, tE X.K T W cl (.chn op op2 ca cb cc) σ H Q → tChain q q2 (tE X.K T W cl ca) (tE X.K T W cl cb) (tE X.K T W cl cc) σ H Q := fun σ H Q ⟨env, s, r, G, g, e, h⟩ => by
    simp only [evE] at h
    refine rdg_bind g e h fun x v r1 G1 H1 s1 l1 g1 e1 hx h1 => rdg_bind g1 e1 h1 fun y u r2 G2 H2 s2 l2 g2 e2 hy h2 => ?_
    cases hw : cmpD op (rd s2 x) (rd s2 y) with
    | none => rw [hw] at h2; exact h2.elim
    | some z0 =>
      rw [hw] at h2
      refine k g2 (Rr.rd g2 (hx.le l2)) (Rr.rd g2 hy) hw fun w' r3 G3 H3 l3 g3 hw3 => ?_
      refine ⟨z0, rp_bl hw3, ?_⟩
      cases z0 with
      | false =>
        rw [if_neg (by decide)]
        exact h2 _ r3 G3 H3 l3 g3 (of_bl _)
      | true =>
        rw [if_pos rfl]
        refine rdg_bind g3 (e2.le l3) (Out.le l3 h2) fun z u2 r4 G4 H4 s4 l4 g4 e4 hz h4 => ?_
        obtain ⟨zz, hzz, h5⟩ := out_lift h4
        cases hw2 : cmpD op2 (rd s4 y) (rd s4 z) with
        | none => rw [hw2] at hzz; cases hzz
        | some z1 =>
          rw [hw2] at hzz
          cases hzz
          exact k2 g4 (Rr.rd g4 ((hy.le l3).le l4)) (Rr.rd g4 hz) hw2 h5
  exact ⟨imp_e (pe_chain hq hq2 ha hb hc hm) i, imp_t (pt_chain hq hq2 ha hb hc hm) fun σ H Q h => i σ H _ h⟩
end
end T5

set_option Elab.async false
set_option linter.all false
set_option maxRecDepth 100000
set_option maxHeartbeats 1000000
/-! T5: enumerate, zip, all, any, max, min, abs, dict(pairs), d.get(k, v). -/
namespace T5
open PySem PySem.Spec L2
open Evl (Ex)
theorem enumL_len : ∀ (j : Nat) (ds : List D), (enumL j ds).length = ds.length
  | _, [] => rfl
  | j, d :: ds => by
    unfold enumL
    rw [List.length_cons, List.length_cons, enumL_len]
theorem enumL_get : ∀ {j : Nat} {ds : List D} {i : Nat} {e : D}, (enumL j ds)[i]? = some e → ∃ d, ds[i]? = some d ∧ e = .tup [.int ((j + i : Nat) : Int), d]
  | j, [], i, e, h => by unfold enumL at h; simp at h
  | j, d :: ds, 0, e, h => by
    unfold enumL at h
    simp at h
    exact ⟨d, rfl, by rw [← h]; rfl⟩
  | j, d :: ds, i + 1, e, h => by
    unfold enumL at h
    rw [List.getElem?_cons_succ] at h
    obtain ⟨d', h1, h2⟩ := enumL_get h
    exact ⟨d', by rw [List.getElem?_cons_succ]; exact h1, by rw [h2, show j + 1 + i = j + (i + 1) by omega]⟩
theorem zipL_len : ∀ (a b : List D), (zipL a b).length = min a.length b.length
  | [], b => by unfold zipL; simp
  | a :: r, [] => by unfold zipL; simp
  | a :: r, b :: t => by
    unfold zipL
    rw [List.length_cons, List.length_cons, List.length_cons, zipL_len]
    omega
theorem zipL_get : ∀ {a b : List D} {i : Nat} {e : D}, (zipL a b)[i]? = some e → ∃ x y, a[i]? = some x ∧ b[i]? = some y ∧ e = .tup [x, y]
  | [], b, i, e, h => by unfold zipL at h; simp at h
  | a :: r, [], i, e, h => by unfold zipL at h; simp at h
  | a :: r, b :: t, 0, e, h => by
    unfold zipL at h
    simp at h
    exact ⟨a, b, rfl, rfl, h.symm⟩
  | a :: r, b :: t, i + 1, e, h => by
    unfold zipL at h
    rw [List.getElem?_cons_succ] at h
    obtain ⟨x, y, h1, h2, h3⟩ := zipL_get h
    exact ⟨x, y, by rw [List.getElem?_cons_succ]; exact h1, by rw [List.getElem?_cons_succ]; exact h2, h3⟩
section
variable {K : PySem.W.Frag} {T : Tb} {r r' : List Addr} {G G' H H' : Hp} {s : Sto}
/-- a new pair -/
theorem new_pair {x y : D} {v u : V} {p : Addr} (g : Gd K T r G H s) (hp : H p = none) (h1 : Rp K T r G x v) (h2 : Rp K T r G y u) : ∃ G', Le r G H r G' (upd H p (.tup [v, u])) ∧ Gd K T r G' (upd H p (.tup [v, u])) s ∧ Rp K T r G' (.tup [x, y]) (.ref p) := by
  have l := le_new g hp (.tup [v, u])
  exact ⟨_, l, g.new hp _ (fun _ z => by cases z), of_tup (upd_same ..) (.cons (h1.le l) (.cons (h2.le l) .nil))⟩
theorem it_enumL {a : Addr} {xs : List V} {ds : List D} (h : SqL K G a xs) (k : RpL K T r G ds xs) : ItR K T r G (Ite K a) (enumL 0 ds) := fun r2 G2 H2 s2 p e g i => by
  have hl : SqL K H2 a xs := Evl.ex_l (e.trans g.exH) h
  have hn := k.length
  rw [enumL_len]
  refine ⟨fun hi => ?_, fun hi => ?_, fun x H' d hd hy => ?_⟩
  · exact ⟨xs, xs[i]'(by omega), hl, List.getElem?_eq_getElem (by omega)⟩
  · exact ⟨xs, hl, by omega⟩
  · obtain ⟨q, z, rfl, hq, rfl, hx⟩ := hy
    obtain ⟨d0, h1, rfl⟩ := enumL_get hd
    obtain ⟨v, e1, e2⟩ := k.get h1
    have : some z = some v := (hx xs hl).symm.trans e1
    cases this
    rw [Nat.zero_add]
    exact new_pair g hq (of_int _) (e2.mono p e)
theorem it_enumT {a : Addr} {xs : List V} {ds : List D} (h : SqT K G a xs) (k : RpL K T r G ds xs) : ItR K T r G (IteT K a) (enumL 0 ds) := fun r2 G2 H2 s2 p e g i => by
  have hl : SqT K H2 a xs := Evl.ex_t (e.trans g.exH) h
  have hn := k.length
  rw [enumL_len]
  refine ⟨fun hi => ?_, fun hi => ?_, fun x H' d hd hy => ?_⟩
  · exact ⟨xs, xs[i]'(by omega), hl, List.getElem?_eq_getElem (by omega)⟩
  · exact ⟨xs, hl, by omega⟩
  · obtain ⟨q, z, rfl, hq, rfl, hx⟩ := hy
    obtain ⟨d0, h1, rfl⟩ := enumL_get hd
    obtain ⟨v, e1, e2⟩ := k.get h1
    have : some z = some v := (hx xs hl).symm.trans e1
    cases this
    rw [Nat.zero_add]
    exact new_pair g hq (of_int _) (e2.mono p e)
theorem lst_at (g : Gd K T r G H s) {ds : List D} {v : V} (hy : Rp K T r G (.lst ds) v) : ∃ p xs, v = .ref p ∧ SqL K G p xs ∧ SqL K H p xs ∧ RpL K T r G ds xs := by
  unfold Rp at hy
  obtain ⟨p, xs, rfl, k1, k2⟩ := hy
  exact ⟨p, xs, rfl, SqL.of k1, SqL.of (g.sub _ _ k1), k2⟩
end
section
variable {X : Cx} {T : Tb} {W : WX} {cl : Calls} {a b c e : Expr} {ca cb cc : CE} {pos p tpos : Pos} {elts : List Expr} {kk : Nat}
theorem gi_enum (hg : Gl X "enumerate") (hm : X.mg "enumerate" = none) (ha : PE X a (tE X.K T W cl ca)) (hs : starEach [a] X.env = (false, eval a X.env) :: starEach [] X.env) : PI X (.Tuple elts kk tpos) (.Call (.Name "enumerate" p) [a] [] pos) (tI X.K T W cl (.enum ca)) :=
  imp_i (or_i (pi_enum hg hm (gl_cons ha gl_nil hs) hs) (pi_enumT hg hm (gl_cons ha gl_nil hs) hs)) fun σ H Q ⟨env, s, r, G, g, ee, h⟩ => by
    simp only [evE] at h
    cases hq : evE cl ca env s with
    | bad => rw [hq] at h; exact h.elim
    | err c ds s1 =>
      rw [hq] at h
      refine .inl ⟨env, s, r, G, g, ee, ?_⟩
      simp only [evEs]
      rw [hq]
      exact h
    | ok d s1 =>
      rw [hq] at h
      simp only [R.bind] at h
      cases hi : seqOf d with
      | none => rw [hi] at h; exact h.elim
      | some items =>
        rw [hi] at h
        obtain ⟨its, h1, h2⟩ := h
        cases h1
        cases d <;> first | (cases hi; done) | skip
        · cases hi
          refine .inr ⟨env, s, r, G, g, ee, ?_⟩
          simp only [evEs]
          rw [hq]
          intro y r' G' H' l g' hy
          obtain ⟨v, t, rfl, m1, m2⟩ := hy.cons_inv
          have := m2.nil_inv
          subst this
          obtain ⟨p, xs, rfl, k1, k2⟩ := rp_tup m1
          exact ⟨p, xs, rfl, SqT.of (g'.sub _ _ k1), h2 _ r' G' H' l g' (it_enumT (SqT.of k1) k2)⟩
        · cases hi
          refine .inl ⟨env, s, r, G, g, ee, ?_⟩
          simp only [evEs]
          rw [hq]
          intro y r' G' H' l g' hy
          obtain ⟨v, t, rfl, m1, m2⟩ := hy.cons_inv
          have := m2.nil_inv
          subst this
          obtain ⟨p, xs, rfl, k0, k1, k2⟩ := lst_at g' m1
          exact ⟨p, xs, rfl, k1, h2 _ r' G' H' l g' (it_enumL k0 k2)⟩
end

/-! ### all, any, max, min, abs -/
section
variable {K : PySem.W.Frag} {T : Tb} {r : List Addr} {G H : Hp} {s : Sto} {ds : List D} {vs : List V} {z : D} {Q : VK}
theorem bls_ok : ∀ {ds : List D} {bs : List Bool} {xs : List V}, blsOf ds = some bs → RpL K T r G ds xs → xs = bs.map V.bl
  | [], bs, xs, h, k => by
    unfold blsOf at h
    cases h
    exact k.nil_inv
  | d :: ds, bs, xs, h, k => by
    obtain ⟨v, t, rfl, k1, k2⟩ := k.cons_inv
    cases d <;> first | (simp [blsOf] at h; done) | skip
    rename_i i
    unfold blsOf at h
    cases hq : blsOf ds with
    | none => rw [hq] at h; cases h
    | some ms =>
      rw [hq] at h
      cases h
      rw [rp_bl k1, bls_ok hq k2]
      rfl
theorem bi_all (g : Gd K T r G H s) (h : RrL K T r G H ds vs) (hz : allB ds = some z) (n : Nxt K T Q r G H s z) : rAll K vs H Q := by
  unfold allB at hz
  split at hz <;> first | (cases hz; done) | skip
  rename_i ds
  cases hq : blsOf ds with
  | none => rw [hq] at hz; cases hz
  | some bs =>
    rw [hq] at hz
    cases hz
    obtain ⟨v, rfl, h1⟩ := h.one
    obtain ⟨p, xs, rfl, e1, e2⟩ := rr_lst h1
    have := bls_ok hq e2
    subst this
    exact ⟨p, bs, rfl, SqL.of e1, n.here g (of_bl _)⟩
theorem bi_any (g : Gd K T r G H s) (h : RrL K T r G H ds vs) (hz : anyB ds = some z) (n : Nxt K T Q r G H s z) : rAny K vs H Q := by
  unfold anyB at hz
  split at hz <;> first | (cases hz; done) | skip
  rename_i ds
  cases hq : blsOf ds with
  | none => rw [hq] at hz; cases hz
  | some bs =>
    rw [hq] at hz
    cases hz
    obtain ⟨v, rfl, h1⟩ := h.one
    obtain ⟨p, xs, rfl, e1, e2⟩ := rr_lst h1
    have := bls_ok hq e2
    subst this
    exact ⟨p, bs, rfl, SqL.of e1, n.here g (of_bl _)⟩
theorem maxI_ok : ∀ (l : List Int) (x : Int), maxI x l ∈ x :: l ∧ ∀ y ∈ x :: l, y ≤ maxI x l
  | [], x => ⟨List.mem_cons_self .., fun y hy => by
    have : y = x := by simpa using hy
    subst this
    exact Int.le_refl _⟩
  | a :: l, x => by
    unfold maxI
    obtain ⟨h1, h2⟩ := maxI_ok l (if x < a then a else x)
    constructor
    · rcases List.mem_cons.mp h1 with e | e
      · rw [e]
        split
        · exact List.mem_cons_of_mem _ (List.mem_cons_self ..)
        · exact List.mem_cons_self ..
      · exact List.mem_cons_of_mem _ (List.mem_cons_of_mem _ e)
    · intro y hy
      have hm := h2 _ (List.mem_cons_self ..)
      have h3 := fun hy => h2 y (List.mem_cons_of_mem _ hy)
      clear h1 h2
      generalize maxI (if x < a then a else x) l = M at hm h3 ⊢
      rcases List.mem_cons.mp hy with rfl | hy
      · split at hm <;> omega
      · rcases List.mem_cons.mp hy with rfl | hy
        · split at hm <;> omega
        · exact h3 hy
theorem minI_ok : ∀ (l : List Int) (x : Int), minI x l ∈ x :: l ∧ ∀ y ∈ x :: l, minI x l ≤ y
  | [], x => ⟨List.mem_cons_self .., fun y hy => by
    have : y = x := by simpa using hy
    subst this
    exact Int.le_refl _⟩
  | a :: l, x => by
    unfold minI
    obtain ⟨h1, h2⟩ := minI_ok l (if a < x then a else x)
    constructor
    · rcases List.mem_cons.mp h1 with e | e
      · rw [e]
        split
        · exact List.mem_cons_of_mem _ (List.mem_cons_self ..)
        · exact List.mem_cons_self ..
      · exact List.mem_cons_of_mem _ (List.mem_cons_of_mem _ e)
    · intro y hy
      have hm := h2 _ (List.mem_cons_self ..)
      have h3 := fun hy => h2 y (List.mem_cons_of_mem _ hy)
      clear h1 h2
      generalize minI (if a < x then a else x) l = M at hm h3 ⊢
      rcases List.mem_cons.mp hy with rfl | hy
      · split at hm <;> omega
      · rcases List.mem_cons.mp hy with rfl | hy
        · split at hm <;> omega
        · exact h3 hy
theorem maxL_ok {ds : List D} {z : D} {xs : List V} (h : maxL ds = some z) (k : RpL K T r G ds xs) : ∃ ns : List Int, xs = ns.map V.int ∧ 0 < ns.length ∧ ∀ m, m ∈ ns → (∀ y, y ∈ ns → y ≤ m) → z = .int m := by
  unfold maxL at h
  split at h
  · rename_i x l hi
    cases h
    refine ⟨x :: l, ints_ok hi k, by simp, fun m hm hy => ?_⟩
    obtain ⟨h1, h2⟩ := maxI_ok l x
    have e1 := h2 m hm
    have e2 := hy _ h1
    have : maxI x l = m := by omega
    rw [this]
  · cases h
theorem minL_ok {ds : List D} {z : D} {xs : List V} (h : minL ds = some z) (k : RpL K T r G ds xs) : ∃ ns : List Int, xs = ns.map V.int ∧ 0 < ns.length ∧ ∀ m, m ∈ ns → (∀ y, y ∈ ns → m ≤ y) → z = .int m := by
  unfold minL at h
  split at h
  · rename_i x l hi
    cases h
    refine ⟨x :: l, ints_ok hi k, by simp, fun m hm hy => ?_⟩
    obtain ⟨h1, h2⟩ := minI_ok l x
    have e1 := h2 m hm
    have e2 := hy _ h1
    have : minI x l = m := by omega
    rw [this]
  · cases h
def rMax2 : List V → Hp → VK → Prop := fun xs H Q => ∃ i j, xs = [.int i, .int j] ∧ Q (.int (if j > i then j else i)) H
def rMin2 : List V → Hp → VK → Prop := fun xs H Q => ∃ i j, xs = [.int i, .int j] ∧ Q (.int (if j < i then j else i)) H
def rAbs1 : List V → Hp → VK → Prop := fun xs H Q => ∃ i, xs = [.int i] ∧ Q (.int (if i < 0 then -i else i)) H
def rMaxA (K : PySem.W.Frag) : List V → Hp → VK → Prop := fun xs H Q => rMax K xs H Q ∨ rMaxT K xs H Q ∨ rMax2 xs H Q
def rMinA (K : PySem.W.Frag) : List V → Hp → VK → Prop := fun xs H Q => rMin K xs H Q ∨ rMinT K xs H Q ∨ rMin2 xs H Q
theorem cr_maxA {X : Cx} (hc : X.calm = true) : CallR X (.builtin "max") (rMaxA X.K) := or_c (cr_max hc) (or_c (cr_maxT hc) (call_max2 hc))
theorem cr_minA {X : Cx} (hc : X.calm = true) : CallR X (.builtin "min") (rMinA X.K) := or_c (cr_min hc) (or_c (cr_minT hc) (call_min2 hc))
theorem bi_max (g : Gd K T r G H s) (h : RrL K T r G H ds vs) (hz : maxB ds = some z) (n : Nxt K T Q r G H s z) : rMaxA K vs H Q := by
  unfold maxB at hz
  split at hz <;> first | (cases hz; done) | skip
  · obtain ⟨v, rfl, h1⟩ := h.one
    obtain ⟨p, xs, rfl, e1, e2⟩ := rr_lst h1
    obtain ⟨ns, rfl, k1, k2⟩ := maxL_ok hz e2
    exact .inl ⟨p, ns, rfl, SqL.of e1, k1, fun m hm hy => by rw [k2 m hm hy] at n; exact n.here g (of_int _)⟩
  · obtain ⟨v, rfl, h1⟩ := h.one
    obtain ⟨p, xs, rfl, e1, e1', e2⟩ := rr_tup g h1
    obtain ⟨ns, rfl, k1, k2⟩ := maxL_ok hz e2
    exact .inr (.inl ⟨p, ns, rfl, e1, k1, fun m hm hy => by rw [k2 m hm hy] at n; exact n.here g (of_int _)⟩)
  · cases hz
    obtain ⟨v, u, rfl, h1, h2⟩ := h.two
    cases rr_int h1
    cases rr_int h2
    exact .inr (.inr ⟨_, _, rfl, n.here g (of_int _)⟩)
theorem bi_min (g : Gd K T r G H s) (h : RrL K T r G H ds vs) (hz : minB ds = some z) (n : Nxt K T Q r G H s z) : rMinA K vs H Q := by
  unfold minB at hz
  split at hz <;> first | (cases hz; done) | skip
  · obtain ⟨v, rfl, h1⟩ := h.one
    obtain ⟨p, xs, rfl, e1, e2⟩ := rr_lst h1
    obtain ⟨ns, rfl, k1, k2⟩ := minL_ok hz e2
    exact .inl ⟨p, ns, rfl, SqL.of e1, k1, fun m hm hy => by rw [k2 m hm hy] at n; exact n.here g (of_int _)⟩
  · obtain ⟨v, rfl, h1⟩ := h.one
    obtain ⟨p, xs, rfl, e1, e1', e2⟩ := rr_tup g h1
    obtain ⟨ns, rfl, k1, k2⟩ := minL_ok hz e2
    exact .inr (.inl ⟨p, ns, rfl, e1, k1, fun m hm hy => by rw [k2 m hm hy] at n; exact n.here g (of_int _)⟩)
  · cases hz
    obtain ⟨v, u, rfl, h1, h2⟩ := h.two
    cases rr_int h1
    cases rr_int h2
    exact .inr (.inr ⟨_, _, rfl, n.here g (of_int _)⟩)
theorem bi_abs (g : Gd K T r G H s) (h : RrL K T r G H ds vs) (hz : absB ds = some z) (n : Nxt K T Q r G H s z) : rAbs1 vs H Q := by
  unfold absB at hz
  split at hz <;> first | (cases hz; done) | skip
  cases hz
  obtain ⟨v, rfl, h1⟩ := h.one
  cases rr_int h1
  exact ⟨_, rfl, n.here g (of_int _)⟩
end

/-! ### dict(pairs), d.get(k, v) -/
section
variable {K : PySem.W.Frag} {T : Tb} {r : List Addr} {G H : Hp} {s : Sto}
theorem key_ok {d : D} {k : L2.Key} {v : V} (h : keyOf d = some k) (hv : Rp K T r G d v) : v = kV k := by
  unfold keyOf at h
  split at h
  · cases h; exact rp_int hv
  · cases h
    unfold Rp at hv
    exact hv
  · cases h
theorem kvs_ok (g : Gd K T r G H s) : ∀ {ds : List D} {kvs : List (L2.Key × D)} {xs : List V}, kvsOf ds = some kvs → RpL K T r G ds xs → ∃ (ps : List Addr) (ws : List (L2.Key × V)), xs = ps.map V.ref ∧ Paired (fun p kv => SqT K H p [kV kv.1, kv.2]) ps ws ∧ KvR K T r G kvs ws
  | [], kvs, xs, h, k => by
    unfold kvsOf at h
    cases h
    exact ⟨[], [], k.nil_inv, .nil, rfl⟩
  | d :: ds, kvs, xs, h, k => by
    obtain ⟨v, t, rfl, k1, k2⟩ := k.cons_inv
    unfold kvsOf at h
    split at h <;> first | (cases h; done) | skip
    · rename_i heq; cases heq
    · rename_i kd vd r' heq
      cases heq
      cases hk : keyOf kd with
      | none => rw [hk] at h; cases h
      | some q =>
        rw [hk] at h
        cases hr : kvsOf ds with
        | none => rw [hr] at h; cases h
        | some kr =>
          rw [hr] at h
          cases h
          obtain ⟨ps, ws, rfl, h2, h3⟩ := kvs_ok g hr k2
          obtain ⟨a, ys, rfl, e1, e2⟩ := rp_tup k1
          obtain ⟨y1, t1, rfl, m1, m2⟩ := e2.cons_inv
          obtain ⟨y2, t2, rfl, m3, m4⟩ := m2.cons_inv
          have m5 := m4.nil_inv
          subst m5
          have ek := key_ok hk m1
          subst ek
          exact ⟨a :: ps, (q, y2) :: ws, rfl, .cons (SqT.of (g.sub _ _ e1)) h2, ⟨_, _, rfl, rfl, m3, h3⟩⟩
theorem fold_putK : ∀ (kvs : List (L2.Key × D)) (ws : List (L2.Key × V)) (m : List (L2.Key × D)) (n : List (L2.Key × V)), KvR K T r G kvs ws → KvR K T r G m n → (m.map (·.1)).Nodup →
    KvR K T r G (kvs.foldl (fun m p => put p.1 p.2 m) m) (ws.foldl (fun acc kv => putK acc kv.1 kv.2) n) ∧ ((kvs.foldl (fun m p => put p.1 p.2 m) m).map (·.1)).Nodup
  | [], ws, m, n, h, hm, nd => by
    have h : ws = [] := h
    subst h
    exact ⟨hm, nd⟩
  | p :: kvs, ws, m, n, h, hm, nd => by
    obtain ⟨⟨k, v⟩, t, rfl, h0, h1, h2⟩ := h
    have h0 : k = p.1 := h0
    subst h0
    exact fold_putK kvs t (put p.1 p.2 m) (putK n p.1 v) h2 (put_ok h1 (by rw [hm.keys]; exact nd) hm) (put_keys p.1 p.2 m nd).1
end
end T5

set_option Elab.async false
set_option linter.all false
set_option maxRecDepth 100000
set_option maxHeartbeats 1000000
/-! T5: dict(pairs), d.get(k, v). -/
namespace T5
open PySem PySem.Spec L2
open Evl (Ex)
section
variable {K : PySem.W.Frag} {T : Tb} {r : List Addr} {G H : Hp} {s : Sto}
theorem look_ok {k : L2.Key} : ∀ {kvs : List (L2.Key × D)} {ws : List (L2.Key × V)}, KvR K T r G kvs ws → (∀ d, look k kvs = some d → ∃ v, valV ws k = some v ∧ Rp K T r G d v) ∧ (look k kvs = none → valV ws k = none)
  | [], ws, h => by
    have h : ws = [] := h
    subst h
    exact ⟨fun d z => (by cases z), fun _ => rfl⟩
  | p :: kvs, ws, h => by
    obtain ⟨⟨k0, v⟩, t, rfl, h0, h1, h2⟩ := h
    have h0 : k0 = p.1 := h0
    subst h0
    obtain ⟨i1, i2⟩ := look_ok (k := k) h2
    by_cases hk : p.1 = k
    · refine ⟨fun d z => ?_, fun z => ?_⟩
      · unfold look at z
        rw [if_pos (decide_eq_true hk)] at z
        cases z
        exact ⟨v, valV_pos (p := (p.1, v)) hk, h1⟩
      · unfold look at z
        rw [if_pos (decide_eq_true hk)] at z
        cases z
    · refine ⟨fun d z => ?_, fun z => ?_⟩
      · unfold look at z
        rw [if_neg (by simpa using hk)] at z
        rw [valV_neg (p := (p.1, v)) hk]
        exact i1 d z
      · unfold look at z
        rw [if_neg (by simpa using hk)] at z
        rw [valV_neg (p := (p.1, v)) hk]
        exact i2 z
end
section
variable {X : Cx} {T : Tb} {W : WX} {cl : Calls} {a b c e : Expr} {ca cb cc : CE} {pos p : Pos}
def rDicP (K : PySem.W.Frag) : List V → Hp → VK → Prop := fun xs H Q => ∃ (a : Addr) (ps : List Addr) (kvs : List (Key × V)), xs = [.ref a] ∧ SqL K H a (ps.map V.ref) ∧ Paired (fun p kv => SqT K H p [kV kv.1, kv.2]) ps kvs ∧ ∀ p, H p = none → Q (.ref p) (upd H p (.dK (mergeK [] kvs)))
theorem ge_dicp (h : PE X e (tCB (rDicP X.K) (tL X.K T W cl (.cons ca .nil)))) : PE X e (tE X.K T W cl (.dicp ca)) :=
  imp_e h fun σ H Q ⟨env, s, r, G, g, e, h⟩ => by
    simp only [evE] at h
    refine ⟨env, s, r, G, g, e, ?_⟩
    simp only [evEs]
    cases hq : evE cl ca env s with
    | bad => rw [hq] at h; exact h.elim
    | err c ds s1 => rw [hq] at h; exact h
    | ok d s1 =>
      rw [hq] at h
      simp only [R.bind] at h
      show Out X.K T (RpL X.K T) W σ _ r G H (.ok [d] s1)
      intro y r' G' H' l g' hy
      obtain ⟨v, t, rfl, m1, m2⟩ := hy.cons_inv
      have := m2.nil_inv
      subst this
      have hr := Rr.rd g' m1
      generalize rd s1 d = d' at h hr
      cases d' <;> first | exact (show False from h).elim | skip
      rename_i ds
      simp only at h
      cases hk : kvsOf ds with
      | none => rw [hk] at h; exact h.elim
      | some kvs =>
        rw [hk] at h
        obtain ⟨p, xs, rfl, k1, k2⟩ := rr_lst hr
        obtain ⟨ps, ws, rfl, k3, k4⟩ := kvs_ok g' hk k2
        obtain ⟨f1, f2⟩ := fold_putK kvs ws [] [] k4 rfl List.nodup_nil
        refine ⟨p, ps, ws, rfl, SqL.of k1, k3, fun q hq' => ?_⟩
        refine h (.ref q) (r' ++ [q]) G' (upd H' q (.dK (mergeK [] ws))) (l.trans (le_box g' hq' _)) (g'.box hq' ⟨_, rfl, f1, f2⟩) ?_
        unfold Rp
        exact ⟨q, rfl, by rw [← g'.len]; simp⟩
theorem dl_ok {K : PySem.W.Frag} {r : List Addr} {G H : Hp} {s : Sto} (g : Gd K T r G H s) {d : D} {v : V} (h : isDl s d = true) (hv : Rp K T r G d v) : ∃ n a kvs ws, d = .loc n ∧ s[n]? = some (.dic kvs) ∧ v = .ref a ∧ r[n]? = some a ∧ H a = some (.dK ws) ∧ KvR K T r G kvs ws := by
  unfold isDl at h
  split at h
  · rename_i n
    split at h
    · rename_i kvs hs
      unfold Rp at hv
      obtain ⟨a, rfl, e⟩ := hv
      obtain ⟨ws, e1, e2, _⟩ := g.obj n a _ e hs
      exact ⟨n, a, kvs, ws, rfl, hs, rfl, e, e1, e2⟩
    · cases h
  · cases h
theorem ge_dget {o k f : Expr} {co ck cf : CE} {apos cpos : Pos} (hu : X.A.units + 1 < cLine) (ho : PE X o (tE X.K T W cl co)) (hk : PE X k (tE X.K T W cl ck)) (hf : PE X f (tE X.K T W cl cf)) (m : M2 X o "get" apos k f cpos) : PE X (.Call (.Attribute o "get" apos) [k, f] [] cpos) (tE X.K T W cl (.dget co ck cf)) :=
  imp_e (pe_dget2 hu ho hk hf m) fun σ H Q ⟨env, s, r, G, g, e, h⟩ => by
    simp only [evE] at h
    refine rdg_bind g e h fun x v r1 G1 H1 s1 l1 g1 e1 hx h1 => ?_
    split at h1
    · rename_i hd
      obtain ⟨n, a, kvs, ws, rfl, hs, rfl, hra, ha, _⟩ := dl_ok g1 hd hx
      refine ⟨a, rfl, .inl ⟨ws, .inl ha⟩, rdg_bind g1 e1 h1 fun y u r2 G2 H2 s2 l2 g2 e2 hy h2 => rdg_bind g2 e2 h2 fun z w r3 G3 H3 s3 l3 g3 e3 hz h3 => ?_⟩
      obtain ⟨dd, hdd, h4⟩ := out_lift h3
      unfold dgetD at hdd
      simp only at hdd
      split at hdd
      · rename_i kvs' hs'
        cases hkk : keyOf y with
        | none => rw [hkk] at hdd; cases hdd
        | some q =>
          rw [hkk] at hdd
          cases hdd
          have hra3 : r3[n]? = some a := l3.pre n a (l2.pre n a hra)
          obtain ⟨ws', e1', e2', _⟩ := g3.obj n a _ hra3 hs'
          have eu := key_ok hkk (hy.le l3)
          subst eu
          obtain ⟨i1, i2⟩ := look_ok (k := q) e2'
          refine ⟨valV ws' q, DGet.k e1', ?_⟩
          have h4 : Out X.K T (Rp X.K T) W σ Q r3 G3 H3 (.ok (match look q kvs' with | some d => d | none => z) s3) := h4
          cases hl : look q kvs' with
          | none =>
            rw [hl] at h4
            rw [i2 hl]
            exact h4.here g3 hz
          | some d0 =>
            rw [hl] at h4
            obtain ⟨v0, j1, j2⟩ := i1 d0 hl
            rw [j1]
            exact h4.here g3 j2
      · cases hdd
    · exact h1.elim
end
end T5

set_option Elab.async false
set_option linter.all false
set_option maxRecDepth 100000
set_option maxHeartbeats 1000000
/-! T5: {}, k in d. -/
namespace T5
open PySem PySem.Spec L2
open Evl (Ex)
section
variable {X : Cx} {T : Tb} {W : WX} {cl : Calls} {pos : Pos}
theorem ge_dnew : PE X (.Dict [] [] pos) (tE X.K T W cl (.dic [] .nil)) :=
  imp_e pe_dnewK fun σ H Q ⟨env, s, r, G, g, e, h⟩ p hp => by
    have h : Out X.K T (Rp X.K T) W σ Q r G H (.ok (.loc s.length) (s ++ [.dic []])) := h
    refine h (.ref p) (r ++ [p]) G (upd H p (.dK [])) (le_box g hp _) (g.box hp ⟨[], rfl, rfl, List.nodup_nil⟩) ?_
    unfold Rp
    exact ⟨p, rfl, by rw [← g.len]; simp⟩
/-- y in d, y not in d -/
def rDin (neg : Bool) : R2 := fun x y H Q => ∃ a o, y = .ref a ∧ DGet H a x o ∧ Q (.bl (if neg then !o.isSome else o.isSome)) H
theorem op_din (hu : X.A.units + 1 < cLine) : OpR X (compareOp .In) (rDin false) := fun pins s σ H x y v u Q I rx ry ⟨a, o, ey, g, q⟩ => by
  subst ey
  obtain rfl : u = Value.ref a := ry
  exact d_in hu I g rx fun s3 I3 => ⟨.bl o.isSome, H, I3, rfl, q⟩
theorem op_dnot (hu : X.A.units + 1 < cLine) : OpR X (compareOp .NotIn) (rDin true) := fun pins s σ H x y v u Q I rx ry ⟨a, o, ey, g, q⟩ => by
  subst ey
  obtain rfl : u = Value.ref a := ry
  exact d_notIn hu I g rx fun s3 I3 => ⟨.bl (!o.isSome), H, I3, rfl, q⟩
end
section
variable {K : PySem.W.Frag} {T : Tb} {r : List Addr} {G H : Hp} {s : Sto} {Q : VK}
theorem rr_key {d : D} {k : L2.Key} {v : V} (h : keyOf d = some k) (hv : Rr K T r G H d v) : v = kV k := by
  cases d <;> (first | (cases h; done) | exact key_ok h (show Rp K T r G _ v from hv))
theorem din_cases {op : COp} {x y : D} {b : Bool} {v u : V} (g : Gd K T r G H s) (hx : Rr K T r G H x v) (hy : Rr K T r G H y u) (h : dinD op s x y = some b) :
    ∃ a o, u = .ref a ∧ DGet H a v o ∧ ((op = .mem ∧ b = o.isSome) ∨ (op = .nmem ∧ b = !o.isSome)) := by
  unfold dinD at h
  split at h
  · rename_i n
    split at h
    · rename_i kvs hs
      split at h
      · rename_i k hk
        have hy : Rp K T r G (.loc n) u := hy
        unfold Rp at hy
        obtain ⟨a, rfl, e⟩ := hy
        obtain ⟨ws, e1, e2, _⟩ := g.obj n a _ e hs
        have eu := rr_key hk hx
        subst eu
        obtain ⟨i1, i2⟩ := look_ok (k := k) e2
        have eo : (valV ws k).isSome = (look k kvs).isSome := by
          cases hl : look k kvs with
          | none =>
            rw [i2 hl]
            rfl
          | some d0 =>
            obtain ⟨v0, j1, _⟩ := i1 d0 hl
            rw [j1]
            rfl
        refine ⟨a, valV ws k, rfl, DGet.k e1, ?_⟩
        rw [eo]
        split at h
        · cases h; exact .inl ⟨rfl, rfl⟩
        · cases h; exact .inr ⟨rfl, rfl⟩
        · cases h
      · cases h
    · cases h
  · cases h
theorem din_mem {x y : D} {b : Bool} {v u : V} (g : Gd K T r G H s) (hx : Rr K T r G H x v) (hy : Rr K T r G H y u) (h : dinD .mem s x y = some b) (n : Nxt K T Q r G H s (.bl b)) : rDin false v u H Q := by
  obtain ⟨a, o, e1, e2, ⟨_, e3⟩ | ⟨z, _⟩⟩ := din_cases g hx hy h
  · exact ⟨a, o, e1, e2, by rw [if_neg (by decide), ← e3]; exact n.here g (of_bl b)⟩
  · cases z
theorem din_nmem {x y : D} {b : Bool} {v u : V} (g : Gd K T r G H s) (hx : Rr K T r G H x v) (hy : Rr K T r G H y u) (h : dinD .nmem s x y = some b) (n : Nxt K T Q r G H s (.bl b)) : rDin true v u H Q := by
  obtain ⟨a, o, e1, e2, ⟨z, _⟩ | ⟨_, e3⟩⟩ := din_cases g hx hy h
  · cases z
  · exact ⟨a, o, e1, e2, by rw [if_pos rfl, ← e3]; exact n.here g (of_bl b)⟩
theorem din_no {op : COp} {x y : D} {b : Bool} (h : dinD op s x y = some b) : op = .mem ∨ op = .nmem := by
  unfold dinD at h
  split at h
  · split at h
    · split at h
      · split at h
        · exact .inl rfl
        · exact .inr rfl
        · cases h
      · cases h
    · cases h
  · cases h
end
end T5

set_option Elab.async false
set_option linter.all false
set_option maxRecDepth 100000
set_option maxHeartbeats 1000000
/-! T5: defs, their calls. -/
namespace T5
open PySem PySem.Spec L2
open Evl (Ex)

/-- a def's promise where no repr runs around -/
structure FnG (P : Program) (w : World) (K : PySem.W.Frag) (mg : Str → Option Value) (base : Heap) (k : Nat) (f : Addr) (fd : FuncData) (ps : List Str) (sp : Sp) : Prop where
  len : ∀ vs H Q E, sp vs H Q E → vs.length = ps.length
  run : ∀ (A : Around) (outer : List PySem.Env) (s : Shared) (H : Hp) (args : Args) (us : List Value) (vs : List V) (Q : VK) (E : XK), A.guards = some [] → Room (3 * k) A → Env0 P w K mg base A outer s H → BindsTo s fd args (ps.zip us) → Vals vs us → sp vs H Q E →
    codeAny (model P w) A (.call (.ref f) args) (CR (L2.CX P w) outer P w H s Q E) s
theorem FnG.up {P : Program} {w : World} {K : PySem.W.Frag} {mg : Str → Option Value} {base : Heap} {j k : Nat} {f : Addr} {fd : FuncData} {ps : List Str} {sp : Sp} (h : FnG P w K mg base j f fd ps sp) (hj : j ≤ k) : FnG P w K mg base k f fd ps sp :=
  ⟨h.len, fun A outer s H args us vs Q E hg hr => h.run A outer s H args us vs Q E hg (hr.mono (by omega))⟩
/-- by the body -/
theorem fnG_of {P : Program} {w : World} {K : PySem.W.Frag} {mg : Str → Option Value} {base : Heap} {k : Nat} {f : Addr} {name qual : Str} {params : Arguments} {body : List Stmt} {scope : Scope} {dV kV doc pm cdv ct oc : Value} {an od : Option Addr}
    {osl : Array (Option Value)} {N ps : List Str} {sp : Sp} (lk : K.lookup f = some ⟨oc, od, .func (PySem.W.fnOf name qual params body scope dV kV doc pm an cdv ct), osl⟩) (hcd : PySem.W.codeIn K cdv qual = true) (S : FnScope N ps scope)
    (len : ∀ vs H Q E, sp vs H Q E → vs.length = ps.length)
    (hb : ∀ (A : Around) (outer : List PySem.Env) (s : Shared) (H : Hp) (vs : List V) (Q : VK) (E : XK), A.guards = some [] → Room (3 * k + 2) (A.deeper (PyProof.Rows.envOfC qual scope s.heap.objs.size f cdv)) → sp vs H Q E →
      ∃ t, PSs (cxOf (L2.CX P w) P w K mg base N qual scope f cdv A outer s H E) body t ∧ t { nx := fun _ H' => Q .non H', rt := Q } (start N vs) H) :
    FnG P w K mg base (k + 1) f (PySem.W.fnOf name qual params body scope dV kV doc pm an cdv ct) ps sp := by
  refine ⟨len, fun A outer s H args us vs Q E hg hr e0 hbi rel hsp => ?_⟩
  have keep := fun b o e => (e0.bs b o e).1
  have KX : K.In s.heap := e0.mod.kin.keeps keep
  have lim : s.heap.NoLimit := e0.mod.nolimit.keeps keep
  have hl := len _ _ _ _ hsp
  refine codeAny_call_function hr.depth (KX _ _ lk) rfl S.co S.gen rfl (PySem.W.codeRec_of KX hcd) (hbi _ _ _ _ ?_)
  have hkind : ∀ y ∈ ps.zip us, scope.names.lookup y.1 = some .local ∨ (scope.names.lookup y.1 = some .cell ∧ ((cellsFrom (s.heap.objs.size + 1) scope.names []).lookup y.1).isSome = true) := by
    rintro ⟨n, v⟩ hy
    exact (S.par n (List.of_mem_zip hy).1).imp id fun q => ⟨q, PySem.W.cellsFrom_some _ _ _ (.inl q)⟩
  refine wpAny_newFunctionEnv_cells S.kind hkind fun env he s1 x => ?_
  subst he
  obtain ⟨t, ht, hq⟩ := hb A outer s H vs Q E hg ((hr.mono (j := 3 * k + 2 + 1) (by omega)).deeper _) hsp
  refine ⟨lim.keeps x.toInCall.keep, codeAny_func (wpAny_mono (ht.run [] s1 (start N vs) H _ (inv_start S hr.hd e0 hl rel x) hq) (fun fl s' hs => ?_) fun e s' hs => hs)⟩
  cases fl with
  | ret u =>
    obtain ⟨v, σ', H', J, rv, q⟩ := hs
    exact ⟨v, H', J.os, J.bare, J.base, J.hok, rv, q⟩
  | next =>
    obtain ⟨σ', H', J, q⟩ := hs
    exact ⟨V.non, H', J.os, J.bare, J.base, J.hok, rfl, q⟩
  | brk =>
    obtain ⟨_, _, _, q⟩ := hs
    exact q.elim
  | cont =>
    obtain ⟨_, _, _, q⟩ := hs
    exact q.elim

/-! ### how arguments come to parameters -/
/-- a datum without a place in the heap -/
def Scal (d : D) (u : Value) : Prop := ∃ v, (∀ K T r G, Rp K T r G d v) ∧ RelV v u
def SrcV (uw : List Value) : List (Nat ⊕ D) → List Value → Prop
  | [], zs => zs = []
  | .inl j :: t, zs => ∃ u q, zs = u :: q ∧ uw[j]? = some u ∧ SrcV uw t q
  | .inr d :: t, zs => ∃ u q, zs = u :: q ∧ Scal d u ∧ SrcV uw t q
theorem arr_ok {K : PySem.W.Frag} {T : Tb} {r : List Addr} {G : Hp} {ds : List D} {vs : List V} {uw : List Value} (h : RpL K T r G ds vs) (hv : Vals vs uw) : ∀ {src : List (Nat ⊕ D)} {as : List D} {zs : List Value}, arr src ds = some as → SrcV uw src zs → ∃ vs', RpL K T r G as vs' ∧ Vals vs' zs
  | [], as, zs, ha, hz => by
    unfold arr at ha
    cases ha
    have hz : zs = [] := hz
    subst hz
    exact ⟨[], .nil, .nil⟩
  | .inl j :: t, as, zs, ha, hz => by
    unfold arr at ha
    obtain ⟨u, q, rfl, e1, e2⟩ := hz
    cases hd : ds[j]? with
    | none => rw [hd] at ha; cases ha
    | some d =>
      rw [hd] at ha
      simp only [Option.bind_some] at ha
      cases hr : arr t ds with
      | none => rw [hr] at ha; cases ha
      | some as' =>
        rw [hr] at ha
        cases ha
        obtain ⟨vs', i1, i2⟩ := arr_ok h hv hr e2
        obtain ⟨v, k1, k2⟩ := h.get hd
        obtain ⟨u', k3, k4⟩ := hv.get k1
        rw [e1] at k3
        cases k3
        exact ⟨v :: vs', .cons k2 i1, .cons k4 i2⟩
  | .inr d :: t, as, zs, ha, hz => by
    unfold arr at ha
    obtain ⟨u, q, rfl, ⟨v, e0, e1⟩, e2⟩ := hz
    cases hr : arr t ds with
    | none => rw [hr] at ha; cases ha
    | some as' =>
      rw [hr] at ha
      cases ha
      obtain ⟨vs', i1, i2⟩ := arr_ok h hv hr e2
      exact ⟨v :: vs', .cons (e0 K T r G) i1, .cons e1 i2⟩
/-- a call's form: n positional values, keywords ks -/
def Bnd (K : PySem.W.Frag) (fd : FuncData) (ps : List Str) (n : Nat) (ks : List Str) (src : List (Nat ⊕ D)) : Prop :=
  ∀ (s : Shared) (us ws : List Value), K.In s.heap → us.length = n → ws.length = ks.length → ∃ zs, zs.length = ps.length ∧ SrcV (us ++ ws) src zs ∧ BindsTo s fd ⟨us, ks.zip ws⟩ (ps.zip zs)

/-- what the def i promises, k calls deep -/
def SpD (K : PySem.W.Frag) (T : Tb) (F : List Fd) (k i n : Nat) : Sp := fun vs H Q E => vs.length = n ∧ ∃ ds s r G, Gd K T r G H s ∧ RpL K T r G ds vs ∧ Out K T (Rp K T) (fun cv dd _ H' => E cv dd H') [] Q r G H (run F k i ds noT s)
section
variable {X : Cx} {T : Tb} {W : WX} {F : List Fd} {k i : Nat} {f : Addr} {fd : FuncData} {ps : List Str} {x : Str} {p pos kpos : Pos} {a : Expr} {es : List Expr} {kws : List Keyword} {ca : CE} {ces cks : CEs} {src : List (Nat ⊕ D)} {n : Nat} {ks : List Str} {nm : Option Str}
theorem gk_nil {cl : Calls} : PK X [] (tL X.K T W cl .nil) := ⟨fun pos pins s σ H Q I h => pk_nil.run pos pins s σ H Q I (by
  obtain ⟨env, s, r, G, g, e, h⟩ := h
  simp only [evEs] at h
  exact h.here g .nil)⟩
theorem gk_cons {cl : Calls} (ha : PE X a (tE X.K T W cl ca)) (hr : PK X kws (tL X.K T W cl cks)) : PK X (⟨nm, a, kpos⟩ :: kws) (tL X.K T W cl (.cons ca cks)) := ⟨fun pos pins s σ H Q I h => (pk_cons ha hr).run pos pins s σ H Q I (by
  obtain ⟨env, s, r, G, g, e, h⟩ := h
  simp only [evEs] at h
  refine rdg_bind g e h fun x v r1 G1 H1 s1 l1 g1 e1 hx h1 => rdg_bind g1 e1 h1 fun ds vs r2 G2 H2 s2 l2 g2 e2 hds h2 => ?_
  exact h2.here g2 (.cons (hx.le l2) hds))⟩
/-- the callee runs -/
theorem run_G {pins : List (Addr × Obj)} {σ : St} {H : Hp} {s : Shared} {Q : VK} {us ws : List Value} {vs zs : List V} {r : List Addr} {G : Hp} {st : Sto} {ds ds2 : List D} (hF : FnG X.prog X.w X.K X.mg X.base k f fd ps (SpD X.K T F k i ps.length)) (hr : Room (3 * k) X.A) (hg : X.A.guards = some []) (tk : Takes X W) (hb : Bnd X.K fd ps n ks src)
    (I : L2.Inv X pins σ H s) (g : Gd X.K T r G H st) (h1 : RpL X.K T r G ds vs) (h2 : RpL X.K T r G ds2 zs) (rv : Vals vs us) (rz : Vals zs ws) (l1 : us.length = n) (l2 : ws.length = ks.length)
    (h : Out X.K T (Rp X.K T) W σ Q r G H (match arr src (ds ++ ds2) with | some as => run F k i as noT st | none => .bad)) : wpAny (model X.prog X.w) X.A (call (.ref f) us (ks.zip ws)) (EP X pins σ Q) X.xe s := by
  cases ha : arr src (ds ++ ds2) with
  | none => rw [ha] at h; exact h.elim
  | some as =>
    rw [ha] at h
    obtain ⟨qs, z1, z2, z3⟩ := hb s us ws I.kIn l1 l2
    obtain ⟨vs', k1, k2⟩ := arr_ok (h1.append h2) (rv.append rz) ha z2
    simp only at h
    have hsp : SpD X.K T F k i ps.length vs' H Q (fun cv dd H' => W cv dd σ H') := by
      refine ⟨by rw [k2.length, z1], as, st, r, G, g, k1, ?_⟩
      cases hq : run F k i as noT st with
      | ok d s' => rw [hq] at h; exact h
      | err c e s' => rw [hq] at h; exact h
      | bad => rw [hq] at h; exact h
    refine wpAny_call (codeAny_mono (hF.run X.A X.stack s H ⟨us, ks.zip ws⟩ qs vs' Q _ hg hr I.env0 z3 k2 hsp) fun res s' hq => ?_)
    cases res with
    | error e => exact tk e s' (XE.of_call I (fun cls d H' q => q) hq)
    | ok fl =>
      cases fl with
      | ret u => exact I.after hq
      | next => exact hq.elim
      | brk => exact hq.elim
      | cont => exact hq.elim
/-- f(e, .., k = v, ..) -/
theorem ge_call {cl : Calls} (hcl : cl i = run F k i) (hF : FnG X.prog X.w X.K X.mg X.base k f fd ps (SpD X.K T F k i ps.length)) (hr : Room (3 * k) X.A) (hg : X.A.guards = some []) (tk : Takes X W) (hgl : Gl X x) (hm : X.mg x = some (.ref f)) (hk : PySem.W.keepIn X.K (.ref f) = true)
    (hb : Bnd X.K fd ps es.length ks src) (ha : PA X es (tL X.K T W cl ces)) (hkw : PK X kws (tL X.K T W cl cks)) (hall : (backToKw pos (keywordEach kws X.env)).all (·.1.isSome) = true) (hks : (backToKw pos (keywordEach kws X.env)).filterMap (·.1) = ks)
    (hkl : kws.length = ks.length) (hdb : (x == ("__debug__" : Str)) = false) (hst : ∀ e t, es = e :: t → starEach (e :: t) X.env = (false, eval e X.env) :: starEach t X.env)
    (hnil : es = [] → ces = .nil) (hlen : ∀ env st ds st', evEs cl ces env st = .ok ds st' → ds.length = es.length) (hlen2 : ∀ env st ds st', evEs cl cks env st = .ok ds st' → ds.length = kws.length)
    (hpl : ((backTo pos (starEach es X.env)).any (·.1) || (backToKw pos (keywordEach kws X.env)).any (·.1.isNone)) = false) :
    PE X (.Call (.Name x p) es kws pos) (tE X.K T W cl (.call i src ces cks)) := by
  refine ⟨fun pins s σ H Q I ⟨env, st, r, G, g, e, h⟩ => wpAny_Call_Name_kw (ld_glob I hgl hm ?_ hdb)⟩
  simp only [evE, hcl] at h
  -- positional values, then the keywords'
  have fin : ∀ (vs : List V) (us : List Value) (H1 : Hp) (s1 : Shared), L2.Inv X pins σ H1 s1 → Vals vs us → us.length = es.length →
      (∃ r1 G1 st1 ds, Gd X.K T r1 G1 H1 st1 ∧ EnvR X.K T r1 G1 σ env ∧ RpL X.K T r1 G1 ds vs ∧ Out X.K T (Rp X.K T) W σ Q r1 G1 H1 ((evEs cl cks env st1).bind fun ds2 s2 => match arr src (ds ++ ds2) with | some as => run F k i as noT s2 | none => .bad)) →
      wpAny (model X.prog X.w) X.A (evalAll ((backToKw pos (keywordEach kws X.env)).map (·.2))) (fun ws s2 => X.K.In s2.heap ∧ wpAny (model X.prog X.w) X.A (call (.ref f) ([] ++ us) (((backToKw pos (keywordEach kws X.env)).filterMap (·.1)).zip ws)) (EP X pins σ Q) X.xe s2) X.xe s1 := by
    rintro vs us H1 s1 I1 rv hl ⟨r1, G1, st1, ds, g1, e1, hds, h1⟩
    have hrd : tL X.K T W cl cks σ H1 (fun zs H2 => ∃ r2 G2 st2 ds2, zs.length = kws.length ∧ Gd X.K T r2 G2 H2 st2 ∧ RpL X.K T r2 G2 ds vs ∧ RpL X.K T r2 G2 ds2 zs ∧ Out X.K T (Rp X.K T) W σ Q r2 G2 H2 (match arr src (ds ++ ds2) with | some as => run F k i as noT st2 | none => .bad)) :=
      rdg_bindE g1 e1 h1 fun ds2 zs r2 G2 H2 st2 ex l2 g2 e2 hz h2 => ⟨r2, G2, st2, ds2, by rw [hz.length]; exact hlen2 _ _ _ _ ex, g2, hds.le l2, hz, h2⟩
    refine thn (hkw.run pos pins s1 σ H1 _ I1 hrd) fun ws s2 ⟨zs, H2, I2, rz, r2, G2, st2, ds2, hzl, g2, hd1, hd2, h2⟩ => ⟨I2.kIn, ?_⟩
    rw [hks, List.nil_append]
    exact run_G hF hr hg tk hb I2 g2 hd1 hd2 rv rz hl (by rw [← rz.length, hzl, hkl]) h2
  have hrd0 : tL X.K T W cl ces σ H (fun vs H1 => vs.length = es.length ∧ ∃ r1 G1 st1 ds, Gd X.K T r1 G1 H1 st1 ∧ EnvR X.K T r1 G1 σ env ∧ RpL X.K T r1 G1 ds vs ∧ Out X.K T (Rp X.K T) W σ Q r1 G1 H1 ((evEs cl cks env st1).bind fun ds2 s2 => match arr src (ds ++ ds2) with | some as => run F k i as noT s2 | none => .bad)) :=
    rdg_bindE g e h fun ds vs r1 G1 H1 st1 ex l1 g1 e1 hds h1 => ⟨by rw [hds.length]; exact hlen _ _ _ _ ex, r1, G1, st1, ds, g1, e1, hds, h1⟩
  cases es with
  | nil =>
    refine PySem.W.callWith_KW0 (h₀ := X.base) I.ok.mod.kin hk hall ?_ hpl
    have hc := hnil rfl
    subst hc
    simp only [evEs] at h
    exact fin [] [] H s I .nil rfl ⟨r, G, st, [], g, e, .nil, h⟩
  | cons e0 t =>
    refine PySem.W.callWith_KW (h₀ := X.base) I.ok.mod.kin hk hall (thn (ha.run pos pins s σ H _ I hrd0) fun us s1 ⟨vs, H1, I1, rv, hvl, hx⟩ => ?_) hpl (hst e0 t rfl)
    exact fin vs us H1 s1 I1 rv (by rw [← rv.length, hvl]) hx
end
end T5

set_option Elab.async false
set_option linter.all false
set_option maxRecDepth 100000
set_option maxHeartbeats 1000000
/-! T5: a def's body keeps the def's promise. -/
namespace T5
open PySem PySem.Spec L2
open Evl (Ex)
section
variable {K : PySem.W.Frag} {T : Tb} {r r' : List Addr} {G G' H H' : Hp} {s s' : Sto}
theorem cleanS_at {n : Nat} : ∀ {l : List SO} {m : Nat} {o : SO}, cleanS n l = true → l[m]? = some o → cleanO n o = true
  | [], _, _, _, h => by simp at h
  | x :: l, 0, o, c, h => by
    simp at h
    subst h
    exact (Bool.and_eq_true_iff.mp (show (_ && _) = true from c)).1
  | x :: l, m + 1, o, c, h => cleanS_at (l := l) (m := m) (Bool.and_eq_true_iff.mp (show (_ && _) = true from c)).2 (by simpa using h)
theorem Pre.lt (p : Pre r r') {m : Nat} {a : Addr} (hm : m < r.length) (h : r'[m]? = some a) : r[m]? = some a := by
  have h1 := p m _ (List.getElem?_eq_getElem hm)
  rw [h1] at h
  rw [List.getElem?_eq_getElem hm]
  exact h
/-- the store cut off -/
theorem Gd.trunc (g' : Gd K T r' G' H' s') (p : Pre r r') (fl : Pre T.r0 r) (nd : r.Nodup) (hc : cleanS r.length (s'.take r.length) = true) (hl : r.length ≤ s'.length) : Gd K T r G' H' (s'.take r.length) where
  sub := g'.sub
  off := fun a ha => by
    obtain ⟨n, hn⟩ := List.getElem?_of_mem ha
    exact g'.off a (List.mem_of_getElem? (p n a hn))
  len := by rw [List.length_take]; omega
  nd := nd
  obj := fun n a so h1 h2 => by
    have hn := (List.getElem?_eq_some_iff.mp h1).1
    have hco := cleanS_at hc h2
    rw [List.getElem?_take_of_lt hn] at h2
    exact (g'.obj n a so (p n a h1) h2).cut (fun m b hm hb => p.lt hm hb) hco
  flr := fl
  flg := g'.flg
  tbs := g'.tbs
  ngt := g'.ngt
theorem Le.trunc (l : Le r G H r' G' H') : Le r G H r G' H' := ⟨.refl, fun _ h => .inl h, l.ex, l.kp, l.st, l.nw, l.tbk⟩
theorem len_le (l : Le r G H r' G' H') (g : Gd K T r G H s) (g' : Gd K T r' G' H' s') : r.length ≤ s'.length := by
  rw [← g'.len]
  by_cases h0 : r.length = 0
  · omega
  · have h1 := l.pre (r.length - 1) _ (List.getElem?_eq_getElem (by omega))
    have := (List.getElem?_eq_some_iff.mp h1).1
    omega
/-- a list of the store frozen, the rest cut off -/
theorem Gd.freeze (g' : Gd K T r' G' H' s') (l : Le r G H r' G' H') (g : Gd K T r G H s) (hc : cleanS r.length (s'.take r.length) = true) {m : Nat} {a : Addr} {xs : List V} (hm : r.length ≤ m) (ha : r'[m]? = some a) (hx : H' a = some (.lst xs)) :
    Gd K T r (upd G' a (.lst xs)) H' (s'.take r.length) ∧ Le r G H r (upd G' a (.lst xs)) H' := by
  have hl := len_le l g g'
  have t := g'.trunc l.pre g.flr g.nd hc hl
  have har : a ∉ r := fun z => by
    obtain ⟨n, hn⟩ := List.getElem?_of_mem z
    have := nodup_at g'.nd (l.pre n a hn) ha
    have h2 := (List.getElem?_eq_some_iff.mp hn).1
    omega
  have haG : G' a = none := g'.off a (List.mem_of_getElem? ha)
  have hex : Ex G' (upd G' a (.lst xs)) := ex_upd haG
  refine ⟨⟨fun b o h => ?_, fun b hb => ?_, t.len, t.nd, fun n b so h1 h2 => (t.obj n b so h1 h2).mono .refl hex, g.flr, t.flg.trans hex, t.tbs, fun b ps h => ?_⟩, ⟨.refl, fun _ h => .inl h, l.ex.trans hex, l.kp, l.st, fun b o h => ?_, l.tbk⟩⟩
  · by_cases e : b = a
    · subst e
      rw [upd_same] at h
      rw [← h]
      exact hx
    · rw [upd_ne e] at h
      exact t.sub b o h
  · have e : b ≠ a := fun z => har (z ▸ hb)
    rw [upd_ne e]
    exact t.off b hb
  · by_cases e : b = a
    · rw [e, upd_same] at h
      cases h
    · rw [upd_ne e] at h
      exact t.ngt b ps h
  · by_cases e : b = a
    · subst e
      rcases l.fr b (List.mem_of_getElem? ha) with z | z
      · exact absurd z har
      · exact .inr (.inl z)
    · rw [upd_ne e] at h
      exact l.nw b o h
/-- what fz hands on -/
theorem fz_ok {Q : VK} {W : WX} {d : D} {v : V} (g : Gd K T r G H s) (h : Out K T (Rp K T) W [] Q r G H (fz r.length s' d)) (l : Le r G H r' G' H') (g' : Gd K T r' G' H' s') (hd : Rp K T r' G' d v) : Q v H' := by
  have hl := len_le l g g'
  unfold fz at h
  split at h
  · rename_i hc
    have t := g'.trunc l.pre g.flr g.nd hc hl
    have cutR : ∀ {d : D} {v : V}, clean r.length d = true → Rp K T r' G' d v → Rp K T r G' d v := fun hcl q => q.cut (fun m b hm hb => l.pre.lt hm hb) hcl
    have plain : clean r.length d = true → Out K T (Rp K T) W [] Q r G H (.ok d (s'.take r.length)) → Q v H' := fun hcl hh => hh v r G' H' l.trunc t (cutR hcl hd)
    cases d with
    | loc m =>
      simp only at h
      split at h
      · rename_i hm
        exact plain hm h
      · rename_i hm
        obtain ⟨a, rfl, ha⟩ := rp_loc hd
        split at h
        · rename_i ds hs
          split at h
          · rename_i hcl
            obtain ⟨xs, j1, j2⟩ := g'.obj m a _ ha hs
            have hm' : r.length ≤ m := by
              have : ¬ m < r.length := fun z => hm (Nat.ble_eq.mpr z)
              omega
            obtain ⟨f1, f2⟩ := g'.freeze l g hc hm' ha j1
            refine h (.ref a) r _ H' f2 f1 (of_lst upd_same ((j2.cut (fun m b hm hb => l.pre.lt hm hb) hcl).mono .refl (ex_upd (g'.off a (List.mem_of_getElem? ha)))))
          · exact h.elim
        · exact h.elim
    | _ =>
      simp only at h
      split at h
      · rename_i hcl
        exact plain hcl h
      · exact h.elim
  · exact h.elim
end

section
variable {T : Tb} {P : Program} {w : World} {K : PySem.W.Frag} {mg : Str → Option Value} {base : Heap} {F : List Fd} {k i : Nat} {N ps : List Str}
theorem start_env {r : List Addr} {G : Hp} {ds : List D} {vs : List V} (h : RpL K T r G ds vs) (hl : vs.length = ps.length) (n : Nat) (hn : n = N.length) : EnvR K T r G (L2.start N vs) (ds.map some ++ List.replicate (n - ps.length) none) := by
  have hd := h.length
  refine ⟨by unfold L2.start; simp [hn]; omega, fun j d e => ?_⟩
  by_cases hj : j < ds.length
  · rw [List.getElem?_append_left (by simpa using hj), List.getElem?_map] at e
    cases hq : ds[j]? with
    | none => rw [hq] at e; cases e
    | some d' =>
      rw [hq] at e
      cases e
      obtain ⟨v, e1, e2⟩ := h.get hq
      refine ⟨v, ?_, e2⟩
      unfold L2.start
      rw [List.getElem?_append_left (by rw [List.length_map]; omega), List.getElem?_map, e1]
      rfl
  · rw [List.getElem?_append_right (by simpa using hj)] at e
    rw [List.getElem?_replicate] at e
    split at e <;> cases e
/-- a body's end, from the def's -/
theorem endF_out {keep : Bool} {q : SR} {H : Hp} {Q : VK} {E : XK} {r : List Addr} {G : Hp} {s : Sto} (g : Gd K T r G H s) (h : Out K T (Rp K T) (fun cv dd _ H' => E cv dd H') [] Q r G H (endF keep r.length q)) :
    OutS K T (fun cv dd _ H' => E cv dd H') { nx := fun _ H' => Q .non H', rt := Q } r G H q := by
  cases q with
  | bad => exact h.elim
  | bk env s1 => exact h.elim
  | ct env s1 => exact h.elim
  | nx env s1 =>
    unfold endF at h
    simp only at h
    intro σ' r' G' H' l g' _
    have hn : Rp K T r' G' .non .non := by unfold Rp; rfl
    by_cases hk : keep = true
    · rw [if_pos hk] at h
      exact h .non r' G' H' l g' hn
    · rw [if_neg hk] at h
      exact fz_ok g h l g' hn
  | rt d s1 =>
    unfold endF at h
    simp only at h
    intro v r' G' H' l g' hv
    by_cases hk : keep = true
    · rw [if_pos hk] at h
      exact h v r' G' H' l g' hv
    · rw [if_neg hk] at h
      exact fz_ok g h l g' hv
  | err c es env s1 =>
    unfold endF at h
    intro cv dd σ' r' G' H' l g' _ hE
    simp only at h
    split at h
    · rename_i hc
      have hc' := Bool.and_eq_true_iff.mp hc
      have hlen := len_le l g g'
      refine h cv dd r G' H' l.trunc (g'.trunc l.pre g.flr g.nd hc'.1 hlen) ?_
      obtain ⟨e1, a, fs, vs', e2, e3, e4, e5, e6⟩ := hE
      exact ⟨e1, a, fs, vs', e2, e3, e4.cut (fun m b hm hb => l.pre.lt hm hb) hc'.2, e5, e6⟩
    · exact h.elim
/-- behind a sealed def -/
theorem Le.unseal {r : List Addr} {G G' H H' : Hp} {s : Sto} (g : Gd K T r G H s) (l : Le [] G H [] G' H') (g' : Gd K T [] G' H' []) : Le r G H r G' H' ∧ Gd K T r G' H' s := by
  have nx : ∀ a o, a ∈ r → G' a = some o → False := fun a o ha h => by
    rcases l.nw a o h with z | z | ⟨_, z, P, rfl⟩
    · rw [g.off a ha] at z; cases z
    · exact g.not_in z ha
    · rcases g.nt ha _ z with ⟨_, e⟩ | ⟨_, e⟩ <;> cases e
  have kh : ∀ a ∈ r, ∃ o, H a = some o ∧ H' a = some o := fun a ha => by
    cases h : H a with
    | none => exact absurd ha (g.not_in h)
    | some o =>
      refine ⟨o, rfl, l.kp a o (by simp) h fun ps e => ?_⟩
      rcases g.nt ha _ h with ⟨_, z⟩ | ⟨_, z⟩ <;> (rw [z] at e; cases e)
  refine ⟨⟨.refl, fun _ h => .inl h, l.ex, fun a o _ h n => l.kp a o (by simp) h n, l.st, fun a o h => ?_, l.tbk⟩, ⟨g'.sub, fun a ha => ?_, g.len, g.nd, fun n a so h1 h2 => ?_, g.flr, g'.flg, g'.tbs, g'.ngt⟩⟩
  · rcases l.nw a o h with z | z | ⟨_, z⟩
    · exact .inl z
    · exact .inr (.inl z)
    · exact .inr (.inr ⟨fun ha => nx a o ha h, z⟩)
  · cases h : G' a with
    | none => rfl
    | some o => exact (nx a o ha h).elim
  · obtain ⟨o, e1, e2⟩ := kh a (List.mem_of_getElem? h1)
    have := g.obj n a so h1 h2
    rw [e1] at this
    rw [e2]
    exact this.mono .refl l.ex
theorem seal_out {q : SR} {H : Hp} {Q : VK} {E : XK} {r : List Addr} {G : Hp} {s : Sto} (g : Gd K T r G H s) (h : Out K T (Rp K T) (fun cv dd _ H' => E cv dd H') [] Q r G H (sealR s (endF false 0 q))) :
    Out K T (Rp K T) (fun cv dd _ H' => E cv dd H') [] Q [] G H (endF false 0 q) := by
  cases hq : endF false 0 q with
  | bad => rw [hq] at h; exact h
  | ok d s1 =>
    rw [hq] at h
    cases s1 <;> first | exact (show False from h).elim | skip
    intro v r' G' H' l g' hv
    have hr : r' = [] := List.eq_nil_of_length_eq_zero g'.len
    subst hr
    obtain ⟨l2, g2⟩ := Le.unseal g l g'
    exact h v r G' H' l2 g2 (hv.mono (fun n a z => by simp at z) (fun _ _ z => z))
  | err c es s1 =>
    rw [hq] at h
    cases s1 <;> first | exact (show False from h).elim | skip
    intro cv dd r' G' H' l g' hE
    have hr : r' = [] := List.eq_nil_of_length_eq_zero g'.len
    subst hr
    obtain ⟨l2, g2⟩ := Le.unseal g l g'
    refine h cv dd r G' H' l2 g2 ?_
    obtain ⟨e1, a, fs, vs', e2, e3, e4, e5, e6⟩ := hE
    refine ⟨e1, a, fs, vs', e2, e3, e4.mono (fun n a z => by simp at z) (fun _ _ z => z), e5, e6⟩
/-- the promise, from the body's reading -/
theorem body_reads {fb : Fd} (hact : fb.act = false) (hr0 : T.r0 = []) {vs : List V} {H : Hp} {Q : VK} {E : XK} (hf : F[i]? = some fb) (hp : fb.par = ps.length) (hs : fb.slots = N.length) (h : SpD K T F (k + 1) i ps.length vs H Q E) :
    tSs K T (fun cv dd _ H' => E cv dd H') (run F k) fb.body { nx := fun _ H' => Q .non H', rt := Q } (L2.start N vs) H := by
  obtain ⟨hl, ds, s, r, G, g, hds, h⟩ := h
  have hdl : ds.length = fb.par := by rw [← hds.length, hl, hp]
  unfold run at h
  rw [hf] at h
  simp only at h
  rw [if_neg (by rw [hact]; decide)] at h
  by_cases hseal : fb.shut = true
  · rw [if_pos hseal] at h
    split at h
    · rename_i hc
      have hc' := (Bool.and_eq_true_iff.mp hc).2
      have g0 : Gd K T [] G H [] := ⟨g.sub, fun _ z => (by cases z), rfl, List.nodup_nil, fun n a so z _ => (by simp at z), by rw [hr0]; exact .refl, g.flg, g.tbs, g.ngt⟩
      have hds0 : RpL K T [] G ds vs := hds.cut (fun m b hm _ => absurd hm (Nat.not_lt_zero m)) hc'
      rw [hp] at h
      exact ⟨_, [], [], G, g0, start_env hds0 hl fb.slots hs, endF_out g0 (seal_out g h)⟩
    · exact h.elim
  · rw [if_neg hseal] at h
    rw [if_pos (by rw [hdl]; exact Nat.beq_refl _)] at h
    rw [hp, ← g.len] at h
    exact ⟨_, s, r, G, g, start_env hds hl fb.slots hs, endF_out g h⟩
end
end T5

set_option Elab.async false
set_option linter.all false
set_option maxRecDepth 100000
set_option maxHeartbeats 2000000
/-! T5: an error class whose __init__ says super().__init__(a, ..); self.a = a; .. : made. -/
namespace T5
open PySem PySem.Spec PyProof.Rows L2

/-! ### the form of such an __init__ -/
def argNames : List Expr → Option (List Str)
  | [] => some []
  | .Name x _ :: r => (argNames r).map (x :: ·)
  | _ => none
def asgNames (self : Str) : List Stmt → Option (List Str)
  | [] => some []
  | .Assign [.Attribute (.Name y _) f _] (.Name x _) _ :: r => if decide (y = self) && decide (f = x) then (asgNames self r).map (x :: ·) else none
  | _ => none
def initB (self : Str) (ps : List Str) : List Stmt → Bool
  | .Expr (.Call (.Attribute (.Call (.Name s _) [] [] _) m ap) args [] cp) _ :: r => decide (s = "super") && decide (m = "__init__") && decide (argNames args = some ps) && decide (asgNames self r = some ps) && (ap.endLine == cp.line) && Nat.blt args.length 29
  | _ => false
/-- a name that is a plain local -/
def locB (sc : Scope) (x : Str) : Bool := decide (sc.names.lookup x = some .local) && !(x == ("__debug__" : Str))

/-! ### the machine's steps -/
/-- while __init__ runs: all of h stands; the locals m at L; the exception at e, its dict d -/
structure InitSt (h : Heap) (L e C : Addr) (m : Str → Option Value) (d : Option Addr) (hp : Heap) : Prop where
  kp : ∀ b o, h.get? b = some o → hp.get? b = some o
  ns : hp.Ns L m
  nh : h.get? e = none
  nL : L ≠ e
  ex : ∃ t1 : Addr, hp.get? e = some ({ cls := .ref C, dict := d, data := .fields #[.ref t1, .none, .none, .none, .bool false, .none] } : Obj)
/-- what the written part says of such a class -/
structure ErrC (K : PySem.W.Frag) (C : Addr) (ps : List Str) : Prop where
  oex : OexC K C
  no : ∀ f ∈ ps, PySem.W.findIn K (.ref C) f = some none

def DictOk (h : Heap) (L e : Addr) (d : Option Addr) (fs : List (Str × Value)) (hp : Heap) : Prop :=
  match d with
  | none => fs = [] ∧ h.objs.size ≤ hp.objs.size
  | some dx => h.objs.size ≤ dx ∧ dx ≠ e ∧ dx ≠ L ∧ h.get? dx = none ∧ fs.length ≤ 900 ∧ hp.Ns1 dx (fun y => fs.lookup y)
section
variable {prog : Program} {w : World} {A : Around} {E : Value → Shared → Prop} {K : PySem.W.Frag} {h : Heap} {L e C : Addr} {m : Str → Option Value} {env : PySem.Env} {ps : List Str} {self : Str}
theorem InitSt.kIn {d : Option Addr} {hp : Heap} (I : InitSt h L e C m d hp) (X : K.In h) : K.In hp := X.keeps I.kp
/-- one store: the first field, or a further one -/
theorem set_field {d : Option Addr} {fs : List (Str × Value)} {f : Str} {v : Value} {s : Shared} {Q : Unit → Shared → Prop} (T : ErrC K C ps) (hf : f ∈ ps) (X : K.In h) (I : InitSt h L e C m d s.heap)
    (hd : DictOk h L e d fs s.heap)
    (k : ∀ (dx : Addr) (s' : Shared), InitSt h L e C m (some dx) s'.heap → h.objs.size ≤ dx → dx ≠ e → dx ≠ L → h.get? dx = none → s'.heap.Ns1 dx (fun y => ((f, v) :: fs).lookup y) → s'.os = s.os → s'.gens = s.gens → Q () s') :
    wpAny (model prog w) A (setAttr (.ref e) f v) Q E s := by
  obtain ⟨nm, q, N, bs, bm, sn, sub, ab, col, dd, k0, k1, k2, k3, k5, hC, hbm⟩ := T.oex.cls
  have hcl : PySem.W.clsIn K C = some { name := nm, bases := bs, mro := .ref C :: bm, ns := N, qualname := q, hasDict := true, slotNames := sn, subclasses := sub, abstract := ab, collection := col, hasDel := false } := by
    unfold PySem.W.clsIn
    rw [hC]
  obtain ⟨t1, ho⟩ := I.ex
  obtain ⟨hp, g, dr, t, os⟩ := s
  have hX : K.In hp := I.kIn X
  have lk : ∀ y : Str, ((f, v) :: fs).lookup y = if y = f then some v else fs.lookup y := fun y => by
    by_cases hy : y = f
    · subst hy
      simp [List.lookup]
    · have e' : (y == f) = false := by simpa using hy
      rw [if_neg hy]
      simp [List.lookup, e']
  cases d with
  | none =>
    obtain ⟨hd, hsz⟩ := hd
    subst hd
    refine PySem.W.set_plain hX (ox := { cls := .ref C, dict := none, data := .fields #[.ref t1, .none, .none, .none, .bool false, .none] }) (od := none) ⟨ho, rfl, rfl, trivial⟩ T.oex.sa ?_
    refine PySem.HandSPX.exc_osa hX ho hcl (show PySem.HandSPX.refsVE (.ref C :: bm) = true from hbm) rfl (T.no f hf) (fun h' tk' dx kk dn dne hx hn => ?_)
    have lt : ∀ {b : Addr} {o : Obj}, hp.get? b = some o → b ≠ dx := fun {b o} z => Nat.ne_of_lt (Nat.lt_of_lt_of_le (Heap.lt_size z) dn)
    have hLx : L ≠ dx := by
      obtain ⟨oL, _, _, hL, _⟩ := I.ns
      exact lt hL
    have hge : h.objs.size ≤ dx := Nat.le_trans hsz dn
    refine k dx _ ⟨fun b o z => kk b o (fun y => by rw [y, I.nh] at z; cases z) (I.kp b o z), ?_, I.nh, I.nL, ⟨t1, hx⟩⟩ hge dne hLx.symm ?_ ?_ rfl rfl
    · obtain ⟨oL, es, ep, hL, r⟩ := I.ns
      exact ⟨oL, es, ep, kk L oL I.nL hL, r⟩
    · cases z : h.get? dx with
      | none => rfl
      | some o => exact absurd rfl (lt (I.kp _ _ z))
    · have e2 : (fun y => if y = f then some v else none) = fun y => ([(f, v)] : List (Str × Value)).lookup y := funext fun y => ((lk y).trans (by simp)).symm
      rw [← e2]
      exact hn
  | some dx =>
    obtain ⟨d1, d2, d3, d4, d5, d6⟩ := hd
    have hw : Within (fun y => fs.lookup y) (fs.map (·.1)) := fun y hy => by
      clear d6 d5 k lk
      induction fs with
      | nil => exact absurd rfl hy
      | cons p r ih =>
        by_cases ey : y = p.1
        · rw [ey]; exact List.mem_cons_self ..
        · refine List.mem_cons_of_mem _ (ih fun z => hy ?_)
          have e' : (y == p.1) = false := by simpa using ey
          obtain ⟨p1, p2⟩ := p
          show (match y == p1 with | true => some p2 | false => r.lookup y) = none
          rw [show (y == p1) = false from e']
          exact z
    obtain ⟨oD, _, _, hoD, _, _⟩ := d6.count hw
    refine PySem.W.set_plain hX (ox := { cls := .ref C, dict := some dx, data := .fields #[.ref t1, .none, .none, .none, .bool false, .none] }) (od := some oD) ⟨ho, rfl, rfl, hoD⟩ T.oex.sa ?_
    refine PySem.OEX.osa_old hX ho d6 hw (by rw [List.length_map]; omega) hcl (show PySem.HandSPX.refsVE (.ref C :: bm) = true from hbm) rfl (T.no f hf) (fun h' tk' kk hn => ?_)
    refine k dx _ ⟨fun b o z => kk b o (fun y => by rw [y, d4] at z; cases z) (I.kp b o z), ?_, I.nh, I.nL, ⟨t1, kk e _ d2.symm ho⟩⟩ d1 d2 d3 d4 ?_ rfl rfl
    · obtain ⟨oL, es, ep, hL, r⟩ := I.ns
      exact ⟨oL, es, ep, kk L oL d3.symm hL, r⟩
    · have e2 : (fun y => if y = f then some v else fs.lookup y) = fun y => ((f, v) :: fs).lookup y := funext fun y => (lk y).symm
      rw [← e2]
      exact hn

theorem not_b {b : Bool} (h : (!b) = true) : b = false := by cases b <;> first | rfl | cases h
theorem ld_loc {x : Str} {pos : Pos} {v : Value} {s : Shared} {Q : Value → Shared → Prop} (hk : env.scope.kind = .function) (hl : locB env.scope x = true) (hL : env.locals = L) (hn : s.heap.Ns L m) (hv : m x = some v) (q : Q v s) : wpAny (model prog w) A (eval (.Name x pos) env) Q E s := by
  unfold locB at hl
  obtain ⟨l1, l2⟩ := Bool.and_eq_true_iff.mp hl
  exact wpAny_Name (wpAny_loadName_local hk (of_decide_eq_true l1) (by rw [hL]; exact hn) hv q) (not_b l2)
/-- self.a = a; .. -/
theorem asg_run (T : ErrC K C ps) (X : K.In h) (hk : env.scope.kind = .function) (hL : env.locals = L) (hls : locB env.scope self = true) (hself : m self = some (.ref e)) (val : Str → Value) (os0 : OsState) (gs0 : Array GenState) :
    ∀ (r : List Stmt) (fs' : List Str) (fs : List (Str × Value)) (d : Option Addr) (s : Shared) (Q : Flow → Shared → Prop), asgNames self r = some fs' → (∀ f ∈ fs', f ∈ ps ∧ locB env.scope f = true ∧ m f = some (val f)) → InitSt h L e C m d s.heap → DictOk h L e d fs s.heap → fs.length + fs'.length ≤ 900 → s.os = os0 → s.gens = gs0 →
      (∀ (s' : Shared) (d' : Option Addr), InitSt h L e C m d' s'.heap → DictOk h L e d' ((fs'.map fun f => (f, val f)).reverse ++ fs) s'.heap → s'.os = os0 → s'.gens = gs0 → Q .next s') → wpAny (model prog w) A (execs r env) Q E s
  | [], fs', fs, d, s, Q, ha, hf, I, D, hl, o1, o2, k => by
    unfold asgNames at ha
    cases ha
    exact wpAny_execs_nil (k s d I D o1 o2)
  | st :: r, fs', fs, d, s, Q, ha, hf, I, D, hl, o1, o2, k => by
    unfold asgNames at ha
    split at ha
    · rename_i heq
      cases heq
    · rename_i y p1 f p2 x p3 p4 r' heq
      injection heq with h1 h2
      subst h1 h2
      split at ha
      · rename_i hc
        obtain ⟨c1, c2⟩ := Bool.and_eq_true_iff.mp hc
        have c1 := of_decide_eq_true c1
        have c2 := of_decide_eq_true c2
        subst c2
        cases hr : asgNames self r with
        | none => rw [hr] at ha; cases ha
        | some fr =>
          rw [hr] at ha
          cases ha
          obtain ⟨m1, m2, m3⟩ := hf f (List.mem_cons_self ..)
          refine wpAny_execs_cons (plainObj_wpAny_Assign_Attribute (ld_loc hk m2 hL I.ns m3 (ld_loc hk (by rw [c1]; exact hls) hL I.ns (by rw [c1]; exact hself) ?_)) rfl)
          refine set_field (fs := fs) T m1 X I D fun dx s' I' e1 e2 e3 e4 e5 e6 e7 => ?_
          refine asg_run T X hk hL hls hself val os0 gs0 r fr ((f, val f) :: fs) (some dx) s' Q hr (fun g hg => hf g (List.mem_cons_of_mem _ hg)) I' ⟨e1, e2, e3, e4, ?_, e5⟩ ?_ (e6.trans o1) (e7.trans o2) fun s'' d'' J D'' => k s'' d'' J (by simpa using D'')
          · simp at hl ⊢
            omega
          · simp at hl ⊢
            omega
      · cases ha
    · cases ha
/-- names as arguments -/
theorem args_run {pos : Pos} (hk : env.scope.kind = .function) (hL : env.locals = L) (val : Str → Value) {s : Shared} (hn : s.heap.Ns L m) : ∀ (args : List Expr) (as : List Str) (Q : List Value → Shared → Prop), argNames args = some as → (∀ f ∈ as, locB env.scope f = true ∧ m f = some (val f)) →
    Q (as.map val) s → wpAny (model prog w) A (spliced (backTo pos (starEach args env))) Q E s
  | [], as, Q, ha, hf, q => by
    unfold argNames at ha
    cases ha
    exact Calls.spliced_nil q
  | a :: args, as, Q, ha, hf, q => by
    unfold argNames at ha
    split at ha
    · rename_i heq
      cases heq
    · rename_i x p r heq
      injection heq with h1 h2
      subst h1 h2
      cases hr : argNames args with
      | none => rw [hr] at ha; cases ha
      | some ar =>
        rw [hr] at ha
        cases ha
        obtain ⟨m1, m2⟩ := hf x (List.mem_cons_self ..)
        show wpAny _ _ (spliced ((false, eval (.Name x p) env) :: backTo pos (starEach args env))) _ _ _
        refine Calls.spliced_cons (ld_loc hk m1 hL hn m2 ?_)
        exact args_run hk hL val hn args ar _ hr (fun g hg => hf g (List.mem_cons_of_mem _ hg)) q
    · cases ha
end
end T5

set_option Elab.async false
set_option linter.all false
set_option maxRecDepth 100000
set_option maxHeartbeats 2000000
/-! T5: super().__init__(..), then the whole __init__. -/
namespace T5
open PySem PySem.Spec PyProof.Rows L2
/-- what the written part says of the class's own __init__ -/
structure ErrI (prog : Program) (K : PySem.W.Frag) (C fI : Addr) (slf : Str) (ps : List Str) : Prop where
  ec : ErrC K C ps
  ne : ps ≠ []
  few : ps.length ≤ 800
  fn : ∃ (qual : Str) (params : Arguments) (body : List Stmt) (scope : Scope) (dV kV doc pm : Value) (an : Option Addr) (cda : Addr) (ct oc : Value) (cc : Addr) (od : Option Addr) (osl : Array (Option Value)) (ar : Arg) (ccl : Value) (cdd : Option Addr) (vs : Array Value) (ccs : Array (Option Value)) (file : Str) (tf : Tok) (cl : Value) (cld : Option Addr) (csl : Array (Option Value)),
    K.lookup fI = some ⟨oc, od, .func (PySem.W.ksFn "__init__" qual params body scope dV kV doc pm an (.ref cda) ct cc), osl⟩ ∧ PySem.W.codeIn K (.ref cda) qual = true ∧ initB slf ps body = true ∧
    (params.posonlyargs ++ params.args).head? = some ar ∧ ar.arg = slf ∧
    K.lookup cda = some ⟨ccl, cdd, .fields vs, ccs⟩ ∧ vs[2]? = some (.str file tf) ∧ ((prog.main.file : Str) == file) = true ∧
    K.lookup cc = some ⟨cl, cld, .cell (some (.ref C)), csl⟩ ∧
    scope.names.lookup ("super" : Str) = some .globalImplicit ∧ scope.names.lookup ("__class__" : Str) = some .free ∧ (slf :: ps).all (locB scope) = true ∧ (∀ x ∈ scope.names, x.2 ≠ .cell) ∧ scope.isCoroutine = false ∧ scope.isGenerator = false ∧ scope.kind = .function ∧
    (∀ (dV kV doc pm : Value) (an : Option Addr) (cdv ct : Value) (us : List Value), us.length = (slf :: ps).length → bindArgs (PySem.W.ksFn "__init__" qual params body scope .none kV doc pm an cdv ct cc) ⟨us, []⟩ = pure ((slf :: ps).zip us)) ∧ dV = .none
  nd : (slf :: ps).Nodup
  top : (prog.main.scope.names.lookup ("super" : Str)).isSome = false
  self_ : PySem.W.mroIn K C (.ref C) = some true
  opq : PySem.W.nsIn K cStatics "thirdparty.any" = some none
  sup : PySem.W.ks_superIn K C C "__init__" = some (some (.builtin "ValueError.__init__"))
  subV : PySem.W.subIn K (.ref C) (.type "ValueError") = some true
  iC : PySem.W.findIn K (.ref C) "__init__" = some (some (.ref fI))
  tI : PySem.W.typeIn K (.ref fI) = some (.type "function")
section
variable {prog : Program} {w : World} {A : Around} {E : Value → Shared → Prop} {K : PySem.W.Frag} {h : Heap} {L e C : Addr} {m : Str → Option Value} {ps : List Str} {self : Str}
/-- the bound __init__ called -/
theorem call_mw {u : Addr} {rest : List Value} {s : Shared} {Q : Value → Shared → Prop} (T : OexC K C) (X : K.In s.heap) {t1 : Addr} (he : s.heap.get? e = some ({ cls := .ref C, dict := none, data := .fields #[.ref t1, .none, .none, .none, .bool false, .none] } : Obj))
    (hu : s.heap.get? u = some (PySem.W.kxs_mw "ValueError.__init__" e)) (hz : rest.length ≤ sizeLine)
    (k : ∀ h' t2, (∀ b o, b ≠ e → s.heap.get? b = some o → h'.get? b = some o) → h'.get? e = some ({ cls := .ref C, dict := none, data := .fields #[.ref t2, .none, .none, .none, .bool false, .none] } : Obj) → Q .none { s with heap := h' }) :
    wpAny (model prog w) A (call (.ref u) rest) Q E s := by
  obtain ⟨nm, q, N, bs, bm, sn, sub, ab, col, dd, k0, k1, k2, k3, k5, hC, hbm⟩ := T.cls
  have hC' := X _ _ hC
  obtain ⟨hh, g, d, tk, os⟩ := s
  have FB := F.excBase_ValueError
  refine wpAny_call (codeAny_of_tree (?_ : wpAny _ A.in1 (callAny (.ref u) ⟨rest, []⟩) _ _ _))
  simp only [callAny]
  refine wpAny_bind (wpAny_load hu (?_ : wpAny _ _ _ _ _ _))
  have e1 : (Value.type "method-wrapper" == Value.type "method" || Value.type "method-wrapper" == Value.type "builtin_function_or_method" || Value.type "method-wrapper" == Value.type "method-wrapper") = true := by decide
  simp only [PySem.W.kxs_mw, e1, if_true]
  refine PySem.W.KFB.if_so (by decide) (wpAny_bind (PySem.W.check_bound_init FB.toExcCallFacts hC' he rfl (wpAny_bind (wpAny_pure (wpAny_pure ⟨plainId_quiet FB.init.plain _, codeAny_builtin FB.initEntry ?_⟩)))))
  exact PySem.W.exc_init_tree (cls := .ref C) (t0 := t1) (dv := none) (c2 := .none) (c3 := .none) (b4 := .bool false) he hz fun h' kk e2 _ => k h' _ kk e2

theorem look_nd {α β : Type} [BEq α] [LawfulBEq α] {k : α} {v : β} : ∀ {l : List (α × β)}, (l.map (·.1)).Nodup → (k, v) ∈ l → l.lookup k = some v
  | [], _, hm => by cases hm
  | p :: r, nd, hm => by
    obtain ⟨n1, n2⟩ := List.nodup_cons.mp nd
    obtain ⟨p1, p2⟩ := p
    rcases List.mem_cons.mp hm with e | hm
    · cases e
      simp [List.lookup]
    · have ne : (k == p1) = false := by
        cases q : (k == p1) with
        | false => rfl
        | true =>
          rw [eq_of_beq q] at hm
          exact absurd (List.mem_map.mpr ⟨_, hm, rfl⟩) n1
      show (match k == p1 with | true => some p2 | false => r.lookup k) = some v
      rw [ne]
      exact look_nd n2 hm
theorem look_out {α β : Type} [BEq α] [LawfulBEq α] {k : α} : ∀ {l : List (α × β)}, k ∉ l.map (·.1) → l.lookup k = none
  | [], _ => rfl
  | p :: r, hm => by
    obtain ⟨p1, p2⟩ := p
    have ne : (k == p1) = false := by
      cases q : (k == p1) with
      | false => rfl
      | true => exact absurd (by rw [eq_of_beq q]; exact List.mem_cons_self ..) hm
    show (match k == p1 with | true => some p2 | false => r.lookup k) = none
    rw [ne]
    exact look_out fun z => hm (List.mem_cons_of_mem _ z)
theorem zip_keys {α β : Type} {ks : List α} {vs : List β} (h : ks.length = vs.length) : (ks.zip vs).map (·.1) = ks := by
  rw [List.map_fst_zip]
  omega
theorem names_form {pos : Pos} {env : PySem.Env} : ∀ {args : List Expr} {as : List Str}, argNames args = some as → (backTo pos (starEach args env)).all (fun x => !x.1) = true ∧ (backTo pos (starEach args env)).any (fun x => x.1) = false
  | [], _, _ => ⟨rfl, rfl⟩
  | a :: args, as, ha => by
    unfold argNames at ha
    split at ha
    · rename_i heq
      cases heq
    · rename_i x p r heq
      injection heq with h1 h2
      subst h1 h2
      cases hr : argNames args with
      | none => rw [hr] at ha; cases ha
      | some ar =>
        have ih := names_form (pos := pos) (env := env) hr
        exact ⟨(Bool.true_and _).trans ih.1, (Bool.false_or _).trans ih.2⟩
    · cases ha
/-- the whole __init__, called -/
theorem init_call {fI : Addr} {R : Result → Shared → Prop} {mg mb : Str → Option Value} {hp : Heap} {g : Array GenState} {d : Drawn} {t : Nat} {os : OsState} {us : List Value} (T : ErrI prog K C fI self ps) (X : K.In h) (kp : ∀ b o, h.get? b = some o → hp.get? b = some o) (nh : h.get? e = none) (hsz : h.objs.size ≤ hp.objs.size)
    {t0 : Addr} (he : hp.get? e = some ({ cls := .ref C, dict := none, data := .fields #[.ref t0, .none, .none, .none, .bool false, .none] } : Obj)) (hg : h.Ns mainGlobals mg) (hms : mg "super" = none) (hb : h.Ns builtinsNs mb) (hbs : mb "super" = some (.type "super")) (hlim : hp.NoLimit) (room : A.depth < recursionLimit) (hl : us.length = ps.length)
    (k : ∀ (s' : Shared) (dx : Addr), (∀ b o, h.get? b = some o → s'.heap.get? b = some o) → h.objs.size ≤ dx → dx ≠ e → h.get? dx = none → (∃ t1 : Addr, s'.heap.get? e = some ({ cls := .ref C, dict := some dx, data := .fields #[.ref t1, .none, .none, .none, .bool false, .none] } : Obj)) →
      (∃ mA, s'.heap.Ns1 dx mA ∧ (∀ f u, (f, u) ∈ ps.zip us → mA f = some u) ∧ ∀ f, f ∉ ps → mA f = none) → s'.os = os → s'.gens = g → R (.ok (.ret .none)) s') :
    codeAny (model prog w) A (.call (.ref fI) ⟨.ref e :: us, []⟩) R ⟨hp, g, d, t, os⟩ := by
  obtain ⟨qual, params, body, scope, dV, kV, doc, pm, an, cda, ct, oc, cc, od, osl, ar, ccl, cdd, vs, ccs, file, tf, cl, cld, csl, lk, hcd, hinit, hhead, har, hcda, hvs, hfile, hcc, hks, hkc, hloc, hcell, hco, hgen, hkind, hbind, rfl⟩ := T.fn
  have hX : K.In hp := X.keeps kp
  have hlen : (Value.ref e :: us).length = (self :: ps).length := by simp [hl]
  have hnd : (((self :: ps).zip (Value.ref e :: us)).map (·.1)).Nodup := by
    rw [zip_keys hlen.symm]
    exact T.nd
  have hndr : ((((self :: ps).zip (Value.ref e :: us)).reverse).map (·.1)).Nodup := by
    rw [List.map_reverse]
    exact (List.reverse_perm _).nodup_iff.mpr hnd
  have hlocs : ∀ x ∈ self :: ps, locB scope x = true := fun x hx => List.all_eq_true.mp hloc x hx
  have hlo : ∀ x ∈ self :: ps, scope.names.lookup x = some .local := fun x hx => of_decide_eq_true (Bool.and_eq_true_iff.mp (show (_ && _) = true from hlocs x hx)).1
  refine ks_codeAny_call_defAt (body := body) (binds := (self :: ps).zip (Value.ref e :: us)) room (hX _ _ lk) rfl hlim (PySem.W.codeRec_of hX hcd) rfl (.of_eq (hbind .none kV doc pm an (.ref cda) ct _ hlen)) hcell (fun y hy => hlo y.1 (List.of_mem_zip hy).1) (fun h₁ hns hk₁ => ?_) hco hgen hkind
  have kp1 : ∀ b o, h.get? b = some o → h₁.get? b = some o := fun b o z => hk₁ b o (kp b o z)
  have hX1 : K.In h₁ := X.keeps kp1
  have heL : hp.objs.size ≠ e := Nat.ne_of_gt (Heap.lt_size he)
  have I0 : InitSt h hp.objs.size e C (fun x => ((self :: ps).zip (Value.ref e :: us)).reverse.lookup x) none h₁ := ⟨kp1, hns, nh, heL, ⟨t0, hk₁ _ _ he⟩⟩
  have mself : (fun x => ((self :: ps).zip (Value.ref e :: us)).reverse.lookup x) self = some (.ref e) := look_nd hndr (List.mem_reverse.mpr (by simp))
  have mval : ∀ f u, (f, u) ∈ ps.zip us → ((self :: ps).zip (Value.ref e :: us)).reverse.lookup f = some u := fun f u hm => look_nd hndr (List.mem_reverse.mpr (by rw [List.zip_cons_cons]; exact List.mem_cons_of_mem _ hm))
  let val : Str → Value := fun f => (((self :: ps).zip (Value.ref e :: us)).reverse.lookup f).getD .none
  have vat : ∀ f u, (f, u) ∈ ps.zip us → val f = u := fun f u hm => by
    show (List.lookup f _).getD .none = u
    rw [mval f u hm]
    rfl
  have vals : ∀ f ∈ ps, (fun x => ((self :: ps).zip (Value.ref e :: us)).reverse.lookup x) f = some (val f) := fun f hf => by
    obtain ⟨i, hi, e1⟩ := List.mem_iff_getElem.mp hf
    have hm : (f, us[i]'(by omega)) ∈ ps.zip us := by
      rw [← e1]
      exact List.mem_iff_getElem.mpr ⟨i, by rw [List.length_zip]; omega, by simp⟩
    rw [vat f _ hm]
    exact mval f _ hm
  cases body with
  | nil => cases hinit
  | cons st rest =>
    unfold initB at hinit
    split at hinit
    · rename_i s0 p0 p1 mm p2 args p3 p4 r heq
      injection heq with q1 q2
      subst q1 q2
      simp only [Bool.and_eq_true, decide_eq_true_eq] at hinit
      obtain ⟨⟨⟨⟨⟨rfl, rfl⟩, hargs⟩, hasg⟩, hline⟩, hfew⟩ := hinit
      have henv : callEnv (PySem.W.ksFn "__init__" qual params (.Expr (.Call (.Attribute (.Call (.Name "super" p0) [] [] p1) "__init__" p2) args [] p3) p4 :: rest) scope .none kV doc pm an (.ref cda) ct cc) hp.objs.size fI = PySem.W.ksEnv qual scope hp.objs.size fI (.ref cda) cc := rfl
      show PySem.wpAt _ _ _ _ _ _ _
      rw [show ({ heap := hp, gens := g, drawn := d, toks := t, os := os } : Shared).heap.objs.size = hp.objs.size from rfl, henv]
      generalize hE : PySem.W.ksEnv qual scope hp.objs.size fI (.ref cda) cc = env
      have hform : methodCallForm (args.length + ([] : List Keyword).length) (backTo p3 (starEach args env)) (backToKw p3 (keywordEach [] env)) = true := by
        unfold methodCallForm
        rw [(names_form hargs).1]
        have hf := Nat.le_of_ble_eq_true hfew
        simp [backToKw, keywordEach]
        omega
      have hev : eval (.Call (.Attribute (.Call (.Name "super" p0) [] [] p1) "__init__" p2) args [] p3) env = (do
          let ov ← attributeBase (.Call (.Name "super" p0) [] [] p1) "__init__" env (eval (.Call (.Name "super" p0) [] [] p1) env)
          standAt p2.atName
          let (f, first) ← holding [ov] (getMethod ov "__init__" (plainOf (.Call (.Name "super" p0) [] [] p1) env))
          callWith p3 f first (backTo p3 (starEach args env)) []) := by
        rw [arm_eval_Call]
        simp only [mcall_line hform hline]
        rfl
      obtain ⟨nm, q, N, bs, bm, sn, sub, ab, col, dd, k0, k1, k2, k3, k5, hC, hbm⟩ := T.ec.oex.cls
      have hcl : PySem.W.clsIn K C = some { name := nm, bases := bs, mro := .ref C :: bm, ns := N, qualname := q, hasDict := true, slotNames := sn, subclasses := sub, abstract := ab, collection := col, hasDel := false } := by
        unfold PySem.W.clsIn
        rw [hC]
      have hsup := T.sup
      unfold PySem.W.ks_superIn at hsup
      rw [hcl] at hsup
      refine ks_wpAt_execs_cons (ks_wpAt_Expr_any (ks_wpAt_MethodCall ?_ hev) (by rw [← hE]; unfold interactive; simp [hkind]) (by rw [← hE]; rfl))
      have kpE : ∀ (hq : Heap), (∀ b o, h₁.get? b = some o → hq.get? b = some o) → ∀ b o, h.get? b = some o → hq.get? b = some o := fun hq z b o y => z b o (kp1 b o y)
      rw [← hE]
      refine ks_wpAt_super_base hks hkc (by decide) rfl (hX1 _ _ lk) rfl hhead rfl (hX1 _ _ hcda) rfl hvs hfile T.top ?_
      refine PySem.W.ks_loadName_global hkind hks (Calls.loadGlobal_builtin (hg.keeps kp1) hms (hb.keeps kp1) hbs ⟨rfl, ?_⟩)
      refine wpAny_loadName_free hkind hkc rfl ⟨_, hX1 _ _ hcc, rfl⟩ ?_
      rw [har]
      refine wpAny_loadName_local hkind (hlo self (List.mem_cons_self ..)) hns mself ?_
      have hC1 := hX1 _ _ hC
      have he1 := hk₁ _ _ he
      refine ks_wpAny_isType_cls hC1 rfl ⟨rfl, ?_⟩
      refine ks_wpAny_call_super hC1 rfl he1 rfl (fun c z => by cases z) (PySem.W.looks_mroIn hX1 T.self_) (fun h2 hso k2 => ?_)
      have hX2 : K.In h2 := hX1.keeps k2
      have he2 := k2 _ _ he1
      have LT : PySem.W.Looks (model prog w) h2 (typeOf (.ref e)) (.ref C) := fun A Q E s k q => wpAny_typeOf_ref (k _ _ he2) q
      have heC : e ≠ C := fun z => by
        rw [z] at nh
        rw [X _ _ hC] at nh
        cases nh
      refine PySem.W.kxs_getMethod PySem.W.kxs_ValueError hso (PySem.W.looks_opaque hX2 T.opq) (l₀ := .ref C :: bm) ?_ rfl hX2 hsup (LT.andThen (PySem.W.looks_subIn hX2 T.subV)) heC (by decide) ?_
      · exact fun A Q E s k q => wpAny_bind ((PySem.W.looks_clsIn hX2 hcl) A _ E s k (wpAny_pure q))
      have hmw : (h2.push (PySem.W.kxs_mw "ValueError.__init__" e)).get? h2.objs.size = some (PySem.W.kxs_mw "ValueError.__init__" e) := Heap.get?_push_at rfl rfl
      have k3 : ∀ b o, h₁.get? b = some o → (h2.push (PySem.W.kxs_mw "ValueError.__init__" e)).get? b = some o := fun b o z => Heap.get?_push_of_some _ (k2 b o z)
      have hns3 : (h2.push (PySem.W.kxs_mw "ValueError.__init__" e)).Ns hp.objs.size (fun x => ((self :: ps).zip (Value.ref e :: us)).reverse.lookup x) := hns.keeps k3
      have hz : (ps.map val).length ≤ sizeLine := by
        rw [List.length_map]
        exact Nat.le_trans T.few (by decide)
      have hend : ∀ h4 t2 tk, (∀ b o, b ≠ e → (h2.push (PySem.W.kxs_mw "ValueError.__init__" e)).get? b = some o → h4.get? b = some o) → h4.get? e = some ({ cls := .ref C, dict := none, data := .fields #[.ref t2, .none, .none, .none, .bool false, .none] } : Obj) →
          PySem.wpAt (model prog w) (A.deeper (PySem.W.ksEnv qual scope hp.objs.size fI (.ref cda) cc)) (.func (.Expr (.Call (.Attribute (.Call (.Name "super" p0) [] [] p1) "__init__" p2) args [] p3) p4 :: rest) (PySem.W.ksEnv qual scope hp.objs.size fI (.ref cda) cc)) (execs rest (PySem.W.ksEnv qual scope hp.objs.size fI (.ref cda) cc))
            (fun f s' => R (.ok (.ret (match f with | .ret v => v | _ => .none))) s') (fun e' s' => wpAny (model prog w) (A.deeper (PySem.W.ksEnv qual scope hp.objs.size fI (.ref cda) cc)) (leaving (PySem.W.ksEnv qual scope hp.objs.size fI (.ref cda) cc) e') (fun _ s'' => R (.error e') s'') (fun e'' s'' => R (.error e'') s'') s')
            ⟨h4, g, d, tk, os⟩ := fun h4 t2 tk k4 he4 => by
        refine wpAt_of_wpAny (asg_run (self := self) (ps := ps) T.ec X hkind rfl (hlocs self (List.mem_cons_self ..)) mself val os g rest ps [] none ⟨h4, g, d, tk, os⟩ _ hasg (fun f hf => ⟨hf, hlocs f (List.mem_cons_of_mem _ hf), vals f hf⟩) ⟨fun b o z => k4 b o (fun y => by rw [y, nh] at z; cases z) (k3 b o (kp1 b o z)), ?_, nh, heL, ⟨t2, he4⟩⟩ ⟨rfl, ?_⟩ (by simpa using Nat.le_trans T.few (by decide)) rfl rfl fun s' d' I' D' o1 o2 => ?_)
        · obtain ⟨oL, es, ep, z1, z2⟩ := hns3
          exact ⟨oL, es, ep, k4 _ _ heL z1, z2⟩
        · obtain ⟨oL, es, ep, z1, z2⟩ := hns3
          exact Nat.le_trans hsz (Nat.le_of_lt (Heap.lt_size (k4 _ _ heL z1)))
        · cases d' with
          | none =>
            obtain ⟨z, _⟩ := D'
            exfalso
            refine T.ne ?_
            have := congrArg List.length z
            simpa using this
          | some dx =>
            obtain ⟨d1, d2, d3, d4, d5, d6⟩ := D'
            rw [List.append_nil] at d6
            have kn : ((ps.map fun f => (f, val f)).reverse.map (·.1)).Nodup := by
              rw [List.map_reverse, List.map_map]
              refine (List.reverse_perm _).nodup_iff.mpr ?_
              rw [show ((fun x : Str × Value => x.1) ∘ fun f => (f, val f)) = id from rfl, List.map_id]
              exact (List.nodup_cons.mp T.nd).2
            refine k s' dx I'.kp d1 d2 d4 I'.ex ⟨_, d6, fun f u hm => ?_, fun f hf => look_out fun z => hf ?_⟩ o1 o2
            · refine look_nd kn (List.mem_reverse.mpr (List.mem_map.mpr ⟨f, (List.of_mem_zip hm).1, ?_⟩))
              rw [vat f u hm]
            · rw [List.map_reverse, List.map_map, List.mem_reverse] at z
              obtain ⟨y, hy, ey⟩ := List.mem_map.mp z
              rw [← ey]
              exact hy
      have hargs0 : args ≠ [] := fun z => by
        rw [z] at hargs
        unfold argNames at hargs
        exact T.ne (Option.some.inj hargs).symm
      refine PySem.W.kxs_callWith (i := "ValueError.__init__") (x := e) (names_form hargs).2 ?_
      cases args with
      | nil => exact absurd rfl hargs0
      | cons a0 ar0 =>
        have ha0 : starEach (a0 :: ar0) (PySem.W.ksEnv qual scope hp.objs.size fI (.ref cda) cc) = (false, eval a0 (PySem.W.ksEnv qual scope hp.objs.size fI (.ref cda) cc)) :: starEach ar0 (PySem.W.ksEnv qual scope hp.objs.size fI (.ref cda) cc) := by
          unfold argNames at hargs
          split at hargs
          · rename_i heq
            cases heq
          · rename_i x p r heq
            injection heq with q1 q2
            rw [q1]
            rfl
          · cases hargs
        rw [ha0]
        show wpAny _ _ (evalArgs _ true ((false, eval a0 (PySem.W.ksEnv qual scope hp.objs.size fI (.ref cda) cc)) :: backTo p3 (starEach ar0 (PySem.W.ksEnv qual scope hp.objs.size fI (.ref cda) cc))) []) _ _ _
        refine Calls.evalArgs_plain ?_
        show wpAny _ _ (spliced (backTo p3 ((false, eval a0 (PySem.W.ksEnv qual scope hp.objs.size fI (.ref cda) cc)) :: starEach ar0 (PySem.W.ksEnv qual scope hp.objs.size fI (.ref cda) cc)))) _ _ _
        rw [← ha0]
        refine args_run (L := hp.objs.size) hkind rfl val hns3 (a0 :: ar0) ps _ hargs (fun f hf => ⟨hlocs f (List.mem_cons_of_mem _ hf), vals f hf⟩) ⟨hmw, ?_⟩
        exact call_mw (t1 := t0) T.ec.oex (hX1.keeps k3) (Heap.get?_push_of_some _ he2) hmw hz fun h4 t2 k4 he4 => hend h4 t2 _ k4 he4
    · cases hinit
end
end T5

set_option Elab.async false
set_option linter.all false
set_option maxRecDepth 100000
set_option maxHeartbeats 2000000
/-! T5: C(e, ..) in a raise. -/
namespace T5
open PySem PySem.Spec PyProof.Rows L2
def tMkE (C : Addr) (fl : List Str) (ta : TA) : L2.St → Hp → XK → Prop := fun σ H Q => ta σ H fun vs H1 => vs.length = fl.length ∧ ∀ d, H1 d = none → Q (.ref C) (some d) (upd H1 d (.xd (fl.zip vs)))
section
variable {X : Cx} {e : Expr} {es : List Expr} {ta : TA} {x self : Str} {C fI : Addr} {ps : List Str} {p pos : Pos}
theorem pmk_err (T : ErrI X.prog X.K C fI self ps) (hr : Room 2 X.A) (hg : Gl X x) (hm : X.mg x = some (.ref C)) (hsu : X.mg "super" = none) (ha : PA X (e :: es) ta)
    (hdb : (x == ("__debug__" : Str)) = false) (he : starEach (e :: es) X.env = (false, eval e X.env) :: starEach es X.env) (hpl : (backTo pos (starEach es X.env)).any (·.1) = false) :
    PMk X (.Call (.Name x p) (e :: es) [] pos) (tMkE C ps ta) := by
  intro pins s σ H Q I h
  have Te := T.ec.oex
  obtain ⟨nm, q, N, bs, bm, sn, sub, ab, col, dd, k0, k1, k2, k3, k5, hC, hbm⟩ := Te.cls
  refine wpAny_Call_Name_kw (ld_glob I hg hm ?_ hdb)
  refine PySem.W.callWith_K (h₀ := X.base) I.ok.mod.kin Te.kC (thn (ha.run pos pins s σ H _ I h) fun us s1 ⟨vs, H1, I1, r1, hz, q1⟩ => ⟨I1.kIn, ?_⟩) he hpl
  show wpAny _ _ (call (.ref C) us) _ _ _
  obtain ⟨mb, nb, hbb⟩ := I1.ok.mod.blt
  have bk := I1.bk
  have gl := I1.ok.mod.glob
  have lim0 := I1.ok.mod.nolimit
  have kin1 := I1.kIn
  obtain ⟨hp, g, dr, tk, os⟩ := s1
  have hsz : hp.objs.size ≤ hp.objs.size + 1 := Nat.le_succ _
  have hn : H1 (hp.objs.size + 1) = none := I1.hok.fresh hsz
  have lu : us.length = ps.length := by rw [← Paired.length r1, hz]
  have hus : us.length ≤ sizeLine := by
    rw [lu]
    exact Nat.le_trans T.few (by decide)
  have kk : ∀ b o, hp.get? b = some o → ((hp.push (PySem.W.kdv_tup us)).push (PySem.HandSPX.excO C hp.objs.size)).get? b = some o := fun b o e => Heap.get?_push_of_some _ (Heap.get?_push_of_some _ e)
  have hget : ((hp.push (PySem.W.kdv_tup us)).push (PySem.HandSPX.excO C hp.objs.size)).get? (hp.objs.size + 1) = some (PySem.HandSPX.excO C hp.objs.size) := by heap_get
  have nhe : hp.get? (hp.objs.size + 1) = none := by
    cases z : hp.get? (hp.objs.size + 1) with
    | none => rfl
    | some o => exact absurd (Nat.lt_trans (Nat.lt_succ_self _) (Heap.lt_size z)) (Nat.lt_irrefl _)
  refine wpAny_call (PySem.HandSPX.call_own F.excBase_ValueError (fun Y => PySem.HandSPX.refsVE_contains Y bm hbm) (kin1 _ _ hC) (PySem.W.looks_findIn kin1 T.iC) (fun self => PySem.W.bind_fn kin1 self T.tI) hus ?_)
  refine init_call (h := hp) (e := hp.objs.size + 1) T kin1 kk nhe (Nat.le_trans (Nat.le_succ _) (Nat.le_of_lt (Heap.lt_size hget))) (t0 := hp.objs.size) hget (gl.keeps bk) hsu (nb.keeps bk) ((hbb _ (by decide)).trans (by decide +kernel)) ((lim0.keeps bk).keeps kk) (hr.make C us []).depth lu ?_
  intro s' dx h1 h2 h3 h4 ⟨t1, h5⟩ ⟨mA, n1, n2, n3⟩ h6 h7
  refine ⟨rfl, ?_⟩
  obtain ⟨G, g1, g2⟩ := restrict s'.heap fun b => decide (b ≠ hp.objs.size + 1)
  have gk : ∀ b, b ≠ hp.objs.size + 1 → G.get? b = s'.heap.get? b := fun b hb => g1 b (decide_eq_true hb)
  have ge : G.get? (hp.objs.size + 1) = none := g2 _ (by simp)
  have hd1 : H1 dx = none := I1.hok.fresh h2
  have nd : (ps.zip us).map (·.1) = ps := zip_keys lu.symm
  have J : L2.Inv X pins σ (upd H1 dx (.xd (ps.zip vs))) ⟨G, g, dr, tk, os⟩ := by
    refine I1.laid (t' := tk) (a := dx) (o := .xd (ps.zip vs)) (h' := G) (fun b o z => ?_) h2 ?_
    · rw [gk b (fun y => by rw [y] at z; rw [show hp.get? (hp.objs.size + 1) = none from nhe] at z; cases z)]
      exact h1 b o z
    · refine ⟨mA, n1.at fun o z => (gk dx h3).trans z, fun f => ?_⟩
      by_cases hf : f ∈ ps
      · obtain ⟨i, hi, e1⟩ := List.mem_iff_getElem.mp hf
        have hiu : i < us.length := by omega
        have hiv : i < vs.length := by omega
        have m1 : (f, us[i]) ∈ ps.zip us := by
          rw [← e1]
          exact List.mem_iff_getElem.mpr ⟨i, by rw [List.length_zip]; omega, by simp⟩
        have m2 : (f, vs[i]) ∈ ps.zip vs := by
          rw [← e1]
          exact List.mem_iff_getElem.mpr ⟨i, by rw [List.length_zip]; omega, by simp⟩
        rw [n2 f _ m1, look_nd (by rw [zip_keys (by omega)]; exact (List.nodup_cons.mp T.nd).2) m2]
        obtain ⟨u, z1, z2⟩ := Vals.get r1 (List.getElem?_eq_getElem hiv)
        rw [List.getElem?_eq_getElem hiu] at z1
        cases z1
        exact z2
      · rw [n3 f hf, look_out (by rw [zip_keys (by omega)]; exact hf)]
        trivial
  refine ⟨hp.objs.size + 1, _, _, ⟨G, g, dr, tk, os⟩, _, .ref C, some dx, rfl, J, fun b o z => ?_, ge, h5, ⟨rfl, rfl⟩, rfl, rfl, ?_, h6, ?_, raises_own Te.exC Te.tyC, q1 dx hd1⟩
  · by_cases hb : b = hp.objs.size + 1
    · rw [hb, ge] at z
      cases z
    · exact (gk b hb).symm.trans z
  · rw [upd_ne (Ne.symm h3)]
    exact hn
  · rw [h7]
    exact I1.bare
end
end T5

set_option Elab.async false
set_option linter.all false
set_option maxRecDepth 100000
set_option maxHeartbeats 2000000
/-! T5: raise; try; what a suite asks of its exception. -/
namespace T5
open PySem PySem.Spec PyProof.Rows L2
open Evl (Ex)

section
variable {X : Cx} {T : Tb} {W : WX} {cl : Calls} {c : Nat} {e : Expr} {es : List Expr} {ces : CEs} {x self : Str} {fI : Addr} {ps : List Str} {p pos pos' : Pos}
/-- raise C(e, ..) -/
theorem gst_rais (hc : X.calm = true) (tk : Takes X W) (hE : ErrI X.prog X.K (T.cl c) fI self ps) (hfl : T.fl c = ps) (hlt : c < T.nE) (hr : Room 2 X.A) (hg : Gl X x) (hm : X.mg x = some (.ref (T.cl c))) (hsu : X.mg "super" = none) (ha : PA X (e :: es) (tL X.K T W cl ces))
    (hlen : ∀ env st ds st', evEs cl ces env st = .ok ds st' → ds.length = ps.length)
    (hdb : (x == ("__debug__" : Str)) = false) (he : starEach (e :: es) X.env = (false, eval e X.env) :: starEach es X.env) (hpl : (backTo pos (starEach es X.env)).any (·.1) = false) :
    PS X (.Raise (some (.Call (.Name x p) (e :: es) [] pos)) none pos') (tSt X.K T W cl (.rais c ces)) :=
  imp_s (ps_raise hc tk (pmk_err hE hr hg hm hsu ha hdb he hpl)) fun D σ H ⟨env, s, r, G, g, ee, h⟩ => by
    simp only [evS] at h
    refine rdgS_bind g ee h fun ds vs r1 G1 H1 s1 ex l1 g1 e1 hds h1 => ?_
    have hvl : vs.length = ps.length := by rw [hds.length]; exact hlen _ _ _ _ ex
    refine ⟨hvl, fun d hd => ?_⟩
    have hx := ex_upd (G := G1) (o := .xd (ps.zip vs)) (g1.g_none hd)
    refine h1 _ _ σ r1 (upd G1 d (.xd (ps.zip vs))) _ (le_new g1 hd _) (g1.new hd _ fun _ z => by cases z) (e1.le (le_new g1 hd (.xd (ps.zip vs)))) ⟨⟨hlt, rfl⟩, d, ps.zip vs, vs, rfl, upd_same, hds.mono .refl hx, by rw [hfl]; exact hvl, fun i f v k1 k2 => ?_⟩
    rw [hfl] at k1
    refine look_nd (by rw [zip_keys hvl.symm]; exact (List.nodup_cons.mp hE.nd).2) (List.mem_of_getElem? (i := i) ?_)
    rw [List.getElem?_zip_eq_some]
    exact ⟨k1, k2⟩
end

/-! ### another table -/
/-- T with pin k at v, the floor at r, G -/
def Tb.at (T : Tb) (k : Nat) (v : V) (r : List Addr) (G : Hp) : Tb := { T with pinv := fun j => if Nat.beq j k then some v else T.pinv j, r0 := r, g0 := G }
section
variable {K : PySem.W.Frag} {T : Tb} {r : List Addr} {G H : Hp} {s : Sto} {k : Nat} {v : V} {σ : L2.St} {env : T5.Env}
theorem at_fn {r' : List Addr} {G' : Hp} : T.fn = (T.at k v r' G').fn := rfl
theorem at_fn' {r' : List Addr} {G' : Hp} : (T.at k v r' G').fn = T.fn := rfl
theorem at_more (h : T.pinv k = none) {r' : List Addr} {G' : Hp} : ∀ j u, T.pinv j = some u → (T.at k v r' G').pinv j = some u := fun j u e => by
  show (if Nat.beq j k then some v else T.pinv j) = some u
  by_cases hj : Nat.beq j k = true
  · rw [Nat.eq_of_beq_eq_true hj, h] at e
    cases e
  · rw [if_neg hj]
    exact e
theorem at_less {r' : List Addr} {G' : Hp} : ∀ j u, j ≠ k → (T.at k v r' G').pinv j = some u → T.pinv j = some u := fun j u hj e => by
  have e : (if Nat.beq j k then some v else T.pinv j) = some u := e
  rw [if_neg fun z => hj (Nat.eq_of_beq_eq_true z)] at e
  exact e
/-- into the new table -/
theorem Gd.into (g : Gd K T r G H s) (h : T.pinv k = none) : Gd K (T.at k v r G) r G H s :=
  ⟨g.sub, g.off, g.len, g.nd, fun n a so h1 h2 => (g.obj n a so h1 h2).ext at_fn (at_more h), .refl, fun _ _ z => z, g.tbs, g.ngt⟩
theorem EnvR.into (e : EnvR K T r G σ env) (h : T.pinv k = none) {r' : List Addr} {G' : Hp} : EnvR K (T.at k v r' G') r G σ env := ⟨e.1, fun i d z => by
  obtain ⟨u, e1, e2⟩ := e.2 i d z
  exact ⟨u, e1, e2.ext at_fn (at_more h)⟩⟩
theorem pfS_at {k : Nat} : ∀ {l : List SO} {m : Nat} {o : SO}, pfS k l = true → l[m]? = some o → pfO k o = true
  | [], _, _, _, h => by simp at h
  | x :: l, 0, o, c, h => by
    simp at h
    subst h
    exact (Bool.and_eq_true_iff.mp (show (_ && _) = true from c)).1
  | x :: l, m + 1, o, c, h => pfS_at (l := l) (m := m) (Bool.and_eq_true_iff.mp (show (_ && _) = true from c)).2 (by simpa using h)
theorem pfE_at {k : Nat} : ∀ {l : T5.Env} {m : Nat} {d : D}, pfE k l = true → l[m]? = some (some d) → pf k d = true
  | [], _, _, _, h => by simp at h
  | none :: l, 0, d, c, h => by simp at h
  | some x :: l, 0, d, c, h => by
    simp at h
    subst h
    exact (Bool.and_eq_true_iff.mp (show (_ && _) = true from c)).1
  | none :: l, m + 1, d, c, h => pfE_at (l := l) (m := m) c (by simpa using h)
  | some x :: l, m + 1, d, c, h => pfE_at (l := l) (m := m) (Bool.and_eq_true_iff.mp (show (_ && _) = true from c)).2 (by simpa using h)
/-- back to the old one: nothing pinned is left -/
theorem Gd.back {r0 : List Addr} {G0 : Hp} (g : Gd K (T.at k v r0 G0) r G H s) (hp : pfS k s = true) (f1 : Pre T.r0 r) (f2 : Ex T.g0 G) : Gd K T r G H s :=
  ⟨g.sub, g.off, g.len, g.nd, fun n a so h1 h2 => (g.obj n a so h1 h2).unp at_fn' at_less (pfS_at hp h2), f1, f2, g.tbs, g.ngt⟩
theorem EnvR.back {r0 : List Addr} {G0 : Hp} (e : EnvR K (T.at k v r0 G0) r G σ env) (hp : pfE k env = true) : EnvR K T r G σ env := ⟨e.1, fun i d z => by
  obtain ⟨u, e1, e2⟩ := e.2 i d z
  exact ⟨u, e1, e2.unp at_fn' at_less (pfE_at hp z)⟩⟩
theorem Rp.back {r0 : List Addr} {G0 : Hp} {d : D} {u : V} (e : Rp K (T.at k v r0 G0) r G d u) (hp : pf k d = true) : Rp K T r G d u := e.unp at_fn' at_less hp
end
end T5

set_option Elab.async false
set_option linter.all false
set_option maxRecDepth 100000
set_option maxHeartbeats 4000000
/-! T5: isinstance(e, C), e.f in a suite, e an error with a dict. -/
namespace T5
open PySem PySem.Spec PySem.W PySem.Calls PyProof.Rows
section
variable {prog : Program} {w : World} {A : Around} {E : Value → Shared → Prop} {s : Shared} {K : Frag} {x D : Addr} {ox : Obj} {od : Option Obj}
theorem find_data {C : Addr} {name : Str} {a g : Value} (hc : (clsIn K C).isSome = true) (ha : findIn K (.ref C) name = some (some a)) (hg : specialIn K a "__get__" = some (some g)) (ht : takesIn K a = some true) : findObj K C od name = some (.bind g a) := by
  cases q : clsIn K C with
  | none => rw [q] at hc; cases hc
  | some cd =>
    unfold findObj
    rw [q, Option.bind_some, ha, Option.bind_some]
    simp [hg, ht]
/-- x.__class__ of an exception, its dict or none -/
theorem cls_exc {Q : Option Value → Shared → Prop} (c : L2.ExcC K D) (X : K.In s.heap) (I : InstAt s.heap x ox D od) (h : Q (some (.ref D)) { s with toks := s.toks + 1 }) : wpAny (model prog w) A (getAttr? (.ref x) "__class__") Q E s := by
  have hf : findObj K D od "__class__" = some (.bind (.builtin "getset_descriptor.__get__") (.builtin "object.__class__")) := find_data (by obtain ⟨cd, hc, _⟩ := any_some c.hd; rw [hc]; rfl) c.ha c.hn c.ht
  obtain ⟨hp, g, d, t, os⟩ := s
  have L0 := I.type (M := model prog w)
  have L1 := looks_findIn (M := model prog w) X c.hg
  have L2 := looks_findIn (M := model prog w) X c.hk
  have L3 := looks_find (M := model prog w) X I hf
  have sub : Looks (model prog w) hp (isInstance (.ref x) (.type "BaseException")) true := L0.andThen (looks_subIn X c.hs)
  have z0 : (false && onTheHeap (Value.builtin "BaseException.__getattribute__")) = false := rfl
  have z2 : (Value.builtin "BaseException.__getattribute__" == Value.builtin "object.__getattribute__") = false := by decide +kernel
  have z1 : (onTheHeap (Value.ref D) && Value.builtin "BaseException.__getattribute__" == Value.builtin "object.__getattribute__") = false := by rw [z2]; rfl
  unfold getAttr? getAttrBy? getAttrBy
  refine wpAny_bind (wpAny_mkText (wpAny_bind (wpAny_attempt (wpAny_holding (wpAny_bind (L0.at (wpAny_bind (L1.at (?_ : wpAny _ _ (if (onTheHeap (Value.ref D) && Value.builtin "BaseException.__getattribute__" == Value.builtin "object.__getattribute__") = true then _ else _) _ _ _)))))))))
  rw [z1, if_neg Bool.false_ne_true]
  unfold getAttrByItsOwn hookBefore
  refine wpAny_bind (?_ : wpAny _ _ _ _ _ _)
  rw [if_pos (show onTheHeap (Value.ref D) = true from rfl)]
  refine L2.at (wpAny_bind (wpAny_attempt (wpAny_holding ?_)))
  unfold callGetattribute
  rw [z0, if_neg Bool.false_ne_true]
  unfold boundAndCalled
  rw [PySem.F.excAttr_ValueError.ga.bind (.ref x)]
  refine wpAny_bind (wpAny_pure (?_ : wpAny _ _ (call (.builtin "BaseException.__getattribute__") [.ref x, .str "__class__" t]) _ _ _))
  refine wpAny_call (codeAny_call_builtin PySem.F.excAttr_ValueError.ga.plain PySem.F.entry_bexc_ga (@check_slot (model prog w) _ _ ⟨hp, g, d, t + 1, os⟩ "BaseException.__getattribute__" "BaseException" "__getattribute__" (.ref x) [.str "__class__" t] [] _ (by decide +kernel) (by decide +kernel) sub (PySem.F.args_bexc_ga (.ref x) (.str "__class__" t)) ?_))
  unfold Builtin.«object.__getattribute__»
  refine wpAny_bind (wpAny_of_eq (a := ((Value.ref x : Value), [Value.str "__class__" t])) (by first | rfl | (simp only [slotArgs]; rfl)) (wpAny_bind (wpAny_pure (wpAny_bind (L0.at (wpAny_bind (L3.at ?_)))))))
  show wpAny _ _ (holding [Value.builtin "object.__class__"] (call (.builtin "getset_descriptor.__get__") [.builtin "object.__class__", .ref x, .ref D]) >>= ret) _ _ _
  refine wpAny_bind (wpAny_holding (wpAny_call (class_get (s := ⟨hp, g, d, t + 1, os⟩) (ox := ox) (od := od) X I c.hm (wpAny_pure (?_ : wpAny _ _ (handedOut (.ref D)) _ _ _)))))
  rw [handedOut_of (v := .ref D) rfl]
  first
    | exact wpAny_pure (wpAny_pure h)
    | exact wpAny_pure h
    | exact wpAny_pure (wpAny_bind (wpAny_pure (wpAny_pure h)))
theorem kitx_errD (c : L2.ExcC K D) : KitX K (.ref x) (.ref D) (fun h => InstAt h x ox D od) := by
  obtain ⟨cd, hc, _⟩ := any_some c.hd
  obtain ⟨o, ho⟩ : ∃ o : Obj, K.lookup D = some o ∧ o.data = .cls cd := by
    unfold clsIn at hc
    split at hc
    · rename_i c1 d1 cd1 sl1 q
      cases hc
      exact ⟨_, q, rfl⟩
    · cases hc
  refine ⟨fun _ _ _ I => I.type, fun _ _ X _ A' Q' E' s' k q => ?_, fun h tp dd its n sl X htp => Bool.eq_false_iff.mpr fun q => ?_, fun X I k => cls_exc c X I k⟩
  · unfold isType loadHead
    refine wpAny_bind (wpAny_loadPart (k _ _ (X _ _ ho.1)) ?_)
    rw [ho.2]
    exact wpAny_pure q
  · have e : D = tp := Value.ref.inj (beq_iff_eq.mp q)
    subst e
    have z := X _ _ ho.1
    rw [htp] at z
    cases z
    cases ho.2
end
end T5

set_option Elab.async false
set_option linter.all false
set_option maxRecDepth 100000
set_option maxHeartbeats 1000000
/-! T5: side conditions of the rules by the syntax; the last forms. -/
namespace T5
open PySem PySem.Spec L2
open Evl (Ex)

def isStar : Expr → Bool
  | .Starred .. => true
  | _ => false
theorem star_no {e : Expr} {es : List Expr} {env : PySem.Env} (h : isStar e = false) : starEach (e :: es) env = (false, eval e env) :: starEach es env := by
  cases e <;> first | rfl | cases h
def isSl : Expr → Bool
  | .Slice .. => true
  | _ => false
theorem plain_ix {b : Expr} (h : isSl b = false) : PlainIx b := by
  intro o i
  cases b <;> first | rfl | cases h
/-- a test that is read by its value -/
def plainT : Expr → Bool
  | .UnaryOp .Not _ _ => false
  | .BoolOp .. => false
  | .IfExp .. => false
  | .Compare .. => false
  | _ => true
theorem plain_t {e : Expr} {env : PySem.Env} (h : plainT e = true) : ∀ whole, isTrue e env whole = (do let v ← whole; standAt e.pos; holding [v] (truthy v)) := by
  intro whole
  cases e with
  | UnaryOp op a p => cases op <;> first | rfl | cases h
  | BoolOp _ _ _ => cases h
  | IfExp _ _ _ _ => cases h
  | Compare _ _ _ _ => cases h
  | _ => rfl
def isSet : Expr → Bool
  | .Set .. => true
  | _ => false
theorem folded_no {e : Expr} {env : PySem.Env} (h : isSet e = false) : ∀ x, foldedSetIterable e env x = pure x := by
  intro x
  cases e <;> first | rfl | cases h
theorem marks_no {op : CmpOp} {b : Expr} (h : isSet b = false) : behindInMarks op b = false := by
  cases b <;> first | rfl | cases h
/-- no star among them -/
def noStars : List Expr → Bool
  | [] => true
  | e :: es => !isStar e && noStars es
theorem star_any {pos : Pos} {env : PySem.Env} : ∀ {es : List Expr}, noStars es = true → (backTo pos (starEach es env)).any (·.1) = false
  | [], _ => rfl
  | e :: es, h => by
    have h' := Bool.and_eq_true_iff.mp (show (!isStar e && noStars es) = true from h)
    have h1 : isStar e = false := by simpa using h'.1
    rw [star_no h1]
    show (false || _) = false
    rw [Bool.false_or]
    exact star_any h'.2
/-- all keywords are named -/
def kwNames : List Keyword → Option (List Str)
  | [] => some []
  | ⟨some n, _, _⟩ :: r => (kwNames r).map (n :: ·)
  | _ => none
theorem kw_ok {pos : Pos} {env : PySem.Env} : ∀ {kws : List Keyword} {ks : List Str}, kwNames kws = some ks → (backToKw pos (keywordEach kws env)).all (·.1.isSome) = true ∧ (backToKw pos (keywordEach kws env)).filterMap (·.1) = ks ∧ (backToKw pos (keywordEach kws env)).any (·.1.isNone) = false ∧ kws.length = ks.length
  | [], ks, h => by
    cases h
    exact ⟨rfl, rfl, rfl, rfl⟩
  | ⟨none, e, p⟩ :: r, ks, h => by cases h
  | ⟨some n, e, p⟩ :: r, ks, h => by
    unfold kwNames at h
    cases hr : kwNames r with
    | none => rw [hr] at h; cases h
    | some t =>
      rw [hr] at h
      cases h
      obtain ⟨i1, i2, i3, i4⟩ := kw_ok (pos := pos) (env := env) hr
      refine ⟨?_, ?_, ?_, congrArg Nat.succ i4⟩
      · show (true && _) = true
        rw [Bool.true_and]
        exact i1
      · show n :: _ = n :: t
        rw [← i2]
        rfl
      · show (false || _) = false
        rw [Bool.false_or]
        exact i3

section
variable {X : Cx} {T : Tb} {W : WX} {cl : Calls} {a b c e : Expr} {ca cb cc : CE} {pos p p2 q : Pos}
theorem gt_ite (hc : PT X c (tQ X.K T W cl cc)) (ha : PT X a (tQ X.K T W cl ca)) (hb : PT X b (tQ X.K T W cl cb)) : PT X (.IfExp c a b pos) (tQ X.K T W cl (.ite cc ca cb)) := ⟨fun pins s σ H Q I h => by
  have hr : tQ X.K T W cl cc σ H (fun d H1 => if d = true then tQ X.K T W cl ca σ H1 Q else tQ X.K T W cl cb σ H1 Q) := by
    obtain ⟨env, st, r, G, g, e, h⟩ := h
    simp only [evE] at h
    refine rdg_bind g e h fun x v r1 G1 H1 s1 l1 g1 e1 hx h1 => ?_
    cases x <;> first | exact h1.elim | skip
    rename_i i
    cases rp_bl hx
    refine ⟨i, rfl, ?_⟩
    cases i with
    | true => exact ⟨env, s1, r1, G1, g1, e1, h1⟩
    | false => exact ⟨env, s1, r1, G1, g1, e1, h1⟩
  show wpAny _ _ (do if ← isTrue c X.env (eval c X.env) then isTrue a X.env (eval a X.env) else isTrue b X.env (eval b X.env)) _ _ _
  refine wpAny_bind (thn (hc.run pins s σ H _ I hr) fun d s1 ⟨H1, I1, q1⟩ => ?_)
  cases d with
  | true => exact ha.run pins s1 σ H1 Q I1 q1
  | false => exact hb.run pins s1 σ H1 Q I1 q1⟩
/-- list(range(a)), list(range(a, b)) -/
theorem rg_vals {K : PySem.W.Frag} {r : List Addr} {G : Hp} (lo : Int) (n : Nat) : RpL K T r G (rangeD lo n) ((List.range n).map fun i => V.int (lo + (i : Nat))) := by
  unfold rangeD
  generalize List.range n = l
  induction l with
  | nil => exact .nil
  | cons i l ih => exact .cons (of_int _) ih
theorem gf_lr1 (hc : X.calm = true) (hg : Gl X "list") (hm : X.mg "list" = none) (hg2 : Gl X "range") (hm2 : X.mg "range" = none) (ha : PE X a (tE X.K T W cl ca)) (hs : isStar a = false) :
    PE X (.Call (.Name "list" p) [.Call (.Name "range" p2) [a] [] q] [] pos) (tF X.K T W cl (.lr1 ca)) :=
  imp_e (pe_listRg hc hg hm (prg_1 hg2 hm2 ha (star_no hs))) fun σ H Q ⟨env, s, r, G, g, e, h⟩ => by
    simp only [evE] at h
    refine rdgF_bind g e h fun x v r1 G1 H1 s1 ex l1 g1 e1 hx h1 => ?_
    clear ex
    cases x <;> first | exact h1.elim | skip
    rename_i n
    cases rp_int hx
    simp only at h1
    split at h1
    · rename_i hcc
      have hc' := Bool.and_eq_true_iff.mp hcc
      have b1 : n ≤ 100000 := of_decide_eq_true hc'.1
      have b2 : -100000 ≤ n := of_decide_eq_true hc'.2
      refine ⟨n, rfl, ⟨by omega, by omega, by omega, by omega, by omega⟩, fun w hw => ?_⟩
      have he : rgV 0 n = (List.range n.toNat).map fun i => V.int (0 + (i : Nat)) := by
        unfold rgV
        rw [Int.sub_zero]
      rw [he]
      exact h1 w _ r1 G1 H1 Le.refl g1 (rg_vals 0 n.toNat) hw
    · exact h1.elim
theorem gf_lr2 (hc : X.calm = true) (hg : Gl X "list") (hm : X.mg "list" = none) (hg2 : Gl X "range") (hm2 : X.mg "range" = none) (ha : PE X a (tE X.K T W cl ca)) (hb : PE X b (tE X.K T W cl cb)) (hs : isStar a = false) (hs2 : isStar b = false) :
    PE X (.Call (.Name "list" p) [.Call (.Name "range" p2) [a, b] [] q] [] pos) (tF X.K T W cl (.lr2 ca cb)) :=
  imp_e (pe_listRg hc hg hm (prg_2 hg2 hm2 ha hb (star_no hs) (star_no hs2) (star_any (by simp [noStars, hs2])))) fun σ H Q ⟨env, s, r, G, g, e, h⟩ => by
    simp only [evE] at h
    refine rdgF_bind g e h fun x v r1 G1 H1 s1 ex l1 g1 e1 hx h1 => rdgF_bind g1 e1 h1 fun y u r2 G2 H2 s2 ey l2 g2 e2 hy h2 => ?_
    clear ex ey h1
    cases x <;> first | exact h2.elim | skip
    cases y <;> first | exact h2.elim | skip
    rename_i i j
    cases rp_int hx
    cases rp_int hy
    simp only at h2
    split at h2
    · rename_i hcc
      simp only [Bool.and_eq_true, decide_eq_true_eq] at hcc
      obtain ⟨⟨b1, b2⟩, b3, b4⟩ := hcc
      exact ⟨i, j, rfl, rfl, ⟨by omega, by omega, by omega, by omega, by omega⟩, fun w hw => h2 w _ r2 G2 H2 Le.refl g2 (rg_vals i _) hw⟩
    · exact h2.elim
/-- len(set(x)) -/
theorem ge_lenset (hc : X.calm = true) (hg : Gl X "len") (hm : X.mg "len" = none) (hg2 : Gl X "set") (hm2 : X.mg "set" = none) (ha : PE X a (tE X.K T W cl ca)) (hs : isStar a = false) :
    PE X (.Call (.Name "len" p) [.Call (.Name "set" p2) [a] [] q] [] pos) (tE X.K T W cl (.bi .lenset (.cons ca .nil))) :=
  imp_e (pe_lenSetA hg hm hg2 hm2 ha hc (star_no hs)) fun σ H Q ⟨env, s, r, G, g, e, h⟩ => by
    simp only [evE, evEs] at h
    refine ⟨env, s, r, G, g, e, ?_⟩
    cases hq : evE cl ca env s with
    | bad => rw [hq] at h; exact h.elim
    | err c ds s1 => rw [hq] at h; exact h
    | ok d s1 =>
      rw [hq] at h
      intro v r1 G1 H1 l1 g1 hv
      have h : Out X.K T (Rp X.K T) W σ Q r G H (lift (lensetB [rd s1 d]) s1) := h
      obtain ⟨z, hz, h3⟩ := out_lift (Out.le l1 h)
      have hr := Rr.rd g1 hv
      generalize rd s1 d = d' at hz hr
      unfold lensetB at hz
      split at hz <;> first | (cases hz; done) | skip
      rename_i ds heq
      cases heq
      cases hn : intsOf ds with
      | none => rw [hn] at hz; cases hz
      | some ns =>
        rw [hn] at hz
        simp only [Option.bind_some] at hz
        split at hz
        · rename_i hcap
          cases hz
          obtain ⟨l, xs, rfl, k1, k2⟩ := rr_lst hr
          have hx := ints_ok hn k2
          subst hx
          exact ⟨l, ns, rfl, SqL.of k1, Nat.le_of_ble_eq_true hcap, h3.here g1 (of_int _)⟩
        · cases hz
end
end T5

set_option Elab.async false
set_option linter.all false
set_option maxRecDepth 100000
set_option maxHeartbeats 4000000
/-! T5: what a suite asks of its exception; try. -/
namespace T5
open PySem PySem.Spec L2
open Evl (Ex)
/-- isinstance(e, c), e the exception of the suite, its dict at dd -/
theorem call_isD {X : Cx} {a D dd : Addr} {oe : Obj} {pn : List (Addr × Obj)} (C : ExcC X.K D) (hz : Zc (.ref D) (some dd) oe) (hf : ∃ vs, oe.data = .fields vs) : CallR (X.suite a ((a, oe) :: pn)) (.builtin "isinstance") (fun xs H Q => (∃ fs, H dd = some (.xd fs)) ∧ rIsE X.K D a xs H Q) := by
  intro pins s σ H xs us Q I r h
  obtain ⟨⟨fs, hdd⟩, c, cv, b, rfl, hcv, e, q⟩ := h
  cases r with
  | cons rx rr =>
    cases rr with
    | cons rt rr =>
      cases rr
      cases rx
      have ec := hcv _ rt
      subst ec
      obtain ⟨hget, _⟩ := I.pin (a, oe) (List.mem_append.mpr (.inl List.mem_cons_self))
      obtain ⟨vs, hv⟩ := hf
      obtain ⟨mA, ⟨od, es, ep, ho, _⟩, _⟩ := I.hok dd _ hdd
      have J : PySem.W.InstAt s.heap a oe D (some od) := ⟨hget, hz.1, by unfold PySem.W.notCls; rw [hv] <;> rfl, by rw [hz.2]; exact ho⟩
      exact PySem.W.kia_one (kitx_errD C) I.kIn J e (fun z => nomatch z) fun tk => ⟨.bl b, H, I.kept (t' := tk) fun _ _ z => z, rfl, q⟩
/-- isinstance(e, (c1, c2)) -/
theorem call_isDT {X : Cx} {a D dd : Addr} {oe : Obj} {pn : List (Addr × Obj)} (C : ExcC X.K D) (hz : Zc (.ref D) (some dd) oe) (hf : ∃ vs, oe.data = .fields vs) : CallR (X.suite a ((a, oe) :: pn)) (.builtin "isinstance") (fun xs H Q => (∃ fs, H dd = some (.xd fs)) ∧ ∃ (tp : Addr) (cs : List V) (ws : List Value) (b : Bool), xs = [.ref a, .ref tp] ∧ H tp = some (.tup cs) ∧ (∀ us, Vals cs us → us = ws) ∧ PySem.W.kitAny X.K (.ref D) ws = some b ∧ Q (.bl b) H) := by
  intro pins s σ H xs us Q I r h
  obtain ⟨⟨fs, hdd⟩, tp, cs, ws, b, rfl, hT, hcs, e, q⟩ := h
  obtain ⟨u1, u2, rfl, r1, r2⟩ := vals2 r
  cases (show u1 = Value.ref a from r1)
  cases (show u2 = Value.ref tp from r2)
  obtain ⟨_, its, rv, o, h1, h2, n, h3⟩ := (show ObjOk X.prog X.w H s.heap tp (.tup cs) from I.hok tp _ hT)
  have e3 := hcs _ rv
  subst e3
  obtain ⟨oc, od2, dt, sl⟩ := o
  simp only at h2 h3
  subst h2 h3
  obtain ⟨hget, _⟩ := I.pin (a, oe) (List.mem_append.mpr (.inl List.mem_cons_self))
  obtain ⟨vs, hv⟩ := hf
  obtain ⟨mA, ⟨od, es, ep, ho, _⟩, _⟩ := I.hok dd _ hdd
  have J : PySem.W.InstAt s.heap a oe D (some od) := ⟨hget, hz.1, by unfold PySem.W.notCls; rw [hv] <;> rfl, by rw [hz.2]; exact ho⟩
  exact PySem.W.kia_tup (kitx_errD C) I.kIn J h1 e (fun z => nomatch z) fun tk => ⟨.bl b, H, I.kept (t' := tk) fun _ _ z => z, rfl, q⟩
theorem memN_app {c : Nat} : ∀ {xs ys : List Nat}, memN c (xs ++ ys) = (memN c xs || memN c ys)
  | [], _ => rfl
  | x :: xs, ys => by
    show (Nat.beq c x || memN c (xs ++ ys)) = ((Nat.beq c x || memN c xs) || memN c ys)
    rw [memN_app, Bool.or_assoc]
/-- the caught exception, by class and fields, in what never changes -/
structure ExnC (K : PySem.W.Frag) (T : Tb) (g0 : Hp) (c : Nat) (ds : List D) (dd : Addr) : Prop where
  lt : c < T.nE
  ex : ∃ fs vs, g0 dd = some (.xd fs) ∧ RpL K T [] g0 ds vs ∧ vs.length = (T.fl c).length ∧ ∀ (i : Nat) (f : Str) (v : V), (T.fl c)[i]? = some f → vs[i]? = some v → fs.lookup f = some v
section
variable {X : Cx} {T : Tb} {W : WX} {cl : Calls} {c : Nat} {ds : List D} {a dd : Addr} {oe : Obj} {pn : List (Addr × Obj)} {n : Str} {i : Nat} {p p1 p2 pos : Pos} {r0 : List Addr} {G0 : Hp}
theorem pin_at {K : PySem.W.Frag} {r : List Addr} {G : Hp} {v : V} (h : Rp K (T.at 1 (.ref a) r0 G0) r G (.pin 1) v) : v = .ref a := by
  unfold Rp at h
  have h : some (V.ref a) = some v := h
  exact (Option.some.inj h).symm
theorem hx_exn {s : Sto} : hx cl c ds EXN [] noT s = .ok (.tup (.int c :: ds)) s := rfl
/-- isinstance(n, C) -/
theorem ge_exi {ce : Expr} {cV : V} {cv : Value} {cs : List Nat} (hX : ExnC X.K T G0 c ds dd) (C : ExcC X.K (T.cl c)) (hz : Zc (.ref (T.cl c)) (some dd) oe) (hf : ∃ vs, oe.data = .fields vs) (hN : X.N[i]? = some n) (hv : Vis X.env.scope n) (hd : (n == ("__debug__" : Str)) = false) (hcd : (n == ("__classdict__" : Str)) = false)
    (hg : Gl X "isinstance") (hm : X.mg "isinstance" = none) (hce : PE (X.suite a ((a, oe) :: pn)) ce (tC cV)) (hu : ∀ u, RelV cV u → u = cv) (hk : PySem.W.kitOne X.K (.ref (T.cl c)) cv = some (memN c cs)) (hs : isStar ce = false) :
    PE (X.suite a ((a, oe) :: pn)) (.Call (.Name "isinstance" p) [.Name n p1, ce] [] pos) (tE X.K (T.at 1 (.ref a) r0 G0) W (hx cl c ds) (.exi i cs)) := by
  have hst : starEach [ce] X.env = (false, eval ce X.env) :: starEach [] X.env := star_no hs
  refine imp_e (pe_callB (X := X.suite a ((a, oe) :: pn)) (call_isD C hz hf) hg hm (by decide +kernel) (pa_cons (pe_var (X := X.suite a ((a, oe) :: pn)) hN hv hd hcd) (pa_cons hce pa_nil hst) rfl) (by decide) (by decide) rfl (by rw [hst]; rfl)) fun σ H Q ⟨env, s, r, G, g, e, h⟩ => ?_
  simp only [evE] at h
  cases he : env[i]? with
  | none => rw [he] at h; exact h.elim
  | some o =>
    cases o with
    | none => rw [he] at h; exact h.elim
    | some d =>
      rw [he] at h
      cases d <;> first | exact h.elim | skip
      rename_i k
      by_cases hk1 : k = 1
      · subst hk1
        obtain ⟨v, e1, e2⟩ := e.2 i _ he
        cases pin_at e2
        refine ⟨_, e1, ⟨?_, cV, cv, memN c cs, rfl, hu, hk, ?_⟩⟩
        · obtain ⟨fs, _, q, _⟩ := hX.ex
          exact ⟨fs, g.sub _ _ (g.flg _ _ q)⟩
        · rw [hx_exn] at h
          have h : Out X.K (T.at 1 (.ref a) r0 G0) (Rp X.K (T.at 1 (.ref a) r0 G0)) W σ Q r G H (.ok (.bl (memN (Int.toNat c) cs)) s) := h
          rw [Int.toNat_natCast] at h
          exact h.here g (of_bl _)
      · exfalso
        split at h
        · rename_i hh
          cases hh
          exact hk1 rfl
        · exact h
/-- isinstance(n, (C1, C2)) -/
theorem ge_exi2 {ce1 ce2 : Expr} {cV1 cV2 : V} {cv1 cv2 : Value} {cs1 cs2 : List Nat} {kk : Nat} (hX : ExnC X.K T G0 c ds dd) (C : ExcC X.K (T.cl c)) (hz : Zc (.ref (T.cl c)) (some dd) oe) (hf : ∃ vs, oe.data = .fields vs) (hN : X.N[i]? = some n) (hv : Vis X.env.scope n) (hd : (n == ("__debug__" : Str)) = false) (hcd : (n == ("__classdict__" : Str)) = false)
    (hg : Gl X "isinstance") (hm : X.mg "isinstance" = none) (hce1 : PE (X.suite a ((a, oe) :: pn)) ce1 (tC cV1)) (hu1 : ∀ u, RelV cV1 u → u = cv1) (hk1 : PySem.W.kitOne X.K (.ref (T.cl c)) cv1 = some (memN c cs1)) (hs1 : isStar ce1 = false)
    (hce2 : PE (X.suite a ((a, oe) :: pn)) ce2 (tC cV2)) (hu2 : ∀ u, RelV cV2 u → u = cv2) (hk2 : PySem.W.kitOne X.K (.ref (T.cl c)) cv2 = some (memN c cs2)) (hs2 : isStar ce2 = false) :
    PE (X.suite a ((a, oe) :: pn)) (.Call (.Name "isinstance" p) [.Name n p1, .Tuple [ce1, ce2] kk p2] [] pos) (tE X.K (T.at 1 (.ref a) r0 G0) W (hx cl c ds) (.exi i (cs1 ++ cs2))) := by
  have hst2 : starEach [ce2] X.env = (false, eval ce2 X.env) :: starEach [] X.env := star_no hs2
  have hst1 : starEach [ce1, ce2] X.env = (false, eval ce1 X.env) :: starEach [ce2] X.env := star_no hs1
  refine imp_e (pe_callB (X := X.suite a ((a, oe) :: pn)) (call_isDT C hz hf) hg hm (by decide +kernel) (pa_cons (pe_var (X := X.suite a ((a, oe) :: pn)) hN hv hd hcd) (pa_cons (pe_tup (X := X.suite a ((a, oe) :: pn)) (pa_cons hce1 (pa_cons hce2 pa_nil hst2) hst1)) pa_nil rfl) rfl) (by decide) (by decide) rfl rfl) fun σ H Q ⟨env, s, r, G, g, e, h⟩ => ?_
  simp only [evE] at h
  cases he : env[i]? with
  | none => rw [he] at h; exact h.elim
  | some o =>
    cases o with
    | none => rw [he] at h; exact h.elim
    | some d =>
      rw [he] at h
      cases d <;> first | exact h.elim | skip
      rename_i k
      by_cases hk : k = 1
      · subst hk
        obtain ⟨v, e1, e2⟩ := e.2 i _ he
        cases pin_at e2
        refine ⟨_, e1, ⟨by rw [sizeLine_eq]; show 2 ≤ 16777216; decide, fun q hq => ?_⟩⟩
        have g' := g.new hq (.tup [cV1, cV2]) fun _ z => by cases z
        refine ⟨?_, q, [cV1, cV2], [cv1, cv2], memN c (cs1 ++ cs2), rfl, upd_same, fun us hus => ?_, ?_, ?_⟩
        · obtain ⟨fs, _, q, _⟩ := hX.ex
          exact ⟨fs, g'.sub _ _ (g'.flg _ _ q)⟩
        · obtain ⟨u1, u2, rfl, r1, r2⟩ := vals2 hus
          rw [hu1 _ r1, hu2 _ r2]
        · rw [memN_app]
          refine kitAny_cons hk1 (fun z => ?_) fun z => by rw [z]; rfl
          rw [z]
          exact kitAny_cons hk2 (fun z => by rw [z]; rfl) fun z => by rw [z]; rfl
        · rw [hx_exn] at h
          have h : Out X.K (T.at 1 (.ref a) r0 G0) (Rp X.K (T.at 1 (.ref a) r0 G0)) W σ Q r G H (.ok (.bl (memN (Int.toNat c) (cs1 ++ cs2))) s) := h
          rw [Int.toNat_natCast] at h
          exact (h.le (le_new g hq _)).here g' (of_bl _)
      · exfalso
        split at h
        · rename_i hh
          cases hh
          exact hk rfl
        · exact h
/-- n.f -/
theorem ge_exf {f : Str} {js : List (Nat × Nat)} (hX : ExnC X.K T G0 c ds dd) (C : XfC X.K (T.cl c)) (hno : ∀ f ∈ T.fl c, PySem.W.findIn X.K (.ref (T.cl c)) f = some none) (hz : Zc (.ref (T.cl c)) (some dd) oe) (hf : ∃ vs, oe.data = .fields vs) (hN : X.N[i]? = some n) (hv : Vis X.env.scope n) (hd : (n == ("__debug__" : Str)) = false) (hcd : (n == ("__classdict__" : Str)) = false)
    (hj : ∀ j, lookN c js = some j → (T.fl c)[j]? = some f) (hp1 : T.pinv 1 = none) :
    PE (X.suite a ((a, oe) :: pn)) (.Attribute (.Name n p1) f pos) (tE X.K (T.at 1 (.ref a) r0 G0) W (hx cl c ds) (.exf i js)) := by
  by_cases hin : ∃ j, lookN c js = some j
  · refine imp_e (pe_xf C (hno f (by obtain ⟨j, hj1⟩ := hin; exact List.mem_of_getElem? (hj j hj1))) hz hf (pe_var (X := X.suite a ((a, oe) :: pn)) hN hv hd hcd)) fun σ H Q ⟨env, s, r, G, g, e, h⟩ => ?_
    simp only [evE] at h
    cases he : env[i]? with
    | none => rw [he] at h; exact h.elim
    | some o =>
      cases o with
      | none => rw [he] at h; exact h.elim
      | some d =>
        rw [he] at h
        cases d <;> first | exact h.elim | skip
        rename_i k
        by_cases hk1 : k = 1
        · subst hk1
          obtain ⟨v, e1, e2⟩ := e.2 i _ he
          cases pin_at e2
          refine ⟨_, e1, rfl, rfl, dd, ?_⟩
          obtain ⟨fs, vs, q1, q2, q3, q4⟩ := hX.ex
          rw [hx_exn] at h
          have h : Out X.K (T.at 1 (.ref a) r0 G0) (Rp X.K (T.at 1 (.ref a) r0 G0)) W σ Q r G H (lift ((lookN (Int.toNat c) js).bind fun j => ds[j]?) s) := h
          rw [Int.toNat_natCast] at h
          obtain ⟨z, hz1, h2⟩ := out_lift h
          cases hj1 : lookN c js with
          | none => rw [hj1] at hz1; cases hz1
          | some j =>
            rw [hj1] at hz1
            have hz1 : ds[j]? = some z := hz1
            obtain ⟨u, k1, k2⟩ := q2.get hz1
            refine ⟨fs, u, rfl, g.sub _ _ (g.flg _ _ q1), q4 j f u (hj j hj1) k1, h2.here g ?_⟩
            exact (Rp.mono (fun m b hm => by simp at hm) g.flg k2).ext at_fn (at_more hp1)
        · exfalso
          split at h
          · rename_i hh
            cases hh
            exact hk1 rfl
          · exact h
  · refine imp_e false_e fun σ H Q ⟨env, s, r, G, g, e, h⟩ => ?_
    simp only [evE] at h
    split at h
    · rw [hx_exn] at h
      have h : Out X.K (T.at 1 (.ref a) r0 G0) (Rp X.K (T.at 1 (.ref a) r0 G0)) W σ Q r G H (lift ((lookN (Int.toNat c) js).bind fun j => ds[j]?) s) := h
      rw [Int.toNat_natCast] at h
      cases hj1 : lookN c js with
      | none => rw [hj1] at h; exact h
      | some j => exact absurd ⟨j, hj1⟩ hin
    · exact h
end
end T5

set_option Elab.async false
set_option linter.all false
set_option maxRecDepth 100000
set_option maxHeartbeats 4000000
/-! T5: try. -/
namespace T5
open PySem PySem.Spec L2
open Evl (Ex)
theorem EnvR.clr {K : PySem.W.Frag} {T : Tb} {r : List Addr} {G : Hp} {σ : St} {env : T5.Env} (h : EnvR K T r G σ env) (i : Nat) : EnvR K T r G (σ.set i none) (env.set i none) := by
  refine ⟨by simpa using h.1, fun j x e => ?_⟩
  by_cases hj : i = j
  · subst hj
    by_cases hi : i < env.length
    · rw [List.getElem?_set_self hi] at e
      cases e
    · rw [List.getElem?_eq_none (by simpa using hi)] at e
      cases e
  · rw [List.getElem?_set_ne hj] at e
    obtain ⟨w, e1, e2⟩ := h.2 j x e
    exact ⟨w, by rw [List.getElem?_set_ne hj]; exact e1, e2⟩
theorem errR_exn {K : PySem.W.Frag} {T : Tb} {r : List Addr} {G H : Hp} {cv : Value} {dd : Option Addr} {c : Nat} {ds : List D} (h : ErrR K T r G H cv dd c ds) (hc : cleanL 0 ds = true) : ∃ da, cv = .ref (T.cl c) ∧ dd = some da ∧ ExnC K T G c ds da := by
  obtain ⟨⟨h1, h2⟩, a, fs, vs, h3, h4, h5, h6, h7⟩ := h
  exact ⟨a, h2, h3, h1, fs, vs, h4, h5.cut (n := 0) (fun m b hm _ => absurd hm (Nat.not_lt_zero m)) hc, h6, h7⟩
section
variable {X : Cx} {T : Tb} {W : WX} {cl : Calls} {x n : Str} {cv : Value} {i : Nat} {body suite : List Stmt} {b₀ : Stmt} {np pos pos' : Pos} {cb ch : CSs} {cs : List Nat}
/-- what follows the suite: the name is gone, nothing is pinned -/
def endsAs (sl : Option Nat) (D : Ends) : Ends :=
  match sl with
  | some i => { nx := fun σ' H' => D.nx (σ'.set i none) H', rt := D.rt, bk := fun σ' H' => D.bk (σ'.set i none) H', ct := fun σ' H' => D.ct (σ'.set i none) H' }
  | none => D
def clrV (sl : Option Nat) (σ : St) : St :=
  match sl with
  | some i => σ.set i none
  | none => σ
theorem clr_env {K : PySem.W.Frag} {T : Tb} {r : List Addr} {G : Hp} {σ : St} {env : T5.Env} (h : EnvR K T r G σ env) : ∀ sl : Option Nat, EnvR K T r G (clrV sl σ) (clrE sl env)
  | some i => h.clr i
  | none => h
theorem suite_out {K : PySem.W.Frag} {D : Ends} {sl : Option Nat} {r r' : List Addr} {G G' H H' : Hp} {s1 : Sto} {q : SR} {v : V} (hs : sl = none ∨ ∃ i, sl = some i) (l : Le r G H r' G' H') (g : Gd K T r' G' H' s1) (h : OutS K T W D r G H (unS sl q)) : OutS K (T.at 1 v r' G') W0 (endsAs sl D) r' G' H' q := by
  have fl : ∀ {r2 : List Addr} {G2 H2 : Hp} {s2 : Sto}, Gd K (T.at 1 v r' G') r2 G2 H2 s2 → pfS 1 s2 = true → Gd K T r2 G2 H2 s2 := fun g2 hp => g2.back hp (g.flr.trans g2.flr) (g.flg.trans g2.flg)
  have nxe : ∀ σ, (endsAs sl D).nx σ = D.nx (clrV sl σ) := fun σ => by cases sl <;> rfl
  have bke : ∀ σ, (endsAs sl D).bk σ = D.bk (clrV sl σ) := fun σ => by cases sl <;> rfl
  have cte : ∀ σ, (endsAs sl D).ct σ = D.ct (clrV sl σ) := fun σ => by cases sl <;> rfl
  have rte : (endsAs sl D).rt = D.rt := by cases sl <;> rfl
  cases q with
  | nx env2 s2 =>
    simp only [unS] at h
    split at h
    · rename_i hc
      have hc' := Bool.and_eq_true_iff.mp hc
      intro σ2 r2 G2 H2 l2 g2 e2
      rw [nxe]
      exact h _ r2 G2 H2 (l.trans l2) (fl g2 hc'.2) ((clr_env e2 sl).back hc'.1)
    · exact h.elim
  | bk env2 s2 =>
    simp only [unS] at h
    split at h
    · rename_i hc
      have hc' := Bool.and_eq_true_iff.mp hc
      intro σ2 r2 G2 H2 l2 g2 e2
      rw [bke]
      exact h _ r2 G2 H2 (l.trans l2) (fl g2 hc'.2) ((clr_env e2 sl).back hc'.1)
    · exact h.elim
  | ct env2 s2 =>
    simp only [unS] at h
    split at h
    · rename_i hc
      have hc' := Bool.and_eq_true_iff.mp hc
      intro σ2 r2 G2 H2 l2 g2 e2
      rw [cte]
      exact h _ r2 G2 H2 (l.trans l2) (fl g2 hc'.2) ((clr_env e2 sl).back hc'.1)
    · exact h.elim
  | rt d s2 =>
    simp only [unS] at h
    split at h
    · rename_i hc
      have hc' := Bool.and_eq_true_iff.mp hc
      intro u r2 G2 H2 l2 g2 e2
      rw [rte]
      exact h u r2 G2 H2 (l.trans l2) (fl g2 hc'.2) (e2.back hc'.1)
    · exact h.elim
  | err c ds env2 s2 => exact h.elim
  | bad => exact h.elim
def suiteR (K : PySem.W.Frag) (T : Tb) (cl : Calls) (ch : CSs) (a : Addr) (cls : Value) (d : Option Addr) : TS := fun D σ H => ∃ c ds dd r0 G0, cls = .ref (T.cl c) ∧ d = some dd ∧ ExnC K T G0 c ds dd ∧ tSs K (T.at 1 (.ref a) r0 G0) W0 (hx cl c ds) ch D σ H
theorem gst_tryAs (hs : X.stack = X.env :: X.outer) (hf : X.env.frame = some X.env.locals) (hN : X.N.Nodup) (hi : X.N[i]? = some n) (hln : X.env.kindOf n = some .local) (hc : Names X x cv) (tk : Takes X W) (h1 : T.pinv 1 = none)
    (hcat : ∀ c, c < T.nE → PySem.W.exmOne X.K (.ref (T.cl c)) cv = some (memN c cs))
    (hb : ∀ (W : WX) (pn : List (Addr × Obj)) (xe : Value → Shared → Prop), Takes (X.tr pn xe) W → PassesOwn (model X.prog X.w) X.A X.env xe → PSs (X.tr pn xe) body (tSs X.K T W cl cb))
    (hsu : ∀ (a : Addr) (oe : Obj) (pn : List (Addr × Obj)) (c : Nat) (ds : List D) (dd : Addr) (r0 : List Addr) (G0 : Hp), Zc (.ref (T.cl c)) (some dd) oe → (∃ vs, oe.data = .fields vs) → ExnC X.K T G0 c ds dd → PSs (X.suite a ((a, oe) :: pn)) (b₀ :: suite) (tSs X.K (T.at 1 (.ref a) r0 G0) W0 (hx cl c ds) ch)) :
    PS X (.Try body [.ExceptHandler (some (.Name x np)) (some n) (b₀ :: suite) pos'] [] [] pos) (tSt X.K T W cl (.tryS cb cs (some i) ch)) := by
  refine imp_s (ps_try_as (ts := suiteR X.K T cl ch) hs hf hN hi hln hc tk hb fun a oe cls d pn hz hv => ⟨fun pins s σ H D I h => ?_⟩) fun D σ H ⟨env, s, r, G, g, e, h⟩ => ⟨env, s, r, G, g, e, ?_⟩
  · obtain ⟨c, ds, dd, r0, G0, rfl, rfl, hX, h⟩ := h
    exact (hsu a oe pn c ds dd r0 G0 hz hv hX).run pins s σ H D I h
  · simp only [evS] at h
    cases hq : evSs cl cb env s with
    | nx env1 s1 => rw [hq] at h; exact h
    | rt d s1 => rw [hq] at h; exact h
    | bk env1 s1 => rw [hq] at h; exact h
    | ct env1 s1 => rw [hq] at h; exact h
    | bad => rw [hq] at h; exact h
    | err c ds env1 s1 =>
      rw [hq] at h
      intro cv' dd σ1 r1 G1 H1 l1 g1 e1 hE
      have hlt := hE.1.1
      have hcv := hE.1.2
      refine ⟨memN c cs, by rw [hcv]; exact hcat c hlt, fun hm a ha => ?_, fun hm => ?_⟩
      · simp only [hm, if_true] at h
        split at h
        · rename_i hcl
          obtain ⟨da, k1, k2, k3⟩ := errR_exn hE hcl
          refine ⟨c, ds, da, r1, G1, k1, k2, k3, pinE (some i) env1, s1, r1, G1, g1.into h1, (e1.into h1).set i ?_, ?_⟩
          · unfold Rp
            rfl
          · exact suite_out (sl := some i) (.inr ⟨i, rfl⟩) l1 g1 h
        · exact h.elim
      · simp only [hm, if_false, Bool.false_eq_true] at h
        exact h cv' dd σ1 r1 G1 H1 l1 g1 e1 hE
/-- without a name -/
theorem gst_tryOnly (hs : X.stack = X.env :: X.outer) (hf : X.env.frame = some X.env.locals) (hc : Names X x cv) (tk : Takes X W) (h1 : T.pinv 1 = none)
    (hcat : ∀ c, c < T.nE → PySem.W.exmOne X.K (.ref (T.cl c)) cv = some (memN c cs))
    (hb : ∀ (W : WX) (pn : List (Addr × Obj)) (xe : Value → Shared → Prop), Takes (X.tr pn xe) W → PassesOwn (model X.prog X.w) X.A X.env xe → PSs (X.tr pn xe) body (tSs X.K T W cl cb))
    (hsu : ∀ (a : Addr) (oe : Obj) (pn : List (Addr × Obj)) (c : Nat) (ds : List D) (dd : Addr) (r0 : List Addr) (G0 : Hp), Zc (.ref (T.cl c)) (some dd) oe → (∃ vs, oe.data = .fields vs) → ExnC X.K T G0 c ds dd → PSs (X.suite a ((a, oe) :: pn)) (b₀ :: suite) (tSs X.K (T.at 1 (.ref a) r0 G0) W0 (hx cl c ds) ch)) :
    PS X (.Try body [.ExceptHandler (some (.Name x np)) none (b₀ :: suite) pos'] [] [] pos) (tSt X.K T W cl (.tryS cb cs none ch)) := by
  refine imp_s (ps_try_only (ts := suiteR X.K T cl ch) hs hf hc tk hb fun a oe cls d pn hz hv => ⟨fun pins s σ H D I h => ?_⟩) fun D σ H ⟨env, s, r, G, g, e, h⟩ => ⟨env, s, r, G, g, e, ?_⟩
  · obtain ⟨c, ds, dd, r0, G0, rfl, rfl, hX, h⟩ := h
    exact (hsu a oe pn c ds dd r0 G0 hz hv hX).run pins s σ H D I h
  · simp only [evS] at h
    cases hq : evSs cl cb env s with
    | nx env1 s1 => rw [hq] at h; exact h
    | rt d s1 => rw [hq] at h; exact h
    | bk env1 s1 => rw [hq] at h; exact h
    | ct env1 s1 => rw [hq] at h; exact h
    | bad => rw [hq] at h; exact h
    | err c ds env1 s1 =>
      rw [hq] at h
      intro cv' dd σ1 r1 G1 H1 l1 g1 e1 hE
      have hlt := hE.1.1
      have hcv := hE.1.2
      refine ⟨memN c cs, by rw [hcv]; exact hcat c hlt, fun hm a ha => ?_, fun hm => ?_⟩
      · simp only [hm, if_true] at h
        split at h
        · rename_i hcl
          obtain ⟨da, k1, k2, k3⟩ := errR_exn hE hcl
          exact ⟨c, ds, da, r1, G1, k1, k2, k3, env1, s1, r1, G1, g1.into h1, e1.into h1, suite_out (sl := none) (.inl rfl) l1 g1 h⟩
        · exact h.elim
      · simp only [hm, if_false, Bool.false_eq_true] at h
        exact h cv' dd σ1 r1 G1 H1 l1 g1 e1 hE
end
end T5

set_option Elab.async false
set_option linter.all false
set_option maxRecDepth 100000
set_option maxHeartbeats 4000000
/-! T5: f(lambda: e). -/
namespace T5
open PySem PySem.Spec L2 LamX
open Evl (Ex)
/-- how the abstract heap grows when a lambda is made -/
def Grown (P c' : Addr) (q : Str) (H H1 : Hp) : Prop := H1 = H ∨ ∃ ps more, H P = some (.tbl ps) ∧ H c' = none ∧ H1 = upd (upd H P (.tbl (ps ++ more))) c' (CodeO c' q)
section
variable {X : Cx} {pins : List (Addr × Obj)} {σ : L2.St} {H : Hp} {s : Shared}
theorem lam_mk {T : List (Addr × Str)} {c P : Addr} {params : Arguments} {body : Expr} {scope : Scope} {pos : Pos} {E : Value → Shared → Prop} {Q : Value → Shared → Prop} (I : L2.Inv X pins σ H s) (TB : TabB X.base X.mg c P) (hcode : X.env.code = .ref c)
    (hm : (P, X.env.qual ++ "<lambda>") ∈ T) (hu : ∀ p ∈ T, p.1 = P → p.2 = X.env.qual ++ "<lambda>") (hT : Tabs T H) (hdef : defaultsOf params X.env = ([], [])) (hfree : ∀ y ∈ scope.names, y.2 = .free → ∃ c, X.env.cells.lookup y.1 = some c)
    (h : ∀ (f c' : Addr) (pm ctv : Value) (H1 : Hp) (s' : Shared), L2.Inv X pins σ H1 s' → Grown P c' (X.env.qual ++ "<lambda>") H H1 → Tabs T H1 →
      s'.heap.get? f = some (PySem.W.kla_obj "<lambda>" (X.env.qual ++ "<lambda>") params body scope (cloFrom X.env.cells scope.names []) pm c' ctv) → H1 f = none → f ∉ frs X.stack → H1 c' = some (CodeO c' (X.env.qual ++ "<lambda>")) → Q (.ref f) s') :
    wpAny (model X.prog X.w) X.A (eval (.Lambda params body scope pos) X.env) Q E s := by
  obtain ⟨ps, hP, ht, ha⟩ := hT _ hm
  have bP : s.heap.BuiltinsAt X.mg P := TB.bm.keeps I.bk
  have hP' : s.heap.get? P = some { cls := .none, data := .fields ps } := I.hok P _ hP
  have glb := I.mod.glob.keeps I.bk
  have cod := TB.code.keeps I.bk
  have nofr : ∀ f, s.heap.objs.size ≤ f → f ∉ frs X.stack := fun f hf z => by
    have h1 := I.lt
    rcases List.mem_cons.mp (I.stkSub _ z) with e | e
    · rw [← e] at h1
      exact absurd (Nat.lt_of_lt_of_le h1 hf) (Nat.lt_irrefl _)
    · exact I.nofs hf e
  refine PySem.W.kla_eval hdef ?_
  cases hc : codeAmong pos ps.toList with
  | some cv =>
    obtain ⟨c', rfl, hco⟩ := ha pos cv hc
    refine PySem.W.kla_makeFunctionHit (mg := X.mg) (c := c) (P := P) (ps := ps) (closure_ok hfree) I.ok.glob glb hcode cod hP' ht hc bP fun ctv h' tk hx hsz => ?_
    have J : L2.Inv X pins σ H { s with heap := h'.push (PySem.W.kla_obj "<lambda>" (X.env.qual ++ "<lambda>") params body scope (cloFrom X.env.cells scope.names []) ((X.mg "__name__").getD .none) c' ctv), toks := tk } := I.kept fun b o e => Heap.get?_push_of_some _ (hx b o e)
    exact h h'.objs.size c' _ ctv H _ J (.inl rfl) hT (Heap.get?_push_size _ rfl) (I.hok.fresh hsz) (nofr _ hsz) hco
  | none =>
    refine PySem.W.kla_makeFunction (mg := X.mg) (c := c) (P := P) (ps := ps) (closure_ok hfree) I.ok.glob glb hcode cod hP' ht hc TB.gP bP fun c' ctv h' tk hx hge hlt hrec htb => ?_
    obtain ⟨c2, oc, vs, t, e2, hoc, hd, hv⟩ := hrec
    cases e2
    have hsz : s.heap.objs.size ≤ h'.objs.size := by omega
    have nC : H c' = none := I.hok.fresh hge
    have J := inv_table (t' := tk) (more := #[rawInt pos.line, rawInt pos.col, .ref c']) (h' := h'.push (PySem.W.kla_obj "<lambda>" (X.env.qual ++ "<lambda>") params body scope (cloFrom X.env.cells scope.names []) ((X.mg "__name__").getD .none) c' ctv)) I hP
      (fun b o hb e => Heap.get?_push_of_some _ (hx b o hb e)) (Heap.get?_push_of_some _ htb) hge ⟨oc, vs, t, Heap.get?_push_of_some _ hoc, hd, hv⟩
    have nP : P ≠ c' := ne_of_none hP nC
    have eL : (ps ++ #[rawInt pos.line, rawInt pos.col, .ref c']).toList = ps.toList ++ [rawInt pos.line, rawInt pos.col, .ref c'] := by simp
    have keepC : ∀ c0, H c0 = some (CodeO c0 (X.env.qual ++ "<lambda>")) → upd (upd H P (.tbl (ps ++ #[rawInt pos.line, rawInt pos.col, .ref c']))) c' (CodeO c' (X.env.qual ++ "<lambda>")) c0 = some (CodeO c0 (X.env.qual ++ "<lambda>")) := fun c0 e => by
      rw [upd_ne (ne_of_none e nC), upd_ne (fun z => by rw [z, hP] at e; exact codeO_ne ps (Option.some.inj e).symm)]
      exact e
    refine h h'.objs.size c' _ ctv _ _ J (.inr ⟨ps, _, hP, nC, rfl⟩) (fun p hp => ?_) (Heap.get?_push_size _ rfl) ?_ (nofr _ hsz) upd_same
    · by_cases hb : p.1 = P
      · rw [hu p hp hb, hb]
        refine ⟨_, by rw [upd_ne nP, upd_same], by rw [eL]; exact PySem.TriplesOk_snoc _ _ _ _ ht, fun p' cv hcv => ?_⟩
        rw [eL] at hcv
        rcases among_app _ ht hcv with z | z
        · obtain ⟨c0, e1, e2⟩ := ha p' cv z
          exact ⟨c0, e1, keepC c0 e2⟩
        · exact ⟨c', z, upd_same⟩
      · obtain ⟨ps', a1, a2, a3⟩ := hT p hp
        refine ⟨ps', by rw [upd_ne (ne_of_none a1 nC), upd_ne hb]; exact a1, a2, fun p' cv hcv => ?_⟩
        obtain ⟨c0, e1, e2⟩ := a3 p' cv hcv
        refine ⟨c0, e1, ?_⟩
        rw [upd_ne (ne_of_none e2 nC), upd_ne (fun z => by rw [z, hP] at e2; exact codeO_ne ps (Option.some.inj e2).symm)]
        exact e2
    · rw [upd_ne (Nat.ne_of_gt hlt), upd_ne (Nat.ne_of_gt (Nat.lt_of_lt_of_le (Heap.lt_size hP') hsz))]
      exact I.hok.fresh hsz
end
/-! ### the relation behind it -/
section
variable {K : PySem.W.Frag} {T : Tb} {r : List Addr} {G H H1 : Hp} {s : Sto} {P c' : Addr} {q : Str}
theorem grown_le (g : Gd K T r G H s) (w : Grown P c' q H H1) (hco : H1 c' = some (CodeO c' q)) : Le r G H r (upd G c' (CodeO c' q)) H1 ∧ (Tabs T.tabs H1 → Gd K T r (upd G c' (CodeO c' q)) H1 s) := by
  -- what is no table stays; nothing vanishes
  have st : ∀ a o, H a = some o → (∀ ps, o ≠ .tbl ps) → H1 a = some o := fun a o e nt => by
    rcases w with rfl | ⟨ps, more, hP, hc, rfl⟩
    · exact e
    · rw [upd_ne (ne_of_none e hc), upd_ne (fun z => by rw [z, hP] at e; exact nt ps (Option.some.inj e).symm)]
      exact e
  have nn : ∀ a, H1 a = none → H a = none := fun a e => by
    rcases w with rfl | ⟨ps, more, hP, hc, rfl⟩
    · exact e
    · by_cases e1 : a = c'
      · rw [e1, upd_same] at e; cases e
      · rw [upd_ne e1] at e
        by_cases e2 : a = P
        · rw [e2, upd_same] at e; cases e
        · rw [upd_ne e2] at e; exact e
  have tb : ∀ a ps, H a = some (.tbl ps) → ∃ qs, H1 a = some (.tbl qs) := fun a ps e => by
    rcases w with rfl | ⟨ps', more, hP, hc, rfl⟩
    · exact ⟨ps, e⟩
    · rw [upd_ne (ne_of_none e hc)]
      by_cases e2 : a = P
      · rw [e2, upd_same]; exact ⟨_, rfl⟩
      · rw [upd_ne e2]; exact ⟨ps, e⟩
  have old : H c' = none ∨ H c' = some (CodeO c' q) := by
    rcases w with rfl | ⟨ps', more, hP, hc, rfl⟩
    · exact .inr hco
    · exact .inl hc
  have cr : c' ∉ r := fun z => by
    rcases old with e | e
    · exact g.not_in e z
    · rcases g.nt z _ e with ⟨_, y⟩ | ⟨_, y⟩ <;> (unfold CodeO at y; cases y)
  have gx : Ex G (upd G c' (CodeO c' q)) := fun a o e => by
    by_cases ea : a = c'
    · subst ea
      rw [upd_same]
      have := g.sub _ _ e
      rcases old with z | z
      · rw [z] at this; cases this
      · rw [z] at this; exact this
    · rw [upd_ne ea]
      exact e
  refine ⟨⟨.refl, fun _ h => .inl h, gx, fun a o _ e nt => st a o e nt, nn, fun a o e => ?_, tb⟩, fun t1 => ⟨fun a o e => ?_, fun a ha => ?_, g.len, g.nd, fun n a so h1 h2 => ?_, g.flr, g.flg.trans gx, t1, fun a ps e => ?_⟩⟩
  · by_cases ea : a = c'
    · subst ea
      rw [upd_same] at e
      cases e
      rcases old with z | z
      · exact .inr (.inl z)
      · exact .inr (.inr ⟨cr, z, _, rfl⟩)
    · rw [upd_ne ea] at e
      exact .inl e
  · by_cases ea : a = c'
    · subst ea
      rw [upd_same] at e
      rw [hco, e]
    · rw [upd_ne ea] at e
      exact st a o (g.sub a o e) fun ps z => g.ngt a ps (by rw [e, z])
  · rw [upd_ne (fun z => cr (by rw [← z]; exact ha))]
    exact g.off a ha
  · have hr : a ∈ r := List.mem_of_getElem? h1
    have ho := (g.obj n a so h1 h2).mono .refl gx
    have eq : H1 a = H a := by
      cases qa : H a with
      | none => exact absurd hr (g.not_in qa)
      | some o =>
        refine st a o qa fun ps z => ?_
        rcases g.nt hr _ qa with ⟨_, y⟩ | ⟨_, y⟩ <;> (rw [z] at y; cases y)
    rw [eq]
    exact ho
  · by_cases ea : a = c'
    · rw [ea, upd_same] at e
      unfold CodeO at e
      cases e
    · rw [upd_ne ea] at e
      exact g.ngt a ps e
end
end T5

set_option Elab.async false
set_option linter.all false
set_option maxRecDepth 100000
set_option maxHeartbeats 4000000
/-! T5: the call of a lambda by the def that got it; f(lambda: e). -/
namespace T5
open PySem PySem.Spec PyProof.Rows L2 LamX
open Evl (Ex)
section
variable {X : Cx} {pins : List (Addr × Obj)} {σ : L2.St} {H HZ : Hp} {s s1 : Shared}
/-- a(), in the def that got the lambda at f -/
theorem act_pe {CXg : CXT} {Eg : XK} {Ng : List Str} {qg : Str} {sg : Scope} {g f c' : Addr} {cdg pm ctv : Value} {params : Arguments} {body : Expr} {scope : Scope} {k i : Nat} {a : Str} {pn : List (Addr × Obj)} {xe : Value → Shared → Prop} {W : WX} {tb : XK → TE} {p1 p2 : Pos}
    (I : L2.Inv X pins σ H s) (L : LamS X.env.scope scope) (hf : s.heap.get? f = some (PySem.W.kla_obj "<lambda>" (X.env.qual ++ "<lambda>") params body scope (cloFrom X.env.cells scope.names []) pm c' ctv)) (hfn : H f = none) (hfr : f ∉ frs X.stack)
    (hbind : bindArgs (PySem.W.kla_fn "<lambda>" (X.env.qual ++ "<lambda>") params body scope (cloFrom X.env.cells scope.names []) pm (.ref c') ctv) ⟨[], []⟩ = pure [])
    (tk : Takes ((cxOf CXg X.prog X.w X.K X.mg X.base Ng qg sg g cdg X.A X.stack s H Eg).tr pn xe) W) (hr : Room (k + 1) (X.A.deeper (envOfC qg sg s.heap.objs.size g cdg)))
    (hbody : ∀ (E : XK) (s2 : Shared) (H2 : Hp), Room k ((X.A.deeper (envOfC qg sg s.heap.objs.size g cdg)).deeper (lamEnv X scope s2.heap.objs.size f c')) → PE (lamCx X (X.A.deeper (envOfC qg sg s.heap.objs.size g cdg)) (envOfC qg sg s.heap.objs.size g cdg :: X.stack) s2 H2 E scope f c') body (tb E))
    (hN : Ng[i]? = some a) (hv : Vis sg a) (hd : (a == ("__debug__" : Str)) = false) (hcd : (a == ("__classdict__" : Str)) = false) :
    PE ((cxOf CXg X.prog X.w X.K X.mg X.base Ng qg sg g cdg X.A X.stack s H Eg).tr pn xe) (.Call (.Name a p1) [] [] p2)
      (fun σZ HZ Q => σZ[i]? = some (some (.ref f)) ∧ HZ c' = some (CodeO c' (X.env.qual ++ "<lambda>")) ∧ tb (fun cls d H' => W cls d σZ H') σ HZ Q) := by
  refine ⟨fun pinsZ sZ σZ HZ Q IZ ⟨hs, hc, ht⟩ => ?_⟩
  refine wpAny_Call_Name_kw (thn ((pe_var (pos := p1) (i := i) hN hv hd hcd).run pinsZ sZ σZ HZ (fun v H1 => v = .ref f ∧ H1 = HZ) IZ ⟨.ref f, hs, rfl, rfl⟩) fun u s1 ⟨v, H1, I1, r1, ev, eH⟩ => ?_)
  subst ev
  rw [eH] at I1
  have eu : u = Value.ref f := r1
  subst eu
  have un : Un (frs X.stack) [] H HZ s.heap s1.heap := I1.base
  have of1 := I1.base.keep f _ hf hfn hfr (fun z => nomatch (show f ∈ ([] : List Addr) from z))
  obtain ⟨⟨oc, vs, t, hoc, hdc, hvc⟩, _, _⟩ := I1.hok c' _ hc
  have rc : codeAny (model X.prog X.w) (X.A.deeper (envOfC qg sg s.heap.objs.size g cdg)) (.call (.ref f) ⟨[], []⟩) (CR (L2.CX X.prog X.w) (envOfC qg sg s.heap.objs.size g cdg :: X.stack) X.prog X.w HZ s1 Q (fun cls d H' => W cls d σZ H')) s1 := by
    refine PySem.W.kla_callFunE hr.depth of1 rfl L.co L.gen rfl ⟨c', oc, vs, t, rfl, hoc, hdc, hvc⟩ ?_
    rw [hbind]
    refine wpAny_pure (wpAny_newFunctionEnv (fun y hy => (L.own y hy).2) (fun y hy => absurd hy (by simp)) (fun h₁ hns hsb => ⟨I1.nolimit.fresh _ hsb, ?_⟩) L.kind)
    have kp : ∀ b o, s1.heap.get? b = some o → h₁.get? b = some o := fun b o e => hsb.extBut b o (Nat.ne_of_lt (Heap.lt_size e)) (Heap.get?_push_of_some _ e)
    have J : L2.Inv (lamCx X (X.A.deeper (envOfC qg sg s.heap.objs.size g cdg)) (envOfC qg sg s.heap.objs.size g cdg :: X.stack) s1 HZ (fun cls d H' => W cls d σZ H') scope f c') [] σ HZ { s1 with heap := h₁, toks := s1.toks + ([] : List (Str × Value)).length } := lam_start2 I L I1.env0 hr.hd un hns kp
    show codeAny _ _ (.expr body (lamEnv X scope s1.heap.objs.size f c')) _ _
    refine PySem.W.kla_codeExpr (wpAny_mono ((hbody _ s1 HZ (hr.deeper _)).run [] _ _ HZ Q J ht) (fun v s' ⟨w', H', J', rv, q⟩ => ⟨w', H', J'.os, J'.bare, J'.base, J'.hok, rv, q⟩) fun e s' hq => hq)
  refine PySem.W.callWith_F0 ⟨_, _, _, _, of1⟩ (wpAny_call (codeAny_mono rc fun r s' hq => ?_))
  cases r with
  | error e => exact tk e s' (XE.of_call I1 (fun cls d H' q => q) hq)
  | ok fl =>
    cases fl with
    | ret u => exact I1.after hq
    | next => exact False.elim hq
    | brk => exact False.elim hq
    | cont => exact False.elim hq
end
end T5

set_option Elab.async false
set_option linter.all false
set_option maxRecDepth 100000
set_option maxHeartbeats 4000000
/-! T5: f(lambda: e), its reading by the evaluator. -/
namespace T5
open PySem PySem.Spec PyProof.Rows L2 LamX
open Evl (Ex)
section
variable {K : PySem.W.Frag} {T : Tb} {r r0 : List Addr} {G G0 H : Hp} {s : Sto} {k : Nat} {v : V} {σ : L2.St} {env : T5.Env}
theorem EnvR.mono {r' : List Addr} {G' : Hp} (h : EnvR K T r G σ env) (p : Pre r r') (e : Ex G G') : EnvR K T r' G' σ env :=
  ⟨h.1, fun i d z => let ⟨v, e1, e2⟩ := h.2 i d z; ⟨v, e1, e2.mono p e⟩⟩
theorem Gd.into' (g : Gd K T r G H s) (h : T.pinv k = none) (f1 : Pre r0 r) (f2 : Ex G0 G) : Gd K (T.at k v r0 G0) r G H s :=
  ⟨g.sub, g.off, g.len, g.nd, fun n a so h1 h2 => (g.obj n a so h1 h2).ext at_fn (at_more h), f1, f2, g.tbs, g.ngt⟩
theorem ErrR.into {cv : Value} {dd : Option Addr} {c : Nat} {ds : List D} (e : ErrR K T r G H cv dd c ds) (h : T.pinv k = none) : ErrR K (T.at k v r0 G0) r G H cv dd c ds := by
  obtain ⟨e1, a, fs, vs, e2, e3, e4, e5, e6⟩ := e
  exact ⟨e1, a, fs, vs, e2, e3, e4.ext at_fn (at_more h), e5, e6⟩
end
section
variable {X : Cx} {T : Tb} {W : WX} {cl : Calls} {F : List Fd} {k i : Nat} {fb : Fd} {Ng : List Str} {x a : Str} {g c P : Addr} {pg : Arguments} {bg : List Stmt} {sg : Scope} {dV kV doc pm cdv ct oc : Value} {an od : Option Addr} {osl : Array (Option Value)}
  {params : Arguments} {body : Expr} {scope : Scope} {cb : CE} {p lpos pos : Pos}
theorem hk_act {cl : Calls} {th t : Thk} {ds : List D} {s : Sto} : T5.hk cl th ACT ds t s = if pfS 0 s then th s else .bad := by
  unfold T5.hk
  rw [if_pos (Nat.beq_refl _)]
/-- the context of the def that gets the lambda -/
abbrev catCx (X : Cx) (Ng : List Str) (x : Str) (sg : Scope) (g : Addr) (cdv : Value) (s : Shared) (H : Hp) : Cx := cxOf (L2.CX X.prog X.w) X.prog X.w X.K X.mg X.base Ng x sg g cdv X.A X.stack s H (fun _ _ _ => False)
theorem ge_lam (hg : Gl X x) (hm : X.mg x = some (.ref g)) (hk : PySem.W.keepIn X.K (.ref g) = true) (lk : X.K.lookup g = some ⟨oc, od, .func (PySem.W.fnOf x x pg bg sg dV kV doc pm an cdv ct), osl⟩) (hcg : PySem.W.codeIn X.K cdv x = true)
    (hb : Bnd X.K (PySem.W.fnOf x x pg bg sg dV kV doc pm an cdv ct) [a] 1 [] [.inl 0]) (Sg : FnScope Ng [a] sg) (hN0 : Ng[0]? = some a) (hva : Vis sg a) (hda : (a == ("__debug__" : Str)) = false) (hca : (a == ("__classdict__" : Str)) = false) (hdb : (x == ("__debug__" : Str)) = false)
    (TB : TabB X.base X.mg c P) (hcode : X.env.code = .ref c) (hmT : (P, X.env.qual ++ "<lambda>") ∈ T.tabs) (hu : ∀ p ∈ T.tabs, p.1 = P → p.2 = X.env.qual ++ "<lambda>") (hr : Room (3 * k + 2) X.A) (L : LamS X.env.scope scope) (hdef : defaultsOf params X.env = ([], []))
    (hbind : ∀ (q : Str) (cl : List (Str × Addr)) (pm cv ctv : Value), bindArgs (PySem.W.kla_fn "<lambda>" q params body scope cl pm cv ctv) ⟨[], []⟩ = pure [])
    (hp0 : T.pinv 0 = none) (hF : F[i]? = some fb) (hact : fb.act = true) (hpar : fb.par = 1) (hsl : fb.slots = Ng.length) (hcl : cl i = run F k i)
    (hbody : ∀ (A : Around) (outer : List PySem.Env) (s : Shared) (H : Hp) (E : XK) (f c' : Addr), A.guards = X.A.guards → Room (3 * k) (A.deeper (lamEnv X scope s.heap.objs.size f c')) → PE (lamCx X A outer s H E scope f c') body (tE X.K T (fun cls d _ H => E cls d H) cl cb))
    (hcat : ∀ (k' : Nat) (f : Addr) (r0 : List Addr) (G0 : Hp) (s0 : Shared) (H0 : Hp) (th : Thk), k = k' + 1 →
      (∀ (W : WX) (pn : List (Addr × Obj)) (xe : Value → Shared → Prop) (p1 p2 : Pos), Takes ((catCx X Ng x sg g cdv s0 H0).tr pn xe) W → PE ((catCx X Ng x sg g cdv s0 H0).tr pn xe) (.Call (.Name a p1) [] [] p2) (tE X.K (T.at 0 (.ref f) r0 G0) W (T5.hk (run F k') th) .act)) →
      PSs (catCx X Ng x sg g cdv s0 H0) bg (tSs X.K (T.at 0 (.ref f) r0 G0) (fun _ _ _ _ => False) (T5.hk (run F k') th) fb.body)) :
    PE X (.Call (.Name x p) [.Lambda params body scope lpos] [] pos) (tE X.K T W cl (.lam i cb)) := by
  refine ⟨fun pins s σ H Q I ⟨env, st, r, G, gd, e, h⟩ => ?_⟩
  simp only [evE, hcl] at h
  cases k with
  | zero =>
    unfold run at h
    exact h.elim
  | succ k' =>
    unfold run at h
    rw [hF] at h
    simp only at h
    rw [if_pos hact, if_pos (by rw [hpar]; decide)] at h
    generalize hth : (fun s1 => evE cl cb env s1) = th at h
    refine wpAny_Call_Name_kw (ld_glob I hg hm ?_ hdb)
    refine PySem.W.callWith_K (h₀ := X.base) I.ok.mod.kin hk ?_ (by rfl) (by rfl)
    show wpAny _ _ (spliced ((false, eval (.Lambda params body scope lpos) X.env) :: backTo pos (starEach [] X.env))) _ _ s
    refine Calls.spliced_cons (lam_mk I TB hcode hmT hu gd.tbs hdef (L.has I.ok) fun f c' pm' ctv H1 s' I1 gw T1 hf hfn hfr hco => Calls.spliced_nil ⟨I1.kIn, ?_⟩)
    obtain ⟨l1, mk⟩ := grown_le gd gw hco
    have g1 := mk T1
    generalize hG1 : upd G c' (CodeO c' (X.env.qual ++ "<lambda>")) = G1 at l1 g1
    have hcoG : G1 c' = some (CodeO c' (X.env.qual ++ "<lambda>")) := by rw [← hG1]; exact upd_same
    obtain ⟨zs, z1, ⟨u, q, rfl, z2, z3⟩, z4⟩ := hb s' [.ref f] [] I1.kIn rfl rfl
    have z3 : q = [] := z3
    subst z3
    have z2 : some (Value.ref f) = some u := z2
    cases z2
    have rc : codeAny (model X.prog X.w) X.A (.call (.ref g) ⟨[.ref f], []⟩) (CR (L2.CX X.prog X.w) X.stack X.prog X.w H1 s' Q (fun _ _ _ => False)) s' := by
      refine run_ofS (k := 3 * k' + 4) (N := Ng) (ps := [a]) (us := [.ref f]) (vs := [.ref f]) lk hcg Sg (hr.mono (by omega)) I1.env0 z4 (.cons rfl .nil) rfl fun hr' => ⟨_, hcat k' f r G1 s' H1 th rfl (fun W' pn xe p1 p2 tk => ?_), ?_⟩
      · -- what a() does
        refine imp_e (act_pe (k := 3 * k' + 3) (i := 0) (tb := fun E => tE X.K T (fun cls d _ H => E cls d H) cl cb) I1 L hf hfn hfr (hbind _ _ _ _ _) tk hr' (fun E s2 H2 hr2 => hbody _ _ s2 H2 E f c' rfl (hr2.mono (by omega))) hN0 hva hda hca) fun σZ HZ QZ ⟨envZ, sZ, rZ, GZ, gZ, eZ, hZ⟩ => ?_
        simp only [evE] at hZ
        cases he : envZ[0]? with
        | none => rw [he] at hZ; exact hZ.elim
        | some o =>
          cases o with
          | none => rw [he] at hZ; exact hZ.elim
          | some d =>
            rw [he] at hZ
            cases d <;> first | exact hZ.elim | skip
            rename_i kk
            by_cases hk0 : kk = 0
            · subst hk0
              obtain ⟨u, e1, e2⟩ := eZ.2 0 _ he
              have eu : u = .ref f := by
                unfold Rp at e2
                have e2 : some (V.ref f) = some u := e2
                exact (Option.some.inj e2).symm
              subst eu
              refine ⟨e1, gZ.sub _ _ (gZ.flg _ _ hcoG), ?_⟩
              simp only [hk_act] at hZ
              split at hZ
              · rename_i hpf
                have pr : Pre r rZ := gZ.flr
                have px : Ex G1 GZ := gZ.flg
                refine ⟨env, sZ, rZ, GZ, gZ.back hpf (gd.flr.trans pr) ((gd.flg.trans l1.ex).trans px), e.mono pr (l1.ex.trans px), ?_⟩
                rw [← hth] at hZ
                simp only at hZ
                cases hq : evE cl cb env sZ with
                | bad => rw [hq] at hZ; exact hZ
                | ok d s2 =>
                  rw [hq] at hZ
                  exact fun y r2 G2 H2 l2 g2 hy => hZ y r2 G2 H2 l2 (g2.into' hp0 (pr.trans l2.pre) (px.trans l2.ex)) (hy.ext at_fn (at_more hp0))
                | err c ds s2 =>
                  rw [hq] at hZ
                  exact fun cv dd r2 G2 H2 l2 g2 hy => hZ cv dd r2 G2 H2 l2 (g2.into' hp0 (pr.trans l2.pre) (px.trans l2.ex)) (hy.into hp0)
              · exact hZ.elim
            · exfalso
              split at hZ
              · rename_i hh
                cases hh
                exact hk0 rfl
              · exact hZ
      · -- the def's body
        refine ⟨some (.pin 0) :: List.replicate (fb.slots - 1) none, st, r, G1, g1.into' hp0 .refl (fun _ _ z => z), ⟨?_, fun j d hj => ?_⟩, ?_⟩
        · have hn0 : 0 < Ng.length := (List.getElem?_eq_some_iff.mp hN0).1
          unfold L2.start
          simp [hsl]
        · cases j with
          | zero =>
            simp at hj
            subst hj
            refine ⟨.ref f, by unfold L2.start; rfl, ?_⟩
            unfold Rp
            rfl
          | succ j =>
            rw [List.getElem?_cons_succ, List.getElem?_replicate] at hj
            split at hj <;> cases hj
        · refine endF_out (keep := fb.keep) (E := fun _ _ _ => False) (g1.into' hp0 .refl (fun _ _ z => z)) ?_
          rw [gd.len]
          cases hq : endF fb.keep st.length (evSs (T5.hk (run F k') th) fb.body (some (.pin 0) :: List.replicate (fb.slots - 1) none) st) with
          | bad => rw [hq] at h; exact h.elim
          | err c ds s2 => rw [hq] at h; exact h.elim
          | ok d s2 =>
            rw [hq] at h
            simp only [endA] at h
            split at h
            · rename_i hc
              have hc' := Bool.and_eq_true_iff.mp hc
              exact fun y r2 G2 H2 l2 g2 hy => h y r2 G2 H2 (l1.trans l2) (g2.back hc'.2 (gd.flr.trans l2.pre) ((gd.flg.trans l1.ex).trans l2.ex)) (hy.back hc'.1)
            · exact h.elim
    refine wpAny_call (codeAny_mono rc fun res s2 hq => ?_)
    cases res with
    | error e =>
      obtain ⟨_, _, _, _, _, _, _, _, _, _, _, _, z⟩ := hq
      exact z.elim
    | ok fl =>
      cases fl with
      | ret u => exact I1.after hq
      | next => exact False.elim hq
      | brk => exact False.elim hq
      | cont => exact False.elim hq
end
end T5

set_option Elab.async false
set_option linter.all false
set_option maxRecDepth 100000
set_option maxHeartbeats 4000000
/-! T5: list(zip(a, b)): the zip's tuple is held by the list. -/
namespace PySem
open Sem (wp)
section
variable {prog : Program} {w : World} {A : Around} {E : Value → Shared → Prop} {s : Shared} {z TI TO T i1 i2 : Addr} {f : Bool} {oT : Obj} {fp1 fp2 : List Addr} {n1 n2 i : Nat} {P1 P2 : Nat → Value → Prop} {St1 St2 : Nat → Heap → Prop}
theorem t5_zh_item {Q : Value → Shared → Prop} (S : ZipSep2 z TI TO i1 i2 fp1 fp2) (D1 : Draws prog w A i1 fp1 n1 P1 St1) (D2 : Draws prog w A i2 fp2 n2 P2 St2)
    (hz : IsZipHeld s.heap z TI TO T f) (hT : s.heap.get? T = some oT) (hTI : IsTupOf2 s.heap TI (.ref i1) (.ref i2)) (st1 : St1 i s.heap) (st2 : St2 i s.heap) (hlt1 : i < n1) (hlt2 : i < n2)
    (hQ : ∀ x1 x2 h' tk, P1 i x1 → P2 i x2 → IsZipHeld h' z TI TO T true → St1 (i + 1) h' → St2 (i + 1) h' → IsTupOf2 h' s.heap.objs.size x1 x2 → h'.objs.size = s.heap.objs.size + 1 →
      (∀ c o, c ≠ z → c ≠ i1 → c ≠ i2 → s.heap.get? c = some o → h'.get? c = some o) → Q (.ref s.heap.objs.size) { s with heap := h', toks := tk }) :
    wpAny (model prog w) A (Builtin.«zip.__next__» ⟨[.ref z], []⟩) (fun fin s' => ∃ v, fin = .done (.ret v) ∧ Q v s') E s := by
  obtain ⟨hp, g, d, tk0, os⟩ := s
  show wpAny _ _ (field (.ref z) 2 >>= _) _ _ _
  refine wpAny_bind (wpAny_field hz rfl (x := .bool false) rfl ?_)
  show wpAny _ _ (field (.ref z) 3 >>= _) _ _ _
  refine wpAny_bind (wpAny_field hz rfl (x := .ref TI) rfl ?_)
  refine wpAny_bind (wpAny_seqItems hTI rfl ?_)
  show wpAny _ _ (Builtin.SmallTypes.ownedTupleIsFree (.ref z) >>= _) _ _ _
  refine wpAny_bind (wpAny_tupleHeld_zip hz hT fun h₁ hz₁ hs₁ => ?_)
  replace hs₁ : Heap.SameBut z hp h₁ := hs₁
  simp only [Bool.false_eq_true, if_false]
  refine wpAny_bind ?_
  rw [← Array.forIn_toList]
  simp only [List.forIn_cons, List.forIn_nil]
  refine wpAny_bind (wpAny_bind (wpAny_holding ?_))
  show wpAny _ _ (Builtin.SmallTypes.nextOf (.ref i1) >>= _) _ _ _
  refine wpAny_bind (D1.item i ⟨h₁, g, d, tk0, os⟩ _ _ hlt1 (D1.over st1 hs₁ S.zf1) fun x h₂ tk1 hx sn1 hs₂ => wpAny_pure ?_)
  replace hs₂ : Heap.SameBut i1 h₁ h₂ := hs₂
  refine wpAny_pure ?_
  refine wpAny_bind (wpAny_bind (wpAny_holding ?_))
  show wpAny _ _ (Builtin.SmallTypes.nextOf (.ref i2) >>= _) _ _ _
  refine wpAny_bind (D2.item i ⟨h₂, g, d, tk1, os⟩ _ _ hlt2 (D2.over (D2.over st2 hs₁ S.zf2) hs₂ S.sep1_2) fun y h₃ tk2 hy sn2 hs₃ => wpAny_pure ?_)
  replace hs₃ : Heap.SameBut i2 h₂ h₃ := hs₃
  refine wpAny_pure (wpAny_pure ?_)
  show wpAny _ _ (newTuple [x, y] >>= _) _ _ _
  refine wpAny_bind (wpAny_newTuple ?_)
  have hsz : h₃.objs.size = hp.objs.size := by rw [hs₃.1, hs₂.1, hs₁.1]
  have hz₃ : IsZipHeld h₃ z TI TO T true := hs₃.extBut _ _ S.zi2 (hs₂.extBut _ _ S.zi1 hz₁)
  have hk : ∀ c o, c ≠ z → c ≠ i1 → c ≠ i2 → hp.get? c = some o → h₃.get? c = some o := fun c o c1 c2 c3 e => hs₃.extBut _ _ c3 (hs₂.extBut _ _ c2 (hs₁.extBut _ _ c1 e))
  have hj1 : St1 (i + 1) h₃ := D1.over sn1 hs₃ S.sep2_1
  refine wpAny_pure ⟨_, rfl, ?_⟩
  show Q (.ref h₃.objs.size) _
  have hpp : IsTupOf2 (h₃.push { cls := .type "tuple", data := .seq #[x, y] }) h₃.objs.size x y := Heap.get?_push_size _ rfl
  have hz4 : (h₃.push { cls := .type "tuple", data := .seq #[x, y] }).objs.size = h₃.objs.size + 1 := Heap.size_push ..
  rw [hsz] at hpp hz4 ⊢
  exact hQ x y _ tk2 hx hy (Heap.get?_push_of_some _ hz₃) (D1.frame _ _ _ hj1 fun b _ o e => Heap.get?_push_of_some _ e) (D2.frame _ _ _ sn2 fun b _ o e => Heap.get?_push_of_some _ e) hpp hz4 fun c o c1 c2 c3 e => Heap.get?_push_of_some _ (hk c o c1 c2 c3 e)
theorem t5_zh_end {Q : Fin → Shared → Prop} (S : ZipSep2 z TI TO i1 i2 fp1 fp2) (D1 : Draws prog w A i1 fp1 n1 P1 St1) (D2 : Draws prog w A i2 fp2 n2 P2 St2)
    (hz : IsZipHeld s.heap z TI TO T f) (hT : s.heap.get? T = some oT) (hTI : IsTupOf2 s.heap TI (.ref i1) (.ref i2)) (st1 : St1 i s.heap) (st2 : St2 i s.heap) (hle1 : i ≤ n1) (hle2 : i ≤ n2) (hend : i = n1 ∨ i = n2)
    (hE : ∀ h' tk e, (∀ c o, c ≠ z → c ≠ i1 → c ≠ i2 → s.heap.get? c = some o → h'.get? c = some o) → (∃ o, h'.get? e = some o ∧ o.cls = .type "StopIteration") → E (.ref e) { s with heap := h', toks := tk }) :
    wpAny (model prog w) A (Builtin.«zip.__next__» ⟨[.ref z], []⟩) Q E s := by
  obtain ⟨hp, g, d, tk0, os⟩ := s
  show wpAny _ _ (field (.ref z) 2 >>= _) _ _ _
  refine wpAny_bind (wpAny_field hz rfl (x := .bool false) rfl ?_)
  show wpAny _ _ (field (.ref z) 3 >>= _) _ _ _
  refine wpAny_bind (wpAny_field hz rfl (x := .ref TI) rfl ?_)
  refine wpAny_bind (wpAny_seqItems hTI rfl ?_)
  show wpAny _ _ (Builtin.SmallTypes.ownedTupleIsFree (.ref z) >>= _) _ _ _
  refine wpAny_bind (wpAny_tupleHeld_zip hz hT fun h₁ hz₁ hs₁ => ?_)
  replace hs₁ : Heap.SameBut z hp h₁ := hs₁
  simp only [Bool.false_eq_true, if_false]
  refine wpAny_bind ?_
  rw [← Array.forIn_toList]
  simp only [List.forIn_cons, List.forIn_nil]
  refine wpAny_bind (wpAny_bind (wpAny_holding ?_))
  show wpAny _ _ (Builtin.SmallTypes.nextOf (.ref i1) >>= _) _ _ _
  by_cases h1 : i < n1
  · have h2 : i = n2 := by omega
    subst h2
    refine wpAny_bind (D1.item i ⟨h₁, g, d, tk0, os⟩ _ _ h1 (D1.over st1 hs₁ S.zf1) fun x h₂ tk1 hx sn1 hs₂ => wpAny_pure ?_)
    replace hs₂ : Heap.SameBut i1 h₁ h₂ := hs₂
    refine wpAny_pure ?_
    refine wpAny_bind (wpAny_bind (wpAny_holding ?_))
    show wpAny _ _ (Builtin.SmallTypes.nextOf (.ref i2) >>= _) _ _ _
    refine wpAny_bind (D2.done ⟨h₂, g, d, tk1, os⟩ _ _ (D2.over (D2.over st2 hs₁ S.zf2) hs₂ S.sep1_2) fun h₃ e hs₃ he => ?_)
    exact hE h₃ tk1 e (fun c o c1 c2 c3 x => hs₃ _ _ c3 (hs₂.extBut _ _ c2 (hs₁.extBut _ _ c1 x))) he
  · have h2 : i = n1 := by omega
    subst h2
    refine wpAny_bind (D1.done ⟨h₁, g, d, tk0, os⟩ _ _ (D1.over st1 hs₁ S.zf1) fun h₂ e hs₂ he => ?_)
    exact hE h₂ tk0 e (fun c o c1 c2 _ x => hs₂ _ _ c2 (hs₁.extBut _ _ c1 x)) he
/-- between two nexts -/
def t5_ZS (z TI TO i1 i2 L : Addr) (St1 St2 : Nat → Heap → Prop) (i : Nat) (h : Heap) : Prop :=
  IsTupOf2 h TI (.ref i1) (.ref i2) ∧ St1 i h ∧ St2 i h ∧ ((IsZip h z TI TO .none ∧ ∃ a b, IsTupOf2 h TO a b) ∨ ∃ T f oT, IsZipHeld h z TI TO T f ∧ h.get? T = some oT ∧ T ≠ z ∧ T ≠ i1 ∧ T ≠ i2 ∧ T ≠ L)
theorem t5_zs_item {L : Addr} {Q : Option Value → Shared → Prop} (S : ZipSep2 z TI TO i1 i2 fp1 fp2) (D1 : Draws prog w A.in1 i1 fp1 n1 P1 St1) (D2 : Draws prog w A.in1 i2 fp2 n2 P2 St2) (st : t5_ZS z TI TO i1 i2 L St1 St2 i s.heap) (hL : L < s.heap.objs.size) (hlt1 : i < n1) (hlt2 : i < n2)
    (hQ : ∀ x1 x2 h' tk, P1 i x1 → P2 i x2 → t5_ZS z TI TO i1 i2 L St1 St2 (i + 1) h' → IsTupOf2 h' s.heap.objs.size x1 x2 → h'.objs.size = s.heap.objs.size + 1 →
      (∀ c o, c ∉ [z, TI, TO, i1, i2] → s.heap.get? c = some o → h'.get? c = some o) → Q (some (.ref s.heap.objs.size)) { s with heap := h', toks := tk }) :
    wpAny (model prog w) A (pyNext (.ref z)) Q E s := by
  obtain ⟨hTI, st1, st2, hz⟩ := st
  have lt : ∀ {c o}, s.heap.get? c = some o → s.heap.objs.size ≠ c := fun e => Nat.ne_of_gt (Heap.lt_size e)
  have n1 : s.heap.objs.size ≠ i1 := let ⟨_, e⟩ := D1.live _ _ st1; lt e
  have n2 : s.heap.objs.size ≠ i2 := let ⟨_, e⟩ := D2.live _ _ st2; lt e
  have nm : ∀ {c : Addr}, c ∉ [z, TI, TO, i1, i2] → c ≠ z ∧ c ≠ TI ∧ c ≠ TO ∧ c ≠ i1 ∧ c ≠ i2 := fun h => by simpa using h
  rcases hz with ⟨hz, a, b, hTO⟩ | ⟨T, f, oT, hz, hT, r1, r2, r3, r4⟩
  · have hTy : s.TypeIs (.ref z) "zip" := ⟨_, hz, rfl⟩
    unfold pyNext
    refine wpAny_bind (wpAny_attempt (wpAny_callSpecial?_slot (name := Str.ofString "__next__") hTy F.slot_zip_next
      (wpAny_call_entry F.slot_zip_next hTy F.entry_zip_next
        (zipD2_next_item S D1 D2 hz hTI hTO st1 st2 hlt1 hlt2 fun x1 x2 h' tk p1 p2 a1 a2 a3 a4 a5 a6 hk => wpAny_pure ?_) (F.args_zip_next_1 _))))
    exact hQ x1 x2 h' tk p1 p2 ⟨hk _ _ S.TIz S.TITO S.TIi1 S.TIi2 hTI, a3, a4, .inr ⟨s.heap.objs.size, false, _, a1, a5, lt hz, n1, n2, Nat.ne_of_gt hL⟩⟩ a5 a6
      fun c o hc e => let ⟨c1, c2, c3, c4, c5⟩ := nm hc; hk c o c1 c3 c4 c5 e
  · have hTy : s.TypeIs (.ref z) "zip" := ⟨_, hz, rfl⟩
    unfold pyNext
    refine wpAny_bind (wpAny_attempt (wpAny_callSpecial?_slot (name := Str.ofString "__next__") hTy F.slot_zip_next
      (wpAny_call_entry F.slot_zip_next hTy F.entry_zip_next
        (t5_zh_item S D1 D2 hz hT hTI st1 st2 hlt1 hlt2 fun x1 x2 h' tk p1 p2 a1 a3 a4 a5 a6 hk => wpAny_pure ?_) (F.args_zip_next_1 _))))
    exact hQ x1 x2 h' tk p1 p2 ⟨hk _ _ S.TIz S.TIi1 S.TIi2 hTI, a3, a4, .inr ⟨T, true, oT, a1, hk _ _ r1 r2 r3 hT, r1, r2, r3, r4⟩⟩ a5 a6
      fun c o hc e => let ⟨c1, c2, c3, c4, c5⟩ := nm hc; hk c o c1 c4 c5 e
theorem t5_zs_end {L : Addr} {Q : Option Value → Shared → Prop} (S : ZipSep2 z TI TO i1 i2 fp1 fp2) (D1 : Draws prog w A.in1 i1 fp1 n1 P1 St1) (D2 : Draws prog w A.in1 i2 fp2 n2 P2 St2) (st : t5_ZS z TI TO i1 i2 L St1 St2 i s.heap) (hle1 : i ≤ n1) (hle2 : i ≤ n2) (hend : i = n1 ∨ i = n2)
    (hQ : ∀ h' tk, (∀ c o, c ∉ [z, TI, TO, i1, i2] → s.heap.get? c = some o → h'.get? c = some o) → Q none { s with heap := h', toks := tk }) :
    wpAny (model prog w) A (pyNext (.ref z)) Q E s := by
  obtain ⟨hTI, st1, st2, hz⟩ := st
  have nm : ∀ {c : Addr}, c ∉ [z, TI, TO, i1, i2] → c ≠ z ∧ c ≠ TI ∧ c ≠ TO ∧ c ≠ i1 ∧ c ≠ i2 := fun h => by simpa using h
  rcases hz with ⟨hz, a, b, hTO⟩ | ⟨T, f, oT, hz, hT, r1, r2, r3, r4⟩
  · have hTy : s.TypeIs (.ref z) "zip" := ⟨_, hz, rfl⟩
    unfold pyNext
    refine wpAny_bind (wpAny_attempt (wpAny_callSpecial?_slot (name := Str.ofString "__next__") hTy F.slot_zip_next
      (wpAny_call_entry F.slot_zip_next hTy F.entry_zip_next (zipD2_next_end S D1 D2 hz hTI hTO st1 st2 hle1 hle2 hend fun h' tk e hk he => ?_) (F.args_zip_next_1 _))))
    obtain ⟨o, ho, hc⟩ := he
    refine wpAny_bind (wpAny_isInstance (T := "StopIteration") (b := true) ⟨o, ho, hc⟩ isSubtype_stop ?_)
    exact wpAny_pure (hQ _ _ fun c o hc e => let ⟨c1, c2, c3, c4, c5⟩ := nm hc; hk c o c1 c3 c4 c5 e)
  · have hTy : s.TypeIs (.ref z) "zip" := ⟨_, hz, rfl⟩
    unfold pyNext
    refine wpAny_bind (wpAny_attempt (wpAny_callSpecial?_slot (name := Str.ofString "__next__") hTy F.slot_zip_next
      (wpAny_call_entry F.slot_zip_next hTy F.entry_zip_next (t5_zh_end S D1 D2 hz hT hTI st1 st2 hle1 hle2 hend fun h' tk e hk he => ?_) (F.args_zip_next_1 _))))
    obtain ⟨o, ho, hc⟩ := he
    refine wpAny_bind (wpAny_isInstance (T := "StopIteration") (b := true) ⟨o, ho, hc⟩ isSubtype_stop ?_)
    exact wpAny_pure (hQ _ _ fun c o hc e => let ⟨c1, c2, c3, c4, c5⟩ := nm hc; hk c o c1 c4 c5 e)
end
end PySem

set_option Elab.async false
set_option linter.all false
set_option maxRecDepth 100000
set_option maxHeartbeats 4000000
/-! T5: list(zip(a, b)), the loop and the rule. -/
namespace PySem
namespace F
theorem t5_zip_no_len : typeLookup (.type "zip") "__len__" = pure none := am_miss_of_fast (by decide +kernel)
theorem t5_zip_no_hint : typeLookup (.type "zip") "__length_hint__" = pure none := am_miss_of_fast (by decide +kernel)
end F
section
variable {prog : Program} {w : World} {A : Around} {z TI TO i1 i2 L : Addr} {fp1 fp2 : List Addr} {n1 n2 : Nat} {P1 P2 : Nat → Value → Prop} {St1 St2 : Nat → Heap → Prop}
structure t5_Off (L z TI TO : Addr) (fp1 fp2 : List Addr) : Prop where
  z : L ≠ z
  TI : L ≠ TI
  TO : L ≠ TO
  f1 : L ∉ fp1
  f2 : L ∉ fp2
theorem t5_zs_frame (D1 : Draws prog w A i1 fp1 n1 P1 St1) (D2 : Draws prog w A i2 fp2 n2 P2 St2) (o : t5_Off L z TI TO fp1 fp2) {i : Nat} {h h' : Heap} (st : t5_ZS z TI TO i1 i2 L St1 St2 i h) (k : ∀ b o, b ≠ L → h.get? b = some o → h'.get? b = some o) : t5_ZS z TI TO i1 i2 L St1 St2 i h' := by
  obtain ⟨hTI, st1, st2, hz⟩ := st
  refine ⟨k _ _ (Ne.symm o.TI) hTI, D1.frame _ _ _ st1 fun b hb o' e => k b o' (fun q => o.f1 (q ▸ hb)) e, D2.frame _ _ _ st2 fun b hb o' e => k b o' (fun q => o.f2 (q ▸ hb)) e, ?_⟩
  rcases hz with ⟨hz, a, b, hTO⟩ | ⟨T, f, oT, hz, hT, r1, r2, r3, r4⟩
  · exact .inl ⟨k _ _ (Ne.symm o.z) hz, a, b, k _ _ (Ne.symm o.TO) hTO⟩
  · exact .inr ⟨T, f, oT, k _ _ (Ne.symm o.z) hz, k _ _ r4 hT, r1, r2, r3, r4⟩
theorem t5_zl_loop {R : Result → Shared → Prop} {res : Value} (S : ZipSep2 z TI TO i1 i2 fp1 fp2) (D1 : Draws prog w A.in1.in1 i1 fp1 n1 P1 St1) (D2 : Draws prog w A.in1.in1 i2 fp2 n2 P2 St2) (o : t5_Off L z TI TO fp1 fp2) (hn : min n1 n2 ≤ sizeLine) (hLi1 : L ≠ i1) (hLi2 : L ≠ i2)
    (Jv : Nat → Shared → Array Value → Prop)
    (step : ∀ i s acc x y h' tk h'', i < min n1 n2 → L < s.heap.objs.size → Jv i s acc → P1 i x → P2 i y → IsTupOf2 h' s.heap.objs.size x y → h'.objs.size = s.heap.objs.size + 1 → (∀ c o, c ∉ [z, TI, TO, i1, i2] → s.heap.get? c = some o → h'.get? c = some o) → (∀ c o, c ≠ L → h'.get? c = some o → h''.get? c = some o) →
      Jv (i + 1) { s with heap := h'', toks := tk } (acc.push (.ref s.heap.objs.size)))
    (fin : ∀ s acc c h' tk, Jv (min n1 n2) s acc → acc.size = min n1 n2 → (∀ c o, c ∉ [z, TI, TO, i1, i2] → s.heap.get? c = some o → h'.get? c = some o) → h'.get? L = some { cls := .type "list", dict := none, data := .seq acc c, slots := #[] } → R (.ok (.ret res)) { s with heap := h', toks := tk }) :
    ∀ (k i : Nat) (s : Shared) (acc : Array Value) (c : Nat), min n1 n2 - i = k → i ≤ min n1 n2 → t5_ZS z TI TO i1 i2 L St1 St2 i s.heap → s.heap.get? L = some { cls := .type "list", dict := none, data := .seq acc c, slots := #[] } → acc.size = i → Jv i s acc →
    codeAny (model prog w) A (.builtin "list.extend.loop" ⟨[.ref L, .ref z, res], []⟩) R s := by
  have hLm : L ∉ [z, TI, TO, i1, i2] := by simp [o.z, o.TI, o.TO, hLi1, hLi2]
  intro k
  induction k with
  | zero =>
    intro i s acc c hk hi hst hS hacc hJ
    have hin : i = min n1 n2 := by omega
    refine codeAny_builtin F.entry_extend_loop ?_
    rw [Around.under_plainId F.plain_extend_loop _]
    show wpAny _ A.in1 (pyNext (.ref z) >>= _) _ _ s
    refine wpAny_bind (t5_zs_end S D1 D2 hst (by omega) (by omega) (by omega) fun h' tk hk => ?_)
    rw [hin] at hJ hacc
    exact wpAny_pure (fin s acc c h' tk hJ hacc hk (hk L _ hLm hS))
  | succ k ih =>
    intro i s acc c hk hi hst hS hacc hJ
    have hlt : i < min n1 n2 := by omega
    refine codeAny_builtin F.entry_extend_loop ?_
    rw [Around.under_plainId F.plain_extend_loop _]
    show wpAny _ A.in1 (pyNext (.ref z) >>= _) _ _ s
    refine wpAny_bind (t5_zs_item S D1 D2 hst (Heap.lt_size hS) (by omega) (by omega) fun x y h' tk p1 p2 hst' hT hsz hkp => ?_)
    have hS' := hkp L _ hLm hS
    show wpAny _ A.in1 (updateSeq L (·.push (.ref s.heap.objs.size)) >>= _) _ _ { s with heap := h', toks := tk }
    refine wpAny_bind ?_
    have oth : ∀ c o, c ≠ L → h'.get? c = some o → (h'.update L (Obj.mapSeq (·.push (.ref s.heap.objs.size)))).get? c = some o := fun b o hb e => (Heap.get?_update_other _ _ (Ne.symm hb)).trans e
    refine wpAny_updateSeq hS' rfl (wpAny_pure ⟨plainId_quiet F.plain_extend_loop _, ih (i + 1) _ (acc.push (.ref s.heap.objs.size)) _ (by omega) hlt (t5_zs_frame D1 D2 o hst' oth) (Heap.get?_update_self _ hS' rfl) (by rw [Array.size_push, hacc]) (step i s acc x y h' tk _ hlt (Heap.lt_size hS) hJ p1 p2 hT hsz hkp oth)⟩)
      (by rw [hacc]; omega) (by show (acc.push (.ref s.heap.objs.size)).size ≤ sizeLine + 1; rw [Array.size_push, hacc]; omega)
/-- list(zip) -/
theorem t5_list_zip {s : Shared} {Q : Value → Shared → Prop} {E : Value → Shared → Prop} (hL : L = s.heap.objs.size) (S : ZipSep2 z TI TO i1 i2 fp1 fp2) (D1 : Draws prog w A.in1.in1.in1 i1 fp1 n1 P1 St1) (D2 : Draws prog w A.in1.in1.in1 i2 fp2 n2 P2 St2) (o : t5_Off L z TI TO fp1 fp2) (hn : min n1 n2 ≤ sizeLine) (hLi1 : L ≠ i1) (hLi2 : L ≠ i2)
    (hst : t5_ZS z TI TO i1 i2 L St1 St2 0 s.heap) (hz : IsZip s.heap z TI TO .none)
    (Jv : Nat → Shared → Array Value → Prop) (h0 : ∀ h', (∀ c o, s.heap.get? c = some o → h'.get? c = some o) → Jv 0 { s with heap := h' } #[])
    (step : ∀ i s acc x y h' tk h'', i < min n1 n2 → L < s.heap.objs.size → Jv i s acc → P1 i x → P2 i y → IsTupOf2 h' s.heap.objs.size x y → h'.objs.size = s.heap.objs.size + 1 → (∀ c o, c ∉ [z, TI, TO, i1, i2] → s.heap.get? c = some o → h'.get? c = some o) → (∀ c o, c ≠ L → h'.get? c = some o → h''.get? c = some o) →
      Jv (i + 1) { s with heap := h'', toks := tk } (acc.push (.ref s.heap.objs.size)))
    (fin : ∀ s acc c h' tk, Jv (min n1 n2) s acc → acc.size = min n1 n2 → (∀ c o, c ∉ [z, TI, TO, i1, i2] → s.heap.get? c = some o → h'.get? c = some o) → h'.get? L = some { cls := .type "list", dict := none, data := .seq acc c, slots := #[] } → Q (.ref L) { s with heap := h', toks := tk }) :
    wpAny (model prog w) A (call (.type "list") [.ref z]) Q E s := by
  subst hL
  have hSz : s.heap.objs.size ≠ z := o.z
  refine callType_codes (Q₁ := fun obj s₁ => obj = .ref s.heap.objs.size ∧ s₁ = { s with heap := s.heap.push { cls := .type "list", data := .seq #[] } }) F.called_list (F.typeCall_list_1 _) F.entry_list_init
    (code_list_new _ ⟨rfl, rfl⟩) fun obj s₁ h₁ => ?_
  obtain ⟨rfl, rfl⟩ := h₁
  have hS : (s.heap.push { cls := .type "list", data := .seq #[] }).get? s.heap.objs.size = some { cls := .type "list", data := .seq #[] } := Heap.get?_push_size _ rfl
  refine ⟨⟨_, hS, rfl⟩, F.args_list_init_2 _ _, ?_⟩
  show wpAny _ A.in1.in1 (do let old ← Builtin.List.listItems (.ref s.heap.objs.size); Builtin.List.listUpdate (.ref s.heap.objs.size) (fun _ => #[]); letGo old.toList.reverse; Builtin.List.listExtendWith (.ref s.heap.objs.size) (.ref z) .none) _ _ _
  refine wpAny_bind ?_
  unfold Builtin.List.listItems
  refine wpAny_bind (wpAny_seqItems hS rfl (wpAny_pure ?_))
  show wpAny _ A.in1.in1 (updateSeq s.heap.objs.size (fun _ => #[]) >>= fun _ => letGo (#[] : Array Value).toList.reverse >>= fun _ => Builtin.List.listExtendWith (.ref s.heap.objs.size) (.ref z) .none) _ _ _
  refine wpAny_bind (wpAny_updateSeq hS rfl ?_)
  have hS2 := Heap.get?_update_self (Obj.mapSeq (fun _ => (#[] : Array Value))) hS rfl
  refine wpAny_bind (wpAny_letGo ?_)
  unfold Builtin.List.listExtendWith
  have up : ∀ (h : Heap) (f : Obj → Obj), (∀ b o, s.heap.get? b = some o → h.get? b = some o) → ∀ b o, s.heap.get? b = some o → (h.update s.heap.objs.size f).get? b = some o := fun h f q b o e =>
    (Heap.get?_update_other _ _ (Ne.symm (Nat.ne_of_lt (Heap.lt_size e)))).trans (q b o e)
  have k1 : ∀ b o, s.heap.get? b = some o → (s.heap.push { cls := .type "list", data := .seq #[] }).get? b = some o := fun b o e => Heap.get?_push_of_some _ e
  have k2 := up _ (Obj.mapSeq (fun _ => (#[] : Array Value))) k1
  have ty : ∀ {h : Heap}, (∀ b o, s.heap.get? b = some o → h.get? b = some o) → ({ s with heap := h } : Shared).TypeIs (.ref z) "zip" := fun {h} q => ⟨_, q _ _ hz, rfl⟩
  refine wpAny_bind (wpAny_typeOf (ty k2) ?_)
  have h1 : Builtin.List.listSameRef (.ref s.heap.objs.size) (.ref z) = false := by simp [Builtin.List.listSameRef, hSz]
  have h2 : (Value.type "zip" == Value.type "list") = false := by decide
  have h3 : (Value.type "zip" == Value.type "tuple") = false := by decide
  simp only [h1, h2, h3, Bool.or_false, Bool.false_eq_true, if_false]
  refine wpAny_bind (wpAny_pyIter_zip (k2 _ _ hz) ?_)
  refine wpAny_bind (wpAny_holding ?_)
  unfold Builtin.List.listLengthHint
  refine wpAny_bind (wpAny_specialOf (ty k2) F.t5_zip_no_len ?_)
  show wpAny _ A.in1.in1 (specialOf (Value.ref z) (Str.ofString "__length_hint__") >>= _) _ _ _
  refine wpAny_bind (wpAny_specialOf (ty k2) F.t5_zip_no_hint ?_)
  refine wpAny_pure ?_
  show wpAny _ A.in1.in1 (rule "list.extend.makes-room" >>= fun _ => Builtin.List.listTouch (.ref s.heap.objs.size) >>= fun _ =>
    again (.builtin "list.extend.loop" ⟨[.ref s.heap.objs.size, .ref z, .none], []⟩)) _ _ _
  refine wpAny_bind (wpAny_rule ?_)
  refine wpAny_bind ?_
  show wpAny _ A.in1.in1 (updateSeq s.heap.objs.size (·.push .none) >>= fun _ => updateSeq s.heap.objs.size (·.pop)) _ _ _
  refine wpAny_bind (wpAny_updateSeq hS2 rfl ?_)
  have hS3 := Heap.get?_update_self (Obj.mapSeq (·.push Value.none)) hS2 rfl
  refine wpAny_updateSeq (hz := by seq_fits) hS3 rfl ?_
  have hS4 := Heap.get?_update_self (Obj.mapSeq (·.pop)) hS3 rfl
  have k4 := up _ (Obj.mapSeq (·.pop)) (up _ (Obj.mapSeq (·.push Value.none)) k2)
  refine wpAny_pure ⟨plainId_quiet F.plain_extend_loop _, ?_⟩
  exact t5_zl_loop (A := A.in1) S D1 D2 o hn hLi1 hLi2 Jv step (fun s' acc c h' tk j1 j2 j3 j4 => ⟨rfl, fin s' acc c h' tk j1 j2 j3 j4⟩) _ 0 _ _ _ rfl (Nat.zero_le _) (t5_zs_frame D1 D2 o hst fun b o _ e => k4 b o e) hS4 rfl (h0 _ k4)
end
end PySem

set_option Elab.async false
set_option linter.all false
set_option maxRecDepth 100000
set_option maxHeartbeats 4000000
/-! T5: list(zip(a, b)), the rule and its reading. -/
namespace T5
open PySem PySem.Spec PyProof.Rows L2
open Evl (Ex)
section
variable {X : Cx} {pins : List (Addr × Obj)} {σ : L2.St} {H : Hp} {s : Shared} {h' : Heap}
/-- one of the records that turn becomes known -/
theorem t5_known {t' : Nat} {ch : List Addr} {T : Addr} {ob : HO} (I : Inv X pins σ H s) (k : ∀ b o, b ∉ ch → s.heap.get? b = some o → h'.get? b = some o) (hf : ∀ b ∈ ch, FpOk X pins H b) (hT : T ∈ ch)
    (new : ObjOk X.prog X.w (upd H T ob) h' T ob) : Inv X pins σ (upd H T ob) { s with heap := h', toks := t' } := by
  have hn : H T = none := (hf T hT).1
  have nit : ∀ b u, H b = some u → b ∉ ch := fun b u e z => by
    have q := (hf b z).1
    rw [q] at e; cases e
  refine I.step (g' := s.gens) (d' := s.drawn) (ch := ch) (fun b hb => ⟨(hf b hb).2.2.2.1, (hf b hb).2.1, (hf b hb).2.2.2.2.1, (hf b hb).2.2.2.2.2⟩) (fun b o _ _ hc e _ => k b o hc e) (fun b o _ _ hc e _ => ⟨o.slots, k b o hc e⟩)
    (fun b o hb e n => ?_) (fun b o hc e => ⟨o, k b o hc e⟩) (fun b xs e => ?_) (fun b o u e => ?_) (fun b ps e => ⟨#[], ?_⟩) (fun m hm => ?_) (fun b u e => ?_) I.bare
  · rw [upd_ne (fun z => hb (by rw [z]; exact hT))]; exact n
  · rw [upd_ne (ne_of_none e hn)]; exact e
  · rw [upd_ne (ne_of_none e hn)]; exact e
  · rw [upd_ne (ne_of_none e hn), e]; simp
  · obtain ⟨o, es, ep, ho, r⟩ := hm
    exact ⟨o, es, ep, k _ o (fun z => (hf _ z).2.1 rfl) ho, r⟩
  · by_cases hb : b = T
    · subst hb
      rw [upd_same] at e
      cases e
      exact new
    · rw [upd_ne hb] at e
      refine (I.hok b u e).stay (fun c v hc q => k c v ?_ q) (fun c q => by rw [upd_ne (ne_of_none q hn)]; exact q) fun c xs q => by rw [upd_ne (ne_of_none q hn)]; exact q
      rcases hc with z | z
      · rw [z]; exact nit b u e
      · exact nit c _ z
/-- what a list or a tuple gives to an iterator -/
theorem t5_src {a : Addr} {xs : List V} (I : Inv X pins σ H s) (hq : SqL X.K H a xs ∨ SqT X.K H a xs) : ∃ (its : List Value) (o : Obj) (Hh : Heap → Prop) (St : Addr → Nat → Heap → Prop), Vals xs its ∧ its.length ≤ sizeLine ∧ Begins (.ref a) o Hh ∧ Hh s.heap ∧ a < s.heap.objs.size ∧
    (∀ prog w A it, A.handled = none → a ≠ it → Draws prog w A it [it, a] its.length (fun i v => its[i]? = some v) (St it)) ∧ ∀ h it, h.get? it = some o → Hh h → St it 0 h := by
  rcases hq with hq | hq
  · obtain ⟨its, rv, p, hz⟩ := I.list hq
    refine ⟨its, _, _, fun it i h => h.IsListIter it a i ∧ h.IsList a its.toArray, rv, by rw [← rv.length]; exact hz, begins_list a its.toArray, p.isList, p.lt, fun prog w A it hh hne => ?_, fun h it e e2 => ⟨⟨_, e, rfl, rfl⟩, e2⟩⟩
    have := Draws.list (prog := prog) (w := w) hh it a hne its.toArray
    simpa using this
  · obtain ⟨its, rv, p, hz⟩ := I.tuple hq
    have p' : s.heap.IsTuple a its.toArray := p
    refine ⟨its, _, _, fun it i h => h.IsTupleIter it a i ∧ h.IsTuple a its.toArray, rv, by rw [← rv.length]; exact hz, begins_tuple a its.toArray, p', (by obtain ⟨o, ho, _⟩ := id p'; exact Heap.lt_size ho), fun prog w A it hh hne => ?_, fun h it e e2 => ⟨⟨_, e, rfl, rfl⟩, e2⟩⟩
    have := Draws.tuple (prog := prog) (w := w) hh it a hne its.toArray
    simpa using this
end
theorem in6 {N c : Nat} (hcm : c ∈ [N + 4, N + 2, N + 3, N, N + 1, N + 5]) : N ≤ c ∧ c ≤ N + 5 := by
  have e' : c = N + 4 ∨ c = N + 2 ∨ c = N + 3 ∨ c = N ∨ c = N + 1 ∨ c = N + 5 := by simpa using hcm
  omega
theorem n5 {N c : Nat} (h : c < N + 5) : N + 5 ≠ c := Nat.ne_of_gt h
theorem f2 {N c d : Nat} (h1 : c < N + 5) (h2 : d < N + 5) : N + 5 ∉ [c, d] := fun z => by
  have z : N + 5 = c ∨ N + 5 = d := by simpa using z
  omega
theorem ltN5 {N : Nat} : N < N + 5 ∧ N + 1 < N + 5 ∧ N + 2 < N + 5 ∧ N + 3 < N + 5 ∧ N + 4 < N + 5 := by omega
theorem up5 {N c : Nat} (h : c < N) : c < N + 5 := by omega
/-- new pairs, one behind another -/
inductive ZT (xs ys : List V) (H0 : Hp) : Nat → Hp → List V → Prop where
  | zero : ZT xs ys H0 0 H0 []
  | succ {i : Nat} {H : Hp} {ps : List V} {x y : V} {p : Addr} : ZT xs ys H0 i H ps → xs[i]? = some x → ys[i]? = some y → H p = none → ZT xs ys H0 (i + 1) (upd H p (.tup [x, y])) (ps ++ [.ref p])
theorem ZT.len {xs ys : List V} {H0 H : Hp} {i : Nat} {ps : List V} (z : ZT xs ys H0 i H ps) : ps.length = i := by
  induction z with
  | zero => rfl
  | succ _ _ _ _ ih => simp [ih]
def tLz (K : PySem.W.Frag) (ta : TA) : TE := fun σ H Q => ta σ H fun vs H1 => ∃ a b xs ys, vs = [.ref a, .ref b] ∧ (SqL K H1 a xs ∨ SqT K H1 a xs) ∧ (SqL K H1 b ys ∨ SqT K H1 b ys) ∧
  ∀ H2 ps L, ZT xs ys H1 (min xs.length ys.length) H2 ps → H2 L = none → Q (.ref L) (upd H2 L (.lst ps))
theorem pe_lz {X : Cx} {e e2 : Expr} {ta : TA} {p p2 q pos : Pos} (hc : X.calm = true) (hg : Gl X "list") (hm : X.mg "list" = none) (hg2 : Gl X "zip") (hm2 : X.mg "zip" = none) (ha : PA X [e, e2] ta)
    (hs : starEach [e, e2] X.env = (false, eval e X.env) :: starEach [e2] X.env) (hpl : (backTo q (starEach [e2] X.env)).any (·.1) = false) :
    PE X (.Call (.Name "list" p) [.Call (.Name "zip" p2) [e, e2] [] q] [] pos) (tLz X.K ta) := by
  refine ⟨fun pins s σ H Q I h => ?_⟩
  have na : starEach [Expr.Call (.Name "zip" p2) [e, e2] [] q] X.env = (false, eval (.Call (.Name "zip" p2) [e, e2] [] q) X.env) :: starEach [] X.env := rfl
  refine Call_ (ld_blt I hg hm boot_list (PyProof.Rows.callWith_type1 (args_cons (Call_ (ld_blt I hg2 hm2 PyProof.Rows.boot_zip (PyProof.Rows.callWith_type1 (thn (ha.run q pins s σ H _ I h) fun us s1 ⟨vs, H1, I1, r1, q1⟩ => ?_) hs hpl))) na) na))
  obtain ⟨a, b, xs, ys, ex, hqx, hqy, q1⟩ := q1
  subst ex
  cases r1 with
  | cons r rr =>
    cases rr with
    | cons r' rr =>
      cases rr
      cases r
      cases r'
      obtain ⟨its, o1, Hh1, St1, rv1, z1, B1, hh1, lt1, D1, st1⟩ := t5_src I1 hqx
      obtain ⟨its2, o2, Hh2, St2, rv2, z2, B2, hh2, lt2, D2, st2⟩ := t5_src I1 hqy
      refine zip_begins2 B1 B2 hh1 hh2 fun h' hz hTI hTO h1 h2 hsz hk => args_nil ?_
      have I2 : Inv X pins σ H1 { s1 with heap := h' } := I1.kept (t' := s1.toks) hk
      have l1 := rv1.length
      have l2 := rv2.length
      generalize hN : s1.heap.objs.size = N at *
      have fr : ∀ c, N ≤ c → FpOk X pins H1 c := fun c hle => I1.fpOk (by rw [hN]; exact hle) (I1.hok.fresh (by rw [hN]; exact hle))
      have hL : (N + 5 : Nat) = ({ s1 with heap := h' } : Shared).heap.objs.size := hsz.symm
      refine t5_list_zip (L := N + 5) (n1 := its.length) (n2 := its2.length) hL (zip_sep2 (fp1 := [a]) (fp2 := [b]) (by simpa using lt1) (by simpa using lt2)) (D1 X.prog X.w _ N (I2.ok.hd hc) (Nat.ne_of_lt lt1)) (D2 X.prog X.w _ (N + 1) (I2.ok.hd hc) (Nat.ne_of_lt (Nat.lt_succ_of_lt lt2)))
        ⟨n5 ltN5.2.2.2.2, n5 ltN5.2.2.1, n5 ltN5.2.2.2.1, f2 ltN5.1 (up5 lt1), f2 ltN5.2.1 (up5 lt2)⟩ (Nat.le_trans (Nat.min_le_left ..) z1) (n5 ltN5.1) (n5 ltN5.2.1) ⟨hTI, st1 _ _ h1 (B1.keeps _ _ hh1 hk), st2 _ _ h2 (B2.keeps _ _ hh2 hk), .inl ⟨hz, _, _, hTO⟩⟩ hz
        (fun i s acc => ∃ H2 ps, Inv X pins σ H2 s ∧ ZT xs ys H1 i H2 ps ∧ Vals ps acc.toList ∧ ∀ c ∈ [N + 4, N + 2, N + 3, N, N + 1, N + 5], FpOk X pins H2 c)
        (fun h2 hk2 => ⟨H1, [], I2.kept (t' := s1.toks) hk2, .zero, .nil, fun c hcm => fr c (in6 hcm).1⟩) (fun i s acc x y h3 tk h4 hi hlt ⟨H2, ps, J, zt, va, hf⟩ px py hT hs3 k3 k4 => ?_) (fun s acc c h3 tk ⟨H2, ps, J, zt, va, hf⟩ hsz3 k3 e3 => ?_)
      · have hi1 : i < xs.length := by omega
        have hi2 : i < ys.length := by omega
        have hx : xs[i]? = some xs[i] := List.getElem?_eq_getElem hi1
        have hy : ys[i]? = some ys[i] := List.getElem?_eq_getElem hi2
        obtain ⟨u1, e1, ru1⟩ := rv1.get hx
        obtain ⟨u2, e2', ru2⟩ := rv2.get hy
        have q1 : x = u1 := by rw [e1] at px; exact (Option.some.inj px).symm
        have q2 : y = u2 := by rw [e2'] at py; exact (Option.some.inj py).symm
        subst q1 q2
        have hfr : H2 s.heap.objs.size = none := J.hok.fresh (Nat.le_refl _)
        have hT4 : h4.get? s.heap.objs.size = some { cls := .type "tuple", data := .seq #[x, y] } := k4 _ _ (Nat.ne_of_gt hlt) hT
        have new : ObjOk X.prog X.w (upd H2 s.heap.objs.size (.tup [xs[i], ys[i]])) h4 s.heap.objs.size (.tup [xs[i], ys[i]]) :=
          ⟨by show 2 ≤ sizeLine; decide, [x, y], .cons ru1 (.cons ru2 .nil), ⟨_, hT4, rfl, _, rfl⟩⟩
        refine ⟨_, ps ++ [.ref s.heap.objs.size], J.turnedNew (t' := tk) (ch := [N + 4, N + 2, N + 3, N, N + 1, N + 5]) (fun c o hcm e => k4 c o (fun z => hcm (by simp [z])) (k3 c o (fun z => hcm (by
          have z' : c = N + 4 ∨ c = N + 2 ∨ c = N + 3 ∨ c = N ∨ c = N + 1 := by simpa using z
          rcases z' with z | z | z | z | z <;> simp [z])) e)) hf (Nat.le_refl _) new, .succ zt hx hy hfr, ?_, fun c hcm => ?_⟩
        · rw [Array.toList_push]
          exact va.append (.cons rfl .nil)
        · obtain ⟨m1, m2⟩ := hf c hcm
          refine ⟨?_, m2⟩
          rw [upd_ne (Nat.ne_of_lt (Nat.lt_of_le_of_lt (in6 hcm).2 hlt))]
          exact m1
      · have hmin : min its.length its2.length = min xs.length ys.length := by rw [l1, l2]
        have new : ObjOk X.prog X.w (upd H2 (N + 5) (.lst ps)) h3 (N + 5) (.lst ps) := by
          refine ⟨?_, acc.toList, c, va, ?_⟩
          · rw [zt.len]; exact Nat.le_trans (Nat.min_le_left ..) z1
          · rw [Array.toArray_toList]; exact e3
        refine ⟨.ref (N + 5), _, t5_known (t' := tk) (ch := [N + 4, N + 2, N + 3, N, N + 1, N + 5]) J (fun c o hcm e => k3 c o (fun z => hcm (by
          have z' : c = N + 4 ∨ c = N + 2 ∨ c = N + 3 ∨ c = N ∨ c = N + 1 := by simpa using z
          rcases z' with z | z | z | z | z <;> simp [z])) e) hf (by simp) new, rfl, q1 H2 ps (N + 5) (hmin ▸ zt) (hf _ (by simp)).1⟩
section
variable {K : PySem.W.Frag} {T : Tb} {r : List Addr} {G H1 : Hp} {s : Sto}
theorem zipL_snoc : ∀ (i : Nat) {a b : List D} {x y : D}, a[i]? = some x → b[i]? = some y → zipL (a.take (i + 1)) (b.take (i + 1)) = zipL (a.take i) (b.take i) ++ [.tup [x, y]]
  | _, [], _, _, _, h, _ => by simp at h
  | _, _ :: _, [], _, _, _, h => by simp at h
  | 0, a :: r, b :: t, x, y, h, h' => by
    simp at h h'
    subst h h'
    simp [zipL]
  | i + 1, a :: r, b :: t, x, y, h, h' => by
    rw [List.getElem?_cons_succ] at h h'
    rw [List.take_succ_cons, List.take_succ_cons, List.take_succ_cons, List.take_succ_cons]
    unfold zipL
    rw [zipL_snoc i h h']
    rfl
theorem zt_ok {xs ys : List V} {ds es : List D} (g : Gd K T r G H1 s) (k1 : RpL K T r G ds xs) (k2 : RpL K T r G es ys) {i : Nat} {H2 : Hp} {ps : List V} (z : ZT xs ys H1 i H2 ps) : ∃ G', Le r G H1 r G' H2 ∧ Gd K T r G' H2 s ∧ RpL K T r G' (zipL (ds.take i) (es.take i)) ps := by
  induction z with
  | zero => exact ⟨G, Le.refl, g, by simp [zipL]; exact .nil⟩
  | @succ i H ps x y p z hx hy hp ih =>
    obtain ⟨G1, l1, g1, h1⟩ := ih
    obtain ⟨d, e1, e2⟩ := k1.getV hx
    obtain ⟨d', e3, e4⟩ := k2.getV hy
    obtain ⟨G2, l2, g2, h2⟩ := new_pair g1 hp (e2.le l1) (e4.le l1)
    refine ⟨G2, l1.trans l2, g2, ?_⟩
    rw [zipL_snoc i e1 e3]
    exact (h1.le l2).snoc h2
theorem zipL_all : ∀ (a b : List D), zipL (a.take (min a.length b.length)) (b.take (min a.length b.length)) = zipL a b
  | [], b => by simp [zipL]
  | a :: r, [] => by simp [zipL]
  | a :: r, b :: t => by
    have : min (a :: r).length (b :: t).length = min r.length t.length + 1 := by simp only [List.length_cons]; omega
    rw [this, List.take_succ_cons, List.take_succ_cons]
    unfold zipL
    rw [zipL_all r t]
theorem seq_at {d : D} {v : V} {ds : List D} (g : Gd K T r G H1 s) (h : seqOf (rd s d) = some ds) (hv : Rp K T r G d v) : ∃ a xs, v = .ref a ∧ (SqL K H1 a xs ∨ SqT K H1 a xs) ∧ RpL K T r G ds xs := by
  have hr := Rr.rd g hv
  generalize rd s d = d' at h hr
  cases d' <;> first | (cases h; done) | skip
  · cases h
    obtain ⟨p, xs, rfl, e1, e1', e2⟩ := rr_tup g hr
    exact ⟨p, xs, rfl, .inr e1, e2⟩
  · cases h
    obtain ⟨p, xs, rfl, e1, e2⟩ := rr_lst hr
    exact ⟨p, xs, rfl, .inl (SqL.of e1), e2⟩
end
theorem gf_lz {X : Cx} {T : Tb} {W : WX} {cl : Calls} {a b : Expr} {ca cb : CE} {p p2 q pos : Pos} (hc : X.calm = true) (hg : Gl X "list") (hm : X.mg "list" = none) (hg2 : Gl X "zip") (hm2 : X.mg "zip" = none) (ha : PE X a (tE X.K T W cl ca)) (hb : PE X b (tE X.K T W cl cb))
    (hs : starEach [a, b] X.env = (false, eval a X.env) :: starEach [b] X.env) (hs2 : starEach [b] X.env = (false, eval b X.env) :: starEach [] X.env) :
    PE X (.Call (.Name "list" p) [.Call (.Name "zip" p2) [a, b] [] q] [] pos) (tF X.K T W cl (.lz ca cb)) :=
  imp_e (pe_lz hc hg hm hg2 hm2 (gl_cons ha (gl_cons hb gl_nil hs2) hs) hs (by rw [hs2]; rfl)) fun σ H Q ⟨env, s, r, G, g, ee, h⟩ => ⟨env, s, r, G, g, ee, by
    simp only [evE] at h
    simp only [evEs]
    cases hq : evE cl ca env s with
    | bad => rw [hq] at h; exact h.elim
    | err c ds s1 => rw [hq] at h; exact h
    | ok d s1 =>
      rw [hq] at h
      simp only [R.bind] at h
      show Out X.K T (RpL X.K T) W σ _ r G H (((evE cl cb env s1).bind fun d2 s2 => .ok [d2] s2).bind fun ds s2 => .ok (d :: ds) s2)
      cases hq2 : evE cl cb env s1 with
      | bad => rw [hq2] at h; exact h.elim
      | err c ds s2 => rw [hq2] at h; exact h
      | ok d2 s2 =>
        rw [hq2] at h
        simp only at h
        split at h
        · rename_i ds es h1 h2
          show Out X.K T (RpL X.K T) W σ _ r G H (.ok [d, d2] s2)
          intro y r' G' H' l g' hy
          obtain ⟨v, t, rfl, m1, m2⟩ := hy.cons_inv
          obtain ⟨v2, t2, rfl, m3, m4⟩ := m2.cons_inv
          have := m4.nil_inv
          subst this
          obtain ⟨pa, xs, rfl, k1, k2⟩ := seq_at g' h1 m1
          obtain ⟨pb, ys, rfl, k3, k4⟩ := seq_at g' h2 m3
          refine ⟨pa, pb, xs, ys, rfl, k1, k3, fun H2 ps L zt hL => ?_⟩
          obtain ⟨G2, l2, g2, h3⟩ := zt_ok g' k2 k4 zt
          rw [k2.length, k4.length, zipL_all] at h3
          exact h L ps r' G2 H2 (l.trans l2) g2 h3 hL
        · exact h.elim⟩
theorem lz_lists {cl : Calls} {ca cb : CE} : Lists cl (.lz ca cb) := fun env s d s' h => by
  simp only [evE] at h
  cases hq : evE cl ca env s with
  | bad => rw [hq] at h; cases h
  | err c ds s1 => rw [hq] at h; cases h
  | ok d1 s1 =>
    rw [hq] at h
    simp only [R.bind] at h
    cases hq2 : evE cl cb env s1 with
    | bad => rw [hq2] at h; cases h
    | err c ds s2 => rw [hq2] at h; cases h
    | ok d2 s2 =>
      rw [hq2] at h
      simp only at h
      split at h
      · cases h; exact ⟨_, rfl⟩
      · cases h
end T5

set_option Elab.async false
set_option linter.all false
set_option maxRecDepth 100000
set_option maxHeartbeats 4000000
/-! T5: for .. in zip(a, b), lists and tuples mixed. -/
namespace T5
open PySem PySem.Spec PyProof.Rows L2
open Evl (Ex)
def ItP (t : Bool) (h : Heap) (it a : Addr) (i : Nat) : Prop := match t with
  | true => h.IsTupleIter it a i
  | false => h.IsListIter it a i
def SqB (K : PySem.W.Frag) (t : Bool) (H : Hp) (a : Addr) (xs : List V) : Prop := match t with
  | true => SqT K H a xs
  | false => SqL K H a xs
theorem ItP.at {t : Bool} {h h' : Heap} {it a : Addr} {i : Nat} (x : ItP t h it a i) (k : ∀ o, h.get? it = some o → h'.get? it = some o) : ItP t h' it a i := by
  cases t
  · exact Heap.IsListIter.at x k
  · exact Heap.IsTupleIter.at x k
theorem ItP.obj {t : Bool} {h : Heap} {it a : Addr} {i : Nat} (x : ItP t h it a i) : ∃ o, h.get? it = some o ∧ ∀ v, o.data ≠ .cell v := by
  cases t
  · obtain ⟨o, e, _, d⟩ := (show h.IsListIter it a i from x); exact ⟨o, e, fun v q => by rw [d] at q; cases q⟩
  · obtain ⟨o, e, _, d⟩ := (show h.IsTupleIter it a i from x); exact ⟨o, e, fun v q => by rw [d] at q; cases q⟩
section
variable {X : Cx} {pins : List (Addr × Obj)} {σ : L2.St} {H : Hp} {s : Shared}
theorem t5_drw {t : Bool} {a : Addr} {xs : List V} (I : Inv X pins σ H s) (hq : SqB X.K t H a xs) : ∃ (its : List Value) (Hh : Heap → Prop), Vals xs its ∧ Hh s.heap ∧ a < s.heap.objs.size ∧
    ∀ prog w A it, A.handled = none → a ≠ it → Draws prog w A it [it, a] its.length (fun i v => its[i]? = some v) (fun i h => ItP t h it a i ∧ Hh h) := by
  cases t
  · obtain ⟨its, rv, p, hz⟩ := I.list (show SqL X.K H a xs from hq)
    refine ⟨its, fun h => h.IsList a its.toArray, rv, p.isList, p.lt, fun prog w A it hh hne => ?_⟩
    have := Draws.list (prog := prog) (w := w) hh it a hne its.toArray
    simp only [List.size_toArray, List.getElem?_toArray] at this
    exact this
  · obtain ⟨its, rv, p, hz⟩ := I.tuple (show SqT X.K H a xs from hq)
    have p' : s.heap.IsTuple a its.toArray := p
    refine ⟨its, fun h => h.IsTuple a its.toArray, rv, p', (by obtain ⟨o, ho, _⟩ := id p'; exact Heap.lt_size ho), fun prog w A it hh hne => ?_⟩
    have := Draws.tuple (prog := prog) (w := w) hh it a hne its.toArray
    simp only [List.size_toArray, List.getElem?_toArray] at this
    exact this
theorem SqB.inj {t : Bool} {a : Addr} {xs ys : List V} (I : Inv X pins σ H s) (h : SqB X.K t H a xs) (h' : SqB X.K t H a ys) : xs = ys := by
  cases t
  · exact I.list_inj h h'
  · exact I.tuple_inj h h'
end
/-- what stands at a and b at each turn, the items in new pairs -/
def ItzB (K : PySem.W.Frag) (t u : Bool) (a b : Addr) : It :=
  ⟨fun i H => ∃ (xs ys : List V) (x y : V), SqB K t H a xs ∧ SqB K u H b ys ∧ xs[i]? = some x ∧ ys[i]? = some y,
    fun i H v H' => ∃ T x y, v = .ref T ∧ H T = none ∧ H' = upd H T (.tup [x, y]) ∧ (∀ xs, SqB K t H a xs → xs[i]? = some x) ∧ ∀ ys, SqB K u H b ys → ys[i]? = some y,
    fun i H => ∃ xs ys : List V, SqB K t H a xs ∧ SqB K u H b ys ∧ i ≤ xs.length ∧ i ≤ ys.length ∧ (i = xs.length ∨ i = ys.length)⟩
theorem turn_zipB {P : Program} {w : World} {K : PySem.W.Frag} {elts : List Expr} {kk : Nat} {tpos : Pos} {t u : Bool} {a b N : Nat} (la : a < N) (lb : b < N) :
    Turn P w K (.Tuple elts kk tpos) (ItzB K t u a b) [N + 4, N + 2, N + 3, N, N + 1] (N + 4) (fun i h => IsZip h (N + 4) (N + 2) (N + 3) .none ∧ IsTupOf2 h (N + 2) (.ref N) (.ref (N + 1)) ∧ (∃ x y, IsTupOf2 h (N + 3) x y) ∧ ItP t h N a i ∧ ItP u h (N + 1) b i) where
  mem := by simp
  obj := fun i h st c hc => by
    obtain ⟨hz, hTI, ⟨x, y, hTO⟩, h1, h2⟩ := st
    have e' : c = N + 4 ∨ c = N + 2 ∨ c = N + 3 ∨ c = N ∨ c = N + 1 := by simpa using hc
    rcases e' with q | q | q | q | q
    · rw [q]; exact ⟨_, hz, fun v q => nomatch q⟩
    · rw [q]; exact ⟨_, hTI, fun v q => nomatch q⟩
    · rw [q]; exact ⟨_, hTO, fun v q => nomatch q⟩
    · rw [q]; exact h1.obj
    · rw [q]; exact h2.obj
  keep := fun i h h' st k => by
    obtain ⟨hz, hTI, ⟨x, y, hTO⟩, h1, h2⟩ := st
    exact ⟨k (N + 4) (by simp) _ hz, k (N + 2) (by simp) _ hTI, ⟨x, y, k (N + 3) (by simp) _ hTO⟩, h1.at fun o q => k N (by simp) o q, h2.at fun o q => k (N + 1) (by simp) o q⟩
  item := by
    intro X hP hw hK hc i pins s σ H E I hf st hg
    subst hP hw hK
    obtain ⟨hz, hTI, ⟨x0, y0, hTO⟩, h1, h2⟩ := st
    obtain ⟨xs, ys, x, y, hqx, hqy, hx, hy⟩ := hg
    obtain ⟨its, Hh1, rv, p, _, D1⟩ := t5_drw I hqx
    obtain ⟨its2, Hh2, rv2, p2, _, D2⟩ := t5_drw I hqy
    obtain ⟨u1, hu, ru⟩ := rv.get hx
    obtain ⟨u2, hu2, ru2⟩ := rv2.get hy
    have hzl : N + 4 < s.heap.objs.size := Heap.lt_size hz
    have hT0 : s.TypeIs (.ref (N + 4)) "zip" := ⟨_, hz, rfl⟩
    have S := zip_sep2 (fp1 := [a]) (fp2 := [b]) (N := N) (by simpa using la) (by simpa using lb)
    unfold pyNext
    refine wpAny_bind (wpAny_attempt (wpAny_callSpecial?_slot (name := Str.ofString "__next__") hT0 F.slot_zip_next
      (wpAny_call_entry F.slot_zip_next hT0 F.entry_zip_next
        (zipD2_next_item S (D1 X.prog X.w _ N (I.ok.hd hc) (Nat.ne_of_lt la)) (D2 X.prog X.w _ (N + 1) (I.ok.hd hc) (Nat.ne_of_lt (Nat.lt_succ_of_lt lb))) hz hTI hTO ⟨h1, p⟩ ⟨h2, p2⟩ (List.getElem?_eq_some_iff.mp hu).1 (List.getElem?_eq_some_iff.mp hu2).1 fun v1 v2 h' tk e1 e2 z' TO' h1' h2' hT hsz hk => wpAny_pure ?_) (F.args_zip_next_1 _))))
    have q1 : v1 = u1 := by rw [hu] at e1; exact (Option.some.inj e1).symm
    have q2 : v2 = u2 := by rw [hu2] at e2; exact (Option.some.inj e2).symm
    subst q1 q2
    refine ⟨_, rfl, wpAny_letOwnedTupleGo_zip (s := { s with heap := h', toks := tk }) z' fun h'' z'' sb => ?_⟩
    have hT2 : h''.get? s.heap.objs.size = some { cls := .type "tuple", data := .seq #[v1, v2] } := (sb.2 _ (Nat.ne_of_gt hzl)).trans hT
    have new : ObjOk X.prog X.w (upd H s.heap.objs.size (.tup [x, y])) h'' s.heap.objs.size (.tup [x, y]) :=
      ⟨by show 2 ≤ sizeLine; decide, [v1, v2], .cons ru (.cons ru2 .nil), ⟨_, hT2, rfl, _, rfl⟩⟩
    have I1 : Inv X pins σ (upd H s.heap.objs.size (.tup [x, y])) { s with heap := h'', toks := tk } :=
      I.turnedNew (t' := tk) (ch := [N + 4, N + 2, N + 3, N, N + 1]) (fun c o hb q => (sb.2 c (fun q' => hb (by simp [q']))).trans (hk c o (fun q' => hb (by simp [q'])) (fun q' => hb (by simp [q'])) (fun q' => hb (by simp [q'])) (fun q' => hb (by simp [q'])) q)) hf (Nat.le_refl _) new
    refine ⟨.ref s.heap.objs.size, _, I1, rfl, ⟨_, x, y, rfl, I.hok.fresh (Nat.le_refl _), rfl, fun l hl => by rw [SqB.inj I hl hqx]; exact hx, fun l hl => by rw [SqB.inj I hl hqy]; exact hy⟩, ⟨z'', ?_, ⟨v1, v2, ?_⟩, ?_, ?_⟩, fun c hcm => ?_⟩
    · exact (sb.2 _ S.TIz).trans (hk _ _ S.TIz S.TITO S.TIi1 S.TIi2 hTI)
    · exact (sb.2 _ S.TOz).trans TO'
    · exact h1'.1.at fun o q => (sb.2 _ (Nat.ne_of_lt (by omega))).trans q
    · exact h2'.1.at fun o q => (sb.2 _ (Nat.ne_of_lt (by omega))).trans q
    · have hlt : c < s.heap.objs.size := by
        have e' : c = N + 4 ∨ c = N + 2 ∨ c = N + 3 ∨ c = N ∨ c = N + 1 := by simpa using hcm
        have hzl' : (N + 4 : Nat) < s.heap.objs.size := hzl
        rcases e' with q | q | q | q | q <;> (rw [q]; exact Nat.lt_of_le_of_lt (by first | exact Nat.le_refl _ | exact Nat.le_add_right _ _ | exact Nat.add_le_add_left (by decide) N) hzl')
      rw [upd_ne (Nat.ne_of_lt hlt)]
      exact (hf c hcm).1
  done := by
    intro X hP hw hK hc i pins s σ H E I hf st hg
    subst hP hw hK
    obtain ⟨hz, hTI, ⟨x0, y0, hTO⟩, h1, h2⟩ := st
    obtain ⟨xs, ys, hqx, hqy, b1, b2, hend⟩ := hg
    obtain ⟨its, Hh1, rv, p, _, D1⟩ := t5_drw I hqx
    obtain ⟨its2, Hh2, rv2, p2, _, D2⟩ := t5_drw I hqy
    have l1 := rv.length
    have l2 := rv2.length
    have hT0 : s.TypeIs (.ref (N + 4)) "zip" := ⟨_, hz, rfl⟩
    have S := zip_sep2 (fp1 := [a]) (fp2 := [b]) (N := N) (by simpa using la) (by simpa using lb)
    unfold pyNext
    refine wpAny_bind (wpAny_attempt (wpAny_callSpecial?_slot (name := Str.ofString "__next__") hT0 F.slot_zip_next
      (wpAny_call_entry F.slot_zip_next hT0 F.entry_zip_next (zipD2_next_end S (D1 X.prog X.w _ N (I.ok.hd hc) (Nat.ne_of_lt la)) (D2 X.prog X.w _ (N + 1) (I.ok.hd hc) (Nat.ne_of_lt (Nat.lt_succ_of_lt lb))) hz hTI hTO ⟨h1, p⟩ ⟨h2, p2⟩ (by omega) (by omega) (by omega) fun h' tk e hk he => ?_) (F.args_zip_next_1 _))))
    obtain ⟨o, ho, hc'⟩ := he
    refine wpAny_bind (wpAny_isInstance (T := "StopIteration") (b := true) ⟨o, ho, hc'⟩ isSubtype_stop ?_)
    exact wpAny_pure ⟨rfl, I.turnedL (t' := tk) (ch := [N + 4, N + 2, N + 3, N, N + 1]) (fun c o hb q =>
      hk c o (fun q' => hb (by simp [q'])) (fun q' => hb (by simp [q'])) (fun q' => hb (by simp [q'])) (fun q' => hb (by simp [q'])) q) hf⟩
  self := fun A i s Q E st h => wpAny_pyIter_zip st.1 h
def iZipB (K : PySem.W.Frag) (ta : TA) : TI := fun σ H R => ta σ H fun vs H1 => ∃ a b xs ys t u, vs = [.ref a, .ref b] ∧ SqB K t H1 a xs ∧ SqB K u H1 b ys ∧ R (ItzB K t u a b) H1
theorem begs {X : Cx} {pins : List (Addr × Obj)} {σ : L2.St} {H : Hp} {s : Shared} {t : Bool} {a : Addr} {xs : List V} (I : Inv X pins σ H s) (hq : SqB X.K t H a xs) : ∃ (o : Obj) (Hh : Heap → Prop), Begins (.ref a) o Hh ∧ Hh s.heap ∧ a < s.heap.objs.size ∧ ∀ h it, h.get? it = some o → ItP t h it a 0 := by
  cases t
  · obtain ⟨its, rv, p, hz⟩ := I.list (show SqL X.K H a xs from hq)
    exact ⟨_, _, begins_list a its.toArray, p.isList, p.lt, fun h it e => ⟨_, e, rfl, rfl⟩⟩
  · obtain ⟨its, rv, p, hz⟩ := I.tuple (show SqT X.K H a xs from hq)
    have p' : s.heap.IsTuple a its.toArray := p
    exact ⟨_, _, begins_tuple a its.toArray, p', (by obtain ⟨o, ho, _⟩ := id p'; exact Heap.lt_size ho), fun h it e => ⟨_, e, rfl, rfl⟩⟩
theorem pi_zipB {X : Cx} {e e2 : Expr} {ta : TA} {p pos tpos : Pos} {elts : List Expr} {kk : Nat} (hg : Gl X "zip") (hm : X.mg "zip" = none) (ha : PA X [e, e2] ta)
    (hs : starEach [e, e2] X.env = (false, eval e X.env) :: starEach [e2] X.env) (hpl : (backTo pos (starEach [e2] X.env)).any (·.1) = false) :
    PI X (.Tuple elts kk tpos) (.Call (.Name "zip" p) [e, e2] [] pos) (iZipB X.K ta) := by
  refine ⟨fun pins s σ H R I h => ?_⟩
  refine Call_ (ld_blt I hg hm PyProof.Rows.boot_zip (PyProof.Rows.callWith_type1 (thn (ha.run pos pins s σ H _ I h) fun us s1 ⟨vs, H1, I1, r1, q1⟩ => ?_) hs hpl))
  obtain ⟨a, b, xs, ys, t, u, ex, hqx, hqy, q⟩ := q1
  subst ex
  cases r1 with
  | cons r rr =>
    cases rr with
    | cons r' rr =>
      cases rr
      cases r
      cases r'
      obtain ⟨o1, Hh1, B1, hh1, lt1, st1⟩ := begs I1 hqx
      obtain ⟨o2, Hh2, B2, hh2, lt2, st2⟩ := begs I1 hqy
      refine zip_begins2 B1 B2 hh1 hh2 fun h' hz hTI hTO h1 h2 hsz hk => wpAny_pyIter_zip hz ?_
      have I2 : Inv X pins σ H1 { s1 with heap := h' } := I1.kept (t' := s1.toks) hk
      refine ⟨s1.heap.objs.size + 4, [s1.heap.objs.size + 4, s1.heap.objs.size + 2, s1.heap.objs.size + 3, s1.heap.objs.size, s1.heap.objs.size + 1], _, _, H1, rfl, I2, turn_zipB (t := t) (u := u) lt1 lt2, ⟨hz, hTI, ⟨_, _, hTO⟩, st1 _ _ h1, st2 _ _ h2⟩, fun c hcm => ?_, q⟩
      have e' : c = s1.heap.objs.size + 4 ∨ c = s1.heap.objs.size + 2 ∨ c = s1.heap.objs.size + 3 ∨ c = s1.heap.objs.size ∨ c = s1.heap.objs.size + 1 := by simpa using hcm
      have hle : s1.heap.objs.size ≤ c := by
        rcases e' with z | z | z | z | z
        · rw [z]; exact Nat.le_add_right _ _
        · rw [z]; exact Nat.le_add_right _ _
        · rw [z]; exact Nat.le_add_right _ _
        · rw [z]; exact Nat.le_refl _
        · rw [z]; exact Nat.le_add_right _ _
      exact I1.fpOk hle (I1.hok.fresh hle)
section
variable {K : PySem.W.Frag} {T : Tb} {r : List Addr} {G H : Hp} {s : Sto}
theorem SqB.ex {t : Bool} {G G' : Hp} {a : Addr} {xs : List V} (e : Ex G G') (h : SqB K t G a xs) : SqB K t G' a xs := by
  cases t
  · exact Evl.ex_l e h
  · exact Evl.ex_t e h
theorem it_zipB {t u : Bool} {a b : Addr} {xs ys : List V} {ds es : List D} (h : SqB K t G a xs) (k : RpL K T r G ds xs) (h' : SqB K u G b ys) (k' : RpL K T r G es ys) : ItR K T r G (ItzB K t u a b) (zipL ds es) := fun r2 G2 H2 s2 p e g i => by
  have hl : SqB K t H2 a xs := SqB.ex (e.trans g.exH) h
  have hl' : SqB K u H2 b ys := SqB.ex (e.trans g.exH) h'
  have hn := k.length
  have hn' := k'.length
  rw [zipL_len]
  refine ⟨fun hi => ?_, fun hi => ?_, fun x H' d hd hy => ?_⟩
  · exact ⟨xs, ys, xs[i]'(by omega), ys[i]'(by omega), hl, hl', List.getElem?_eq_getElem (by omega), List.getElem?_eq_getElem (by omega)⟩
  · exact ⟨xs, ys, hl, hl', by omega, by omega, by omega⟩
  · obtain ⟨q, z, z', rfl, hq, rfl, hx, hx'⟩ := hy
    obtain ⟨d1, d2, h1, h2, rfl⟩ := zipL_get hd
    obtain ⟨v, e1, e2⟩ := k.get h1
    obtain ⟨u, e3, e4⟩ := k'.get h2
    have : some z = some v := (hx xs hl).symm.trans e1
    cases this
    have : some z' = some u := (hx' ys hl').symm.trans e3
    cases this
    exact new_pair g hq (e2.mono p e) (e4.mono p e)
theorem sqb_at (g : Gd K T r G H s) {d : D} {ds : List D} {v : V} (hd : seqOf d = some ds) (hy : Rp K T r G d v) : ∃ t p xs, v = .ref p ∧ SqB K t G p xs ∧ SqB K t H p xs ∧ RpL K T r G ds xs := by
  cases d <;> first | (cases hd; done) | skip
  · cases hd
    obtain ⟨p, xs, rfl, k1, k2⟩ := rp_tup hy
    exact ⟨true, p, xs, rfl, SqT.of k1, SqT.of (g.sub _ _ k1), k2⟩
  · cases hd
    obtain ⟨p, xs, rfl, k0, k1, k2⟩ := lst_at g hy
    exact ⟨false, p, xs, rfl, k0, k1, k2⟩
end
section
variable {X : Cx} {T : Tb} {W : WX} {cl : Calls} {a b c e : Expr} {ca cb cc : CE} {pos p tpos : Pos} {elts : List Expr} {kk : Nat}
theorem gi_zip (hg : Gl X "zip") (hm : X.mg "zip" = none) (ha : PE X a (tE X.K T W cl ca)) (hb : PE X b (tE X.K T W cl cb)) (hs : starEach [a, b] X.env = (false, eval a X.env) :: starEach [b] X.env) (hs2 : starEach [b] X.env = (false, eval b X.env) :: starEach [] X.env) :
    PI X (.Tuple elts kk tpos) (.Call (.Name "zip" p) [a, b] [] pos) (tI X.K T W cl (.zip ca cb)) :=
  imp_i (pi_zipB hg hm (gl_cons ha (gl_cons hb gl_nil hs2) hs) hs (by rw [hs2]; rfl)) fun σ H Q ⟨env, s, r, G, g, ee, h⟩ => ⟨env, s, r, G, g, ee, by
    simp only [evE] at h
    simp only [evEs]
    cases hq : evE cl ca env s with
    | bad => rw [hq] at h; exact h.elim
    | err c ds s1 => rw [hq] at h; exact h
    | ok d s1 =>
      rw [hq] at h
      simp only [R.bind] at h
      show Out X.K T (RpL X.K T) W σ _ r G H (((evE cl cb env s1).bind fun d2 s2 => .ok [d2] s2).bind fun ds s2 => .ok (d :: ds) s2)
      cases hq2 : evE cl cb env s1 with
      | bad => rw [hq2] at h; exact h.elim
      | err c ds s2 => rw [hq2] at h; exact h
      | ok d2 s2 =>
        rw [hq2] at h
        simp only at h
        cases hz : seq2 d d2 with
        | none => rw [hz] at h; exact h.elim
        | some pq =>
          rw [hz] at h
          obtain ⟨its, h1, h2⟩ := h
          cases h1
          show Out X.K T (RpL X.K T) W σ _ r G H (.ok [d, d2] s2)
          intro y r' G' H' l g' hy
          obtain ⟨v, t, rfl, m1, m2⟩ := hy.cons_inv
          obtain ⟨v2, t2, rfl, m3, m4⟩ := m2.cons_inv
          have := m4.nil_inv
          subst this
          unfold seq2 at hz
          split at hz
          · rename_i x y e1 e2
            cases hz
            obtain ⟨t, p, xs, rfl, k0, k1, k2⟩ := sqb_at g' e1 m1
            obtain ⟨u, q, ys, rfl, k3, k4, k5⟩ := sqb_at g' e2 m3
            exact ⟨p, q, xs, ys, t, u, rfl, k1, k4, h2 _ r' G' H' l g' (it_zipB k0 k2 k3 k5)⟩
          · cases hz⟩
end
end T5

set_option Elab.async false
set_option linter.all false
set_option maxRecDepth 100000
set_option maxHeartbeats 1000000
/-! T5: range(a, b, -1); a[i], b[j] = x, y. -/
namespace T5
open PySem PySem.Spec L2
open Evl (Ex)
theorem down_len (hi : Int) (n : Nat) : (downD hi n).length = n := by unfold downD; simp
theorem down_get {hi : Int} {n i : Nat} {d : D} (h : (downD hi n)[i]? = some d) : i < n ∧ d = .int (hi + (i : Nat) * -1) := by
  unfold downD at h
  rw [List.getElem?_map] at h
  cases hq : (List.range n)[i]? with
  | none => rw [hq] at h; cases h
  | some j =>
    rw [hq] at h
    cases h
    have hlt := (List.getElem?_eq_some_iff.mp hq).1
    rw [List.length_range] at hlt
    rw [List.getElem?_range hlt] at hq
    cases hq
    exact ⟨hlt, rfl⟩
theorem it_down {K : PySem.W.Frag} {T : Tb} {r : List Addr} {G : Hp} (hi : Int) (n : Nat) : ItR K T r G (Itc hi (-1) n) (downD hi n) := fun r2 G2 H2 s2 p e g i => by
  rw [down_len]
  refine ⟨fun h => h, fun h => ?_, fun x H' d hd hy => ?_⟩
  · show n ≤ i
    omega
  · obtain ⟨rfl, hx⟩ := hy
    obtain ⟨_, rfl⟩ := down_get hd
    subst hx
    exact ⟨G2, Le.refl, g, of_int _⟩
section
variable {X : Cx} {T : Tb} {W : WX} {cl : Calls} {a b c e : Expr} {ca cb cc : CE} {pos p : Pos} {tg : Expr}
theorem gi_rng3 (hg : Gl X "range") (hm : X.mg "range" = none) (ha : PE X a (tE X.K T W cl ca)) (hb : PE X b (tE X.K T W cl cb)) (hc : PE X c (tE X.K T W cl cc)) (hs : starEach [a, b, c] X.env = (false, eval a X.env) :: starEach [b, c] X.env) (hs2 : starEach [b, c] X.env = (false, eval b X.env) :: starEach [c] X.env) (hs3 : starEach [c] X.env = (false, eval c X.env) :: starEach [] X.env) :
    PI X tg (.Call (.Name "range" p) [a, b, c] [] pos) (tI X.K T W cl (.rng3 ca cb cc)) :=
  imp_i (pi_range3 hg hm (gl_cons ha (gl_cons hb (gl_cons hc gl_nil hs3) hs2) hs) (hs := hs) (hpl := by rw [hs2, hs3]; rfl)) fun σ H Q ⟨env, s, r, G, g, ee, h⟩ => ⟨env, s, r, G, g, ee, by
    simp only [evE] at h
    simp only [evEs]
    cases hq : evE cl ca env s with
    | bad => rw [hq] at h; exact h.elim
    | err c ds s1 => rw [hq] at h; exact h
    | ok d s1 =>
      rw [hq] at h
      simp only [R.bind] at h ⊢
      cases hq2 : evE cl cb env s1 with
      | bad => rw [hq2] at h; exact h.elim
      | err c ds s2 => rw [hq2] at h; exact h
      | ok d2 s2 =>
        rw [hq2] at h
        simp only at h ⊢
        cases hq3 : evE cl cc env s2 with
        | bad => rw [hq3] at h; exact h.elim
        | err c ds s2 => rw [hq3] at h; exact h
        | ok d3 s3 =>
          rw [hq3] at h
          simp only at h ⊢
          split at h
          · rename_i i j k
            split at h
            · rename_i hcc
              simp only [Bool.and_eq_true, beq_iff_eq] at hcc
              obtain ⟨⟨c1, c2⟩, rfl⟩ := hcc
              obtain ⟨items, h1, h2⟩ := h
              cases h1
              intro y r' G' H' l g' hy
              obtain ⟨v, t, rfl, m1, m2⟩ := hy.cons_inv
              obtain ⟨v2, t2, rfl, m3, m4⟩ := m2.cons_inv
              obtain ⟨v3, t3, rfl, m5, m6⟩ := m4.cons_inv
              have := m6.nil_inv
              subst this
              cases rp_int m1
              cases rp_int m3
              cases rp_int m5
              have o1 := okR_of c1
              have o2 := okR_of c2
              exact ⟨i, j, -1, (i - j).toNat, rfl, RgC.neg (by omega) (by omega) (by omega) (by omega), h2 _ r' G' H' l g' (it_down i _)⟩
            · exact h.elim
          · exact h.elim⟩
end
theorem setL_inv {s s' : Sto} {x i v : D} (h : setL s x i v = some s') : ∃ n ds j k, x = .loc n ∧ s[n]? = some (.lst ds) ∧ i = .int j ∧ ixN ds.length j = some k ∧ s' = s.set n (.lst (ds.set k v)) := by
  unfold setL at h
  split at h
  · rename_i hl
    obtain ⟨n, ds, rfl, hds⟩ := isLL_inv hl
    obtain ⟨n', e0, hcase⟩ := setD_inv h
    cases e0
    rcases hcase with ⟨ds', j, k, z1, rfl, z2, rfl⟩ | ⟨kvs', k, z1, z2, z3, rfl⟩
    · rw [hds] at z1; cases z1
      exact ⟨n, ds, j, k, rfl, hds, rfl, z2, rfl⟩
    · rw [hds] at z1; cases z1
  · cases h
section
variable {X : Cx} {T : Tb} {W : WX} {cl : Calls} {st : Stmt} {ce ca ci cb cj : CE}
theorem gst_swp (h : PS X st (tAsg (tE X.K T W cl ce) (gTup X.K 2 (gCons (gSub (tE X.K T W cl ca) (tE X.K T W cl ci) rSetL) (gCons (gSub (tE X.K T W cl cb) (tE X.K T W cl cj) rSetL) gNil))))) : PS X st (tSt X.K T W cl (.swp ce ca ci cb cj)) :=
  imp_s h fun E σ H ⟨env, s, r, G, g, e, h⟩ => by
    simp only [evS] at h
    refine rdgS_bind g e h fun v u r1 G1 H1 s1 x1 l1 g1 e1 hv h1 => ?_
    clear x1
    split at h1
    · rename_i v1 v2
      obtain ⟨pa, xs, rfl, k1, k2⟩ := rp_tup hv
      obtain ⟨w1, t1, rfl, m1, m2⟩ := k2.cons_inv
      obtain ⟨w2, t2, rfl, m3, m4⟩ := m2.cons_inv
      have := m4.nil_inv
      subst this
      refine ⟨pa, _, rfl, SqT.of (g1.sub _ _ k1), rfl, w1, _, rfl, ?_⟩
      refine rdgS_bind g1 e1 h1 fun x a' r2 G2 H2 s2 x2 l2 g2 e2 hx h2 => rdgS_bind g2 e2 h2 fun y k' r3 G3 H3 s3 x3 l3 g3 e3 hy h3 => ?_
      clear x2 x3
      cases hset : setL s3 x y v1 with
      | none => rw [hset] at h3; exact h3.elim
      | some s4 =>
        rw [hset] at h3
        obtain ⟨n, ds, j, k, rfl, z1, rfl, z2, rfl⟩ := setL_inv hset
        obtain ⟨a, rfl, ha⟩ := rp_loc (hx.le l3)
        obtain ⟨xs, j1, j2⟩ := g3.obj n a _ ha z1
        cases rp_int hy
        refine ⟨a, xs, j, k, rfl, rfl, j1, by rw [j2.length]; exact z2, w2, [], rfl, ?_⟩
        have g4 := g3.put (o := HO.lst (xs.set k w1)) (so := .lst (ds.set k v1)) ha ⟨_, rfl, j2.set k ((m1.le l2).le l3)⟩
        have l4 := le_put g3 (List.mem_of_getElem? ha) (HO.lst (xs.set k w1))
        have h3 := OutS.le l4 h3
        refine rdgS_bind g4 (e3.le l4) h3 fun x' a' r5 G5 H5 s5 x5 l5 g5 e5 hx5 h5 => rdgS_bind g5 e5 h5 fun y' k' r6 G6 H6 s6 x6 l6 g6 e6 hy6 h6 => ?_
        clear x5 x6
        cases hset2 : setL s6 x' y' v2 with
        | none => rw [hset2] at h6; exact h6.elim
        | some s7 =>
          rw [hset2] at h6
          obtain ⟨n', ds', j', k', rfl, z1', rfl, z2', rfl⟩ := setL_inv hset2
          obtain ⟨a', rfl, ha'⟩ := rp_loc (hx5.le l6)
          obtain ⟨xs', j1', j2'⟩ := g6.obj n' a' _ ha' z1'
          cases rp_int hy6
          refine ⟨a', xs', j', k', rfl, rfl, j1', by rw [j2'.length]; exact z2', rfl, ?_⟩
          exact h6 σ r6 G6 _ (le_put g6 (List.mem_of_getElem? ha') _) (g6.put ha' ⟨_, rfl, j2'.set k' (((((m3.le l2).le l3).le l4).le l5).le l6)⟩) e6
    · exact h1.elim
end
end T5

set_option Elab.async false
set_option linter.all false
set_option maxRecDepth 100000
set_option maxHeartbeats 2000000
/-! T5: from the text to the core language, expressions. -/
namespace T5
open PySem PySem.Spec L2
open Evl (Ex)

/-- where we are: the slots' names, the scope; the def's lambda; the suite's exception; may defs be called; within a suite; may lambdas be made -/
structure Cc where
  N : List Str
  sc : Scope
  act : Option Str := none
  exn : Option (Str × Nat) := none
  cold : Bool := true
  hot : Bool := false
  lm : Bool := false
/-- defs; how calls bind; lists of the store; built-ins; defs that get lambdas; error classes (number, fields); which errors a class takes; fields -/
structure Gt where
  fns : List (Str × Nat)
  bnd : List ((Nat × Nat × List Str) × List (Nat ⊕ D))
  box : List (Nat × Nat)
  blt : List Str
  lams : List (Str × Nat) := []
  errs : List (Str × Nat × Nat) := []
  isa : List (Str × List Nat) := []
  fld : List (Str × List (Nat × Nat)) := []

def ixOf (x : Str) : List Str → Nat → Option Nat
  | [], _ => none
  | y :: r, i => if decide (x = y) then some i else ixOf x r (i + 1)
def dbg (x : Str) : Bool := decide (x = "__debug__") || decide (x = "__classdict__")
def Cc.kind (cc : Cc) (x : Str) : Option NameKind := cc.sc.names.lookup x
def Cc.var (cc : Cc) (x : Str) : Option Nat :=
  if dbg x then none else (match cc.kind x with
    | some .local => ixOf x cc.N 0
    | some .cell => ixOf x cc.N 0
    | some .free => ixOf x cc.N 0
    | _ => none)
def Cc.glob (cc : Cc) (x : Str) : Bool :=
  match cc.kind x with
  | some .globalImplicit => !dbg x
  | _ => false
/-- a built-in's name -/
def isB (gt : Gt) (cc : Cc) (x : Str) (y : String) : Bool := decide (x = Str.ofString y) && cc.glob x && gt.blt.contains x
def bx (gt : Gt) (pos : Pos) (c : CE) : CE := if gt.box.contains (pos.line, pos.col) then .box c else c
def cL (f : Expr → CE) : List Expr → CEs
  | [] => .nil
  | e :: es => .cons (f e) (cL f es)
def cK (f : Expr → CE) : List Keyword → CEs
  | [] => .nil
  | k :: ks => .cons (f k.value) (cK f ks)
def cB (f : Expr → CE) (isAnd : Bool) : List Expr → CE
  | [] => .bad
  | [a] => f a
  | a :: b :: r => if isAnd then .and (f a) (cB f isAnd (b :: r)) else .or (f a) (cB f isAnd (b :: r))
def cP (f : Expr → CE) : Option Expr → CE
  | none => .con .non
  | some e => .asInt (f e)
def cop : CmpOp → Option COp
  | .Lt => some .lt
  | .LtE => some .le
  | .Gt => some .gt
  | .GtE => some .ge
  | .Eq => some .eq
  | .NotEq => some .ne
  | .Is => some .is
  | .IsNot => some .isnot
  | .In => some .mem
  | .NotIn => some .nmem
def keysOf : List (Option Expr) → Option (List L2.Key)
  | [] => some []
  | some (.Constant (.str x) _ _) :: r => (keysOf r).map (.inr x :: ·)
  | some (.Constant (.int i) _ _) :: r => (keysOf r).map (.inl i :: ·)
  | _ => none
def tyName (gt : Gt) (cc : Cc) (x : Str) : Option String :=
  if isB gt cc x "int" then some "int" else if isB gt cc x "bool" then some "bool" else if isB gt cc x "str" then some "str" else if isB gt cc x "tuple" then some "tuple" else if isB gt cc x "list" then some "list" else none
/-- a target's slots; fnb: names whose cells are of this frame -/
def tg1 (N : List Str) (sc : Scope) (fnb : Str → Bool) : Expr → Option Nat
  | .Name x _ => (match sc.names.lookup x with
    | some .local => ixOf x N 0
    | some .cell => if fnb x then ixOf x N 0 else none
    | _ => none)
  | _ => none
def tgL (N : List Str) (sc : Scope) (fnb : Str → Bool) : List Expr → Option (List Nat)
  | [] => some []
  | e :: es => (tg1 N sc fnb e).bind fun i => (tgL N sc fnb es).map (i :: ·)
def tgOf (N : List Str) (sc : Scope) (fnb : Str → Bool) : Expr → Option (List Nat)
  | .Tuple es _ _ => if Nat.ble 2 es.length then tgL N sc fnb es else none
  | e => (tg1 N sc fnb e).map ([·])
def ownOf (scope : Scope) (N : List Str) : List (Str × Nat) := scope.names.filterMap fun y => match y.2 with
  | .local => (ixOf y.1 N 0).map (y.1, ·)
  | .cell => (ixOf y.1 N 0).map (y.1, ·)
  | _ => none
def isNm : Expr → Bool
  | .Name .. => true
  | _ => false
def isTp : Expr → Bool
  | .Tuple .. => true
  | _ => false
/-- -1 -/
def isM1 : Expr → Bool
  | .UnaryOp .USub (.Constant (.int i) _ _) _ => decide (i = 1)
  | _ => false
/-- a display's items, stars among them -/
def cLs (f : Expr → CE) : List Expr → CEs
  | [] => .nil
  | .Starred a _ :: es => .star (f a) (cLs f es)
  | e :: es => .cons (f e) (cLs f es)
/-- what a for walks; tp: its target is a tuple -/
def cI (gt : Gt) (cc : Cc) (f : Expr → CE) (tp : Bool) : Expr → CE
  | .Call (.Name y p) [a] [] q => if isB gt cc y "range" && !isStar a then .rng1 (f a) else if isB gt cc y "enumerate" && !isStar a && tp then .enum (f a) else f (.Call (.Name y p) [a] [] q)
  | .Call (.Name y p) [a, b] [] q => if isB gt cc y "range" && !isStar a && !isStar b then .rng2 (f a) (f b) else if isB gt cc y "zip" && !isStar a && !isStar b && tp then .zip (f a) (f b) else f (.Call (.Name y p) [a, b] [] q)
  | .Call (.Name y p) [a, b, c] [] q => if isB gt cc y "range" && !isStar a && !isStar b && !isStar c then .rng3 (f a) (f b) (f c) else f (.Call (.Name y p) [a, b, c] [] q)
  | e => f e
/-- a cut -/
def cSl (gt : Gt) (f : Expr → CE) (pos : Pos) (a : Expr) (lo hi : Option Expr) : Option Expr → CE
  | none => .slc (f a) (cP f lo) (cP f hi)
  | some e => if isM1 e && lo.isNone && hi.isNone then bx gt pos (.rev (f a)) else .bad
def c12 (f : Expr → CE) (b : Bi) : List Expr → CE
  | [a] => if isStar a then .bad else .bi b (.cons (f a) .nil)
  | [a, c] => if isStar a || isStar c then .bad else .bi b (.cons (f a) (.cons (f c) .nil))
  | _ => .bad
def cDicp (f : Expr → CE) : List Expr → CE
  | [a] => if isStar a then .bad else .dicp (f a)
  | _ => .bad
def cGet (f : Expr → CE) (o : Expr) (m : Str) (ap cp : Pos) (k v : Expr) : CE :=
  if decide (m = Str.ofString "get") && isNm o && !isStar k && !isStar v && (ap.endLine == cp.line) then .dget (f o) (f k) (f v) else .bad
def cLen (gt : Gt) (cc : Cc) (f : Expr → CE) : List Expr → CE
  | [.Call (.Name y p) [a] [] q] => if isB gt cc y "set" && !isStar a && !cc.hot then .bi .lenset (.cons (f a) .nil) else .bi .len (.cons (f (.Call (.Name y p) [a] [] q)) .nil)
  | [a] => if isStar a then .bad else .bi .len (.cons (f a) .nil)
  | _ => .bad
def c1 (f : Expr → CE) (b : Bi) : List Expr → CE
  | [a] => if isStar a then .bad else .bi b (.cons (f a) .nil)
  | _ => .bad
def cList (gt : Gt) (cc : Cc) (f : Expr → CE) (pos : Pos) : List Expr → CE
  | [.Call (.Name y p) [a] [] q] => if isB gt cc y "range" && !isStar a && !cc.hot then bx gt pos (.lr1 (f a)) else bx gt pos (.bi .list (.cons (f (.Call (.Name y p) [a] [] q)) .nil))
  | [.Call (.Name y p) [a, b] [] q] => if isB gt cc y "range" && !isStar a && !isStar b && !cc.hot then bx gt pos (.lr2 (f a) (f b)) else if isB gt cc y "zip" && !isStar a && !isStar b && !cc.hot then bx gt pos (.lz (f a) (f b)) else bx gt pos (.bi .list (.cons (f (.Call (.Name y p) [a, b] [] q)) .nil))
  | [a] => if isStar a then .bad else bx gt pos (.bi .list (.cons (f a) .nil))
  | _ => .bad
/-- isinstance(n, C), n the suite's exception -/
def cExi (gt : Gt) (cc : Cc) : Expr → Str → Option CE
  | .Name n _, t => (match cc.exn with
    | some (m, i) => if decide (n = m) && cc.glob t then (gt.isa.lookup t).map fun cs => .exi i cs else none
    | none => none)
  | _, _ => none
/-- isinstance(n, (C, D)) -/
def cExi2 (gt : Gt) (cc : Cc) : Expr → Str → Str → CE
  | .Name n _, t, u => (match cc.exn with
    | some (m, i) => if decide (n = m) && cc.glob t && cc.glob u then (match gt.isa.lookup t, gt.isa.lookup u with
      | some cs, some ds => .exi i (cs ++ ds)
      | _, _ => .bad) else .bad
    | none => .bad)
  | _, _, _ => .bad
def cIsi (gt : Gt) (cc : Cc) (f : Expr → CE) : List Expr → CE
  | [a, .Name t _] => (match cExi gt cc a t with
    | some c => c
    | none => match tyName gt cc t with
    | some n => if isStar a then .bad else .bi .isi (.cons (f a) (.cons (.con (.ty n)) .nil))
    | none => .bad)
  | [a, .Tuple [.Name t _, .Name u _] _ _] => cExi2 gt cc a t u
  | _ => .bad
def cBi2 (gt : Gt) (cc : Cc) (f : Expr → CE) (x : Str) (args : List Expr) (pos : Pos) : CE :=
  if isB gt cc x "all" && !cc.hot then c1 f .all args
  else if isB gt cc x "any" && !cc.hot then c1 f .any args
  else if isB gt cc x "max" && !cc.hot then c12 f .max args
  else if isB gt cc x "min" && !cc.hot then c12 f .min args
  else if isB gt cc x "abs" then c1 f .abs args
  else if isB gt cc x "dict" && !cc.hot then cDicp f args
  else .bad
def cBi (gt : Gt) (cc : Cc) (f : Expr → CE) (x : Str) (args : List Expr) (pos : Pos) : CE :=
  if isB gt cc x "len" then cLen gt cc f args
  else if isB gt cc x "list" then cList gt cc f pos args
  else if isB gt cc x "isinstance" then cIsi gt cc f args
  else if isB gt cc x "sum" && !cc.hot then c1 f .sum args
  else if isB gt cc x "int" then c1 f .int args
  else if isB gt cc x "tuple" then c1 f .tuple args
  else if isB gt cc x "sorted" then c1 f .sorted args
  else if isB gt cc x "repr" then c1 f .repr args
  else cBi2 gt cc f x args pos
def cCall (gt : Gt) (cc : Cc) (f : Expr → CE) (x : Str) (args : List Expr) (kws : List Keyword) (pos : Pos) : CE :=
  match gt.fns.lookup x with
  | some i => if cc.glob x && noStars args && cc.cold then (match kwNames kws with
    | some ks => (match gt.bnd.lookup (i, args.length, ks) with
      | some src => .call i src (cL f args) (cK f kws)
      | none => .bad)
    | none => .bad) else .bad
  | none => (match kws with
    | [] => cBi gt cc f x args pos
    | _ => .bad)
/-- a lambda's form: no parameters, names of the def's -/
def lamB (sc : Scope) (params : Arguments) (scope : Scope) : Bool :=
  LamX.lamSB sc scope && params.posonlyargs.isEmpty && params.args.isEmpty && params.kwonlyargs.isEmpty && params.defaults.isEmpty && params.kw_defaults.isEmpty && params.vararg.isNone && params.kwarg.isNone
def cAct (cc : Cc) (x : Str) : List Expr → List Keyword → Bool
  | [], [] => decide (cc.act = some x)
  | _, _ => false
def cLam (gt : Gt) (cc : Cc) (f : Scope → Expr → CE) (x : Str) : List Expr → List Keyword → Option CE
  | [.Lambda params body scope _], [] => if cc.lm && cc.glob x && lamB cc.sc params scope then (gt.lams.lookup x).map fun i => .lam i (f scope body) else none
  | _, _ => none
def cE (gt : Gt) : Nat → Cc → Expr → CE
  | 0, _, _ => .bad
  | n + 1, cc, e => (match e with
    | .Name x _ => (match cc.var x with
      | some i => .var i
      | none => .bad)
    | .Constant (.int i) _ _ => .con (.int i)
    | .Constant (.bool b) _ _ => .con (.bl b)
    | .Constant (.str x) _ _ => .con (.str x)
    | .Constant .none _ _ => .con .non
    | .BinOp a .Add b pos => bx gt pos (.bin .add (cE gt n cc a) (cE gt n cc b))
    | .BinOp a .Sub b _ => .bin .sub (cE gt n cc a) (cE gt n cc b)
    | .BinOp a .Mult b pos => bx gt pos (.bin .mul (cE gt n cc a) (cE gt n cc b))
    | .BinOp a .FloorDiv b _ => .bin .fdiv (cE gt n cc a) (cE gt n cc b)
    | .BinOp a .Mod b _ => .bin .mod (cE gt n cc a) (cE gt n cc b)
    | .BinOp a .Pow b _ => .bin .pow (cE gt n cc a) (cE gt n cc b)
    | .UnaryOp .USub a _ => .neg (cE gt n cc a)
    | .UnaryOp .Not a _ => .not (cE gt n cc a)
    | .BoolOp .And es _ => cB (cE gt n cc) true es
    | .BoolOp .Or es _ => cB (cE gt n cc) false es
    | .IfExp c a b _ => .ite (cE gt n cc c) (cE gt n cc a) (cE gt n cc b)
    | .Compare a [op] [b] _ => if isSet b then .bad else (match cop op with
      | some o => .cmp o (cE gt n cc a) (cE gt n cc b)
      | none => .bad)
    | .Compare a [op, op2] [b, c] _ => if isSet c then .bad else (match cop op, cop op2 with
      | some o, some o2 => .chn o o2 (cE gt n cc a) (cE gt n cc b) (cE gt n cc c)
      | _, _ => .bad)
    | .Tuple es _ _ => if noStars es then .tup (cL (cE gt n cc) es) else .tup (cLs (cE gt n cc) es)
    | .List es pos => if noStars es then bx gt pos (.lst (cL (cE gt n cc) es)) else bx gt pos (.lst (cLs (cE gt n cc) es))
    | .Dict [] [] _ => .dic [] .nil
    | .Dict keys values _ => (match keysOf keys with
      | some ks => if Nat.beq keys.length values.length && Nat.ble keys.length 15 && Nat.ble 1 keys.length then .dic ks (cL (cE gt n cc) values) else .bad
      | none => .bad)
    | .Subscript a (.Slice lo hi st _) pos => cSl gt (cE gt n cc) pos a lo hi st
    | .Subscript a b _ => if isSl b then .bad else .idx (cE gt n cc a) (cE gt n cc b)
    | .ListComp elt [⟨tg, it, ifs, 0⟩] scope pos =>
      if L2.blkC cc.N cc.sc scope (ownOf scope cc.N) && !isSet it && !cc.hot then
        (match tgOf cc.N (relS scope cc.sc) (fun x => scope.names.lookup x == some .cell) tg with
        | some tgs => if tgs.all fun i => ((ownOf scope cc.N).map (·.2)).contains i then (match ifs with
          | [] => bx gt pos (.lc ((ownOf scope cc.N).map (·.2)) tgs (cE gt n { N := cc.N, sc := relS scope cc.sc, cold := cc.cold } elt) (cI gt cc (cE gt n cc) (isTp tg) it) (.con (.bl true)))
          | [c] => bx gt pos (.lc ((ownOf scope cc.N).map (·.2)) tgs (cE gt n { N := cc.N, sc := relS scope cc.sc, cold := cc.cold } elt) (cI gt cc (cE gt n cc) (isTp tg) it) (cE gt n { N := cc.N, sc := relS scope cc.sc, cold := cc.cold } c))
          | _ => .bad) else .bad
        | none => .bad)
      else .bad
    | .Call (.Name x _) args kws pos => if cAct cc x args kws then .act else (match cLam gt cc (fun scope b => cE gt n { N := cc.N, sc := scope } b) x args kws with
      | some c => c
      | none => cCall gt cc (cE gt n cc) x args kws pos)
    | .Call (.Attribute o m ap) [a, b] [] cp => cGet (cE gt n cc) o m ap cp a b
    | .Attribute (.Name m _) f _ => (match cc.exn with
      | some (m', i) => if decide (m = m') then (match gt.fld.lookup f with
        | some js => .exf i js
        | none => .bad) else .bad
      | none => .bad)
    | _ => .bad)

/-! ### what the context holds -/
structure Xok (X : Cx) (T : Tb) (F : List Fd) (k : Nat) (gt : Gt) (W : WX) (cc : Cc) (cl : Calls) : Prop where
  hN : X.N = cc.N
  nd : X.N.Nodup
  sc : X.env.scope = cc.sc
  kd : cc.sc.kind = .function
  calm : cc.hot = false → X.calm = true
  tk : Takes X W
  room : cc.cold = true → Room (3 * k) X.A
  un : X.A.units + 200 < cLine
  gd : X.A.guards = some []
  own : PassesOwn (model X.prog X.w) X.A X.env X.xe
  fns : cc.cold = true → ∀ x i, gt.fns.lookup x = some i → cl i = run F k i ∧ ∃ f fd ps, X.mg x = some (.ref f) ∧ PySem.W.keepIn X.K (.ref f) = true ∧ FnG X.prog X.w X.K X.mg X.base k f fd ps (SpD X.K T F k i ps.length) ∧ ∀ n ks src, gt.bnd.lookup (i, n, ks) = some src → Bnd X.K fd ps n ks src
  blt : ∀ x, gt.blt.contains x = true → X.mg x = none
  act : ∀ a, cc.act = some a → ∀ p1 p2, PE X (.Call (.Name a p1) [] [] p2) (tE X.K T W cl .act)
  exi : ∀ n i, cc.exn = some (n, i) → ∀ t cs, gt.isa.lookup t = some cs → cc.glob t = true → cc.glob "isinstance" = true → X.mg "isinstance" = none → ∀ p p1 p2 pos, PE X (.Call (.Name "isinstance" p) [.Name n p1, .Name t p2] [] pos) (tE X.K T W cl (.exi i cs))
  exi2 : ∀ n i, cc.exn = some (n, i) → ∀ t cs, gt.isa.lookup t = some cs → cc.glob t = true → ∀ u ds, gt.isa.lookup u = some ds → cc.glob u = true → cc.glob "isinstance" = true → X.mg "isinstance" = none → ∀ p p1 p2 p3 p4 kk pos, PE X (.Call (.Name "isinstance" p) [.Name n p1, .Tuple [.Name t p2, .Name u p3] kk p4] [] pos) (tE X.K T W cl (.exi i (cs ++ ds)))
  exf : ∀ n i, cc.exn = some (n, i) → ∀ f js, gt.fld.lookup f = some js → ∀ p1 pos, PE X (.Attribute (.Name n p1) f pos) (tE X.K T W cl (.exf i js))
  lam : cc.lm = true → ∀ x i, gt.lams.lookup x = some i → cc.glob x = true → ∀ params body scope cb p lpos pos, lamB cc.sc params scope = true →
    (∀ (A : Around) (outer : List PySem.Env) (s : Shared) (H : Hp) (E : XK) (f c' : Addr), A.guards = X.A.guards → Room (3 * k) (A.deeper (LamX.lamEnv X scope s.heap.objs.size f c')) → PE (LamX.lamCx X A outer s H E scope f c') body (tE X.K T (fun cls d _ H => E cls d H) cl cb)) →
    PE X (.Call (.Name x p) [.Lambda params body scope lpos] [] pos) (tE X.K T W cl (.lam i cb))
  fnl : cc.lm = true → ∀ x i, gt.fns.lookup x = some i → cl i = run F k i
  lmc : cc.lm = true → cc.cold = true
theorem ixOf_get {x : Str} : ∀ {l : List Str} {j i : Nat}, ixOf x l j = some i → j ≤ i ∧ l[i - j]? = some x
  | [], _, _, h => by cases h
  | y :: l, j, i, h => by
    unfold ixOf at h
    split at h
    · rename_i hd
      cases h
      have : x = y := of_decide_eq_true hd
      subst this
      exact ⟨Nat.le_refl _, by simp⟩
    · obtain ⟨h1, h2⟩ := ixOf_get h
      refine ⟨by omega, ?_⟩
      have : i - j = (i - (j + 1)) + 1 := by omega
      rw [this, List.getElem?_cons_succ]
      exact h2
theorem ixOf0 {x : Str} {l : List Str} {i : Nat} (h : ixOf x l 0 = some i) : l[i]? = some x := by
  have := (ixOf_get h).2
  simpa using this
section
variable {X : Cx} {T : Tb} {F : List Fd} {k : Nat} {gt : Gt} {W : WX} {cc : Cc} {cl : Calls}
theorem dbg_no {x : Str} (h : dbg x = false) : (x == ("__debug__" : Str)) = false ∧ (x == ("__classdict__" : Str)) = false := by
  unfold dbg at h
  simp only [Bool.or_eq_false_iff, decide_eq_false_iff_not] at h
  exact ⟨beq_eq_false_iff_ne.mpr h.1, beq_eq_false_iff_ne.mpr h.2⟩
theorem var_ok (o : Xok X T F k gt W cc cl) {x : Str} {i : Nat} (h : cc.var x = some i) : X.N[i]? = some x ∧ Vis X.env.scope x ∧ (x == ("__debug__" : Str)) = false ∧ (x == ("__classdict__" : Str)) = false := by
  unfold Cc.var at h
  split at h
  · cases h
  · rename_i hd
    have hd' := dbg_no (by simpa using hd)
    refine ⟨?_, ?_, hd'.1, hd'.2⟩
    · rw [o.hN]
      split at h <;> first | exact ixOf0 h | cases h
    · unfold Vis
      rw [o.sc]
      unfold Cc.kind at h
      split at h
      · rename_i hk; exact .inl hk
      · rename_i hk; exact .inr (.inl hk)
      · rename_i hk; exact .inr (.inr hk)
      · cases h
theorem glob_ok (o : Xok X T F k gt W cc cl) {x : Str} (h : cc.glob x = true) : Gl X x ∧ (x == ("__debug__" : Str)) = false := by
  unfold Cc.glob Cc.kind at h
  split at h
  · rename_i hk
    refine ⟨?_, (dbg_no (by simpa using h)).1⟩
    show X.env.scope.names.lookup x = _
    rw [o.sc]
    exact hk
  · cases h
theorem isB_ok (o : Xok X T F k gt W cc cl) {x : Str} {y : String} (h : isB gt cc x y = true) : x = Str.ofString y ∧ Gl X (Str.ofString y) ∧ X.mg (Str.ofString y) = none := by
  unfold isB at h
  simp only [Bool.and_eq_true, decide_eq_true_eq] at h
  obtain ⟨⟨rfl, h2⟩, h3⟩ := h
  exact ⟨rfl, (glob_ok o h2).1, o.blt _ h3⟩
end
end T5

set_option Elab.async false
set_option linter.all false
set_option maxRecDepth 100000
set_option maxHeartbeats 2000000
/-! T5: the core language's text does what the program's text does: expressions. -/
namespace T5
open PySem PySem.Spec L2
open Evl (Ex)

/-! ### targets -/
def gOf (K : PySem.W.Frag) : List Nat → TG
  | [i] => gName i
  | is => gTup K is.length (gNs is)
theorem tgOk_of {K : PySem.W.Frag} {T : Tb} : ∀ {is : List Nat}, is ≠ [] → TgOk K T (gOf K is) is
  | [], h => absurd rfl h
  | [i], _ => tg_name i
  | i :: j :: r, _ => tg_tup (i :: j :: r) (by simp)
section
variable {X : Cx} {N : List Str} {sc : Scope} {fnb : Str → Bool}
theorem tg1_ok (h1 : X.N = N) (h2 : X.N.Nodup) (h3 : X.env.scope = sc) (h4 : ∀ x, fnb x = true → X.fn x = true) {e : Expr} {i : Nat} (h : tg1 N sc fnb e = some i) : (∃ x p, e = .Name x p) ∧ PG X e (gName i) := by
  unfold tg1 at h
  split at h
  · rename_i x p
    refine ⟨⟨x, p, rfl⟩, ?_⟩
    split at h
    · rename_i hk
      exact pg_name h2 (by rw [h1]; exact ixOf0 h) (.inl (by rw [h3]; exact hk)) (.inr (by rw [h3]; exact hk))
    · rename_i hk
      split at h
      · rename_i hf
        exact pg_name h2 (by rw [h1]; exact ixOf0 h) (.inr (by rw [h3]; exact hk)) (.inl (h4 x hf))
      · cases h
    · cases h
  · cases h
theorem tgL_ok (h1 : X.N = N) (h2 : X.N.Nodup) (h3 : X.env.scope = sc) (h4 : ∀ x, fnb x = true → X.fn x = true) : ∀ {es : List Expr} {is : List Nat}, tgL N sc fnb es = some is → is.length = es.length ∧ PGs X es (gNs is) ∧ (assignEach es X.env).length = es.length ∧ (assignEach es X.env).findIdx? (·.1) = none
  | [], is, h => by
    unfold tgL at h
    cases h
    exact ⟨rfl, pgs_nil, rfl, rfl⟩
  | e :: es, is, h => by
    unfold tgL at h
    cases he : tg1 N sc fnb e with
    | none => rw [he] at h; cases h
    | some i =>
      rw [he] at h
      simp only [Option.bind_some] at h
      cases hr : tgL N sc fnb es with
      | none => rw [hr] at h; cases h
      | some t =>
        rw [hr] at h
        cases h
        obtain ⟨⟨x, p, rfl⟩, hg⟩ := tg1_ok h1 h2 h3 h4 he
        obtain ⟨i1, i2, i3, i4⟩ := tgL_ok h1 h2 h3 h4 hr
        have ea : assignEach (.Name x p :: es) X.env = (false, assign (.Name x p) X.env) :: assignEach es X.env := rfl
        refine ⟨congrArg Nat.succ i1, pgs_cons hg i2 (by rw [ea]; rfl), by rw [ea]; exact congrArg Nat.succ i3, ?_⟩
        rw [ea, List.findIdx?_cons]
        simp [i4]
theorem tgOf_ok (h1 : X.N = N) (h2 : X.N.Nodup) (h3 : X.env.scope = sc) (h4 : ∀ x, fnb x = true → X.fn x = true) {e : Expr} (hc : isTp e = true → X.calm = true) {is : List Nat} (h : tgOf N sc fnb e = some is) : is ≠ [] ∧ PG X e (gOf X.K is) := by
  unfold tgOf at h
  split at h
  · rename_i es kk p
    split at h
    · rename_i h2l
      obtain ⟨i1, i2, i3, i4⟩ := tgL_ok h1 h2 h3 h4 h
      have hl : 2 ≤ is.length := by rw [i1]; exact Nat.le_of_ble_eq_true h2l
      refine ⟨fun e => by rw [e] at hl; simp at hl, ?_⟩
      have : gOf X.K is = gTup X.K is.length (gNs is) := by
        cases is with
        | nil => simp at hl
        | cons i t =>
          cases t with
          | nil => simp at hl
          | cons j t => rfl
      rw [this]
      exact pg_tup (hc rfl) i2 (by rw [i3, i1]) i4
    · cases h
  · cases he : tg1 N sc fnb e with
    | none => rw [he] at h; cases h
    | some i =>
      rw [he] at h
      cases h
      exact ⟨fun e => (by cases e), (tg1_ok h1 h2 h3 h4 he).2⟩
end

/-! ### expressions -/
section
variable {T : Tb} {F : List Fd} {k : Nat} {gt : Gt} {cl : Calls}
/-- as a value and as a test -/
def EOK (X : Cx) (T : Tb) (W : WX) (cl : Calls) (c : CE) (e : Expr) : Prop := PE X e (tE X.K T W cl c) ∧ PT X e (tQ X.K T W cl c)
theorem EOK.val {X : Cx} {W : WX} {c : CE} {e : Expr} (h : PE X e (tE X.K T W cl c)) (hp : plainT e = true := by rfl) : EOK X T W cl c e := ⟨h, gt_val h (plain_t hp)⟩
theorem EOK.bad {X : Cx} {W : WX} {e : Expr} : EOK X T W cl .bad e := ⟨ge_bad, gt_bad⟩
section
variable {X : Cx} {W : WX} {f : Expr → CE}
theorem bx_ok {e : Expr} {c : CE} {pos : Pos} (h1 : PE X e (tF X.K T W cl c)) (h2 : PE X e (tE X.K T W cl c)) : PE X e (tE X.K T W cl (bx gt pos c)) := by
  unfold bx
  split
  · exact ge_box h1
  · exact h2
theorem bx_fresh {e : Expr} {c : CE} {pos : Pos} (h1 : PE X e (tF X.K T W cl c)) (hl : Lists cl c) : PE X e (tE X.K T W cl (bx gt pos c)) := bx_ok h1 (ge_fresh h1 hl)
theorem cL_ok (ih : ∀ e, EOK X T W cl (f e) e) : ∀ {es : List Expr}, noStars es = true → PA X es (tL X.K T W cl (cL f es))
  | [], _ => gl_nil
  | e :: es, h => by
    have h' := Bool.and_eq_true_iff.mp (show (!isStar e && noStars es) = true from h)
    exact gl_cons (ih e).1 (cL_ok ih h'.2) (star_no (by simpa using h'.1))
theorem cK_ok (ih : ∀ e, EOK X T W cl (f e) e) : ∀ {ks : List Keyword}, PK X ks (tL X.K T W cl (cK f ks))
  | [] => gk_nil
  | ⟨nm, e, p⟩ :: ks => gk_cons (ih e).1 (cK_ok ih)
theorem cL_len {cl : Calls} : ∀ {es : List Expr} {env : Env} {s : Sto} {ds : List D} {s' : Sto}, evEs cl (cL f es) env s = .ok ds s' → ds.length = es.length
  | [], env, s, ds, s', h => by
    simp only [cL, evEs] at h
    cases h
    rfl
  | e :: es, env, s, ds, s', h => by
    simp only [cL, evEs] at h
    cases h1 : evE cl (f e) env s with
    | bad => rw [h1] at h; cases h
    | err c d s1 => rw [h1] at h; cases h
    | ok d s1 =>
      rw [h1] at h
      simp only [R.bind] at h
      cases h2 : evEs cl (cL f es) env s1 with
      | bad => rw [h2] at h; cases h
      | err c d s1 => rw [h2] at h; cases h
      | ok t s2 =>
        rw [h2] at h
        cases h
        rw [List.length_cons, List.length_cons, cL_len h2]
theorem cK_len {cl : Calls} : ∀ {es : List Keyword} {env : Env} {s : Sto} {ds : List D} {s' : Sto}, evEs cl (cK f es) env s = .ok ds s' → ds.length = es.length
  | [], env, s, ds, s', h => by
    simp only [cK, evEs] at h
    cases h
    rfl
  | e :: es, env, s, ds, s', h => by
    simp only [cK, evEs] at h
    cases h1 : evE cl (f e.value) env s with
    | bad => rw [h1] at h; cases h
    | err c d s1 => rw [h1] at h; cases h
    | ok d s1 =>
      rw [h1] at h
      simp only [R.bind] at h
      cases h2 : evEs cl (cK f es) env s1 with
      | bad => rw [h2] at h; cases h
      | err c d s1 => rw [h2] at h; cases h
      | ok t s2 =>
        rw [h2] at h
        cases h
        rw [List.length_cons, List.length_cons, cK_len h2]
theorem cB_and (ih : ∀ e, EOK X T W cl (f e) e) {pos : Pos} : ∀ {es : List Expr}, es ≠ [] → PE X (.BoolOp .And es pos) (tE X.K T W cl (cB f true es)) ∧ PW X (.BoolOp .And es pos) (tQ X.K T W cl (cB f true es))
  | [], h => absurd rfl h
  | [a], _ => ⟨pe_one (ih a).1, pw_and1 (ih a).2⟩
  | a :: b :: r, _ => ⟨ge_and (ih a).1 (cB_and ih (by simp)).1, gw_and (ih a).2 (cB_and ih (by simp)).2⟩
theorem cB_or (ih : ∀ e, EOK X T W cl (f e) e) {pos : Pos} : ∀ {es : List Expr}, es ≠ [] → PE X (.BoolOp .Or es pos) (tE X.K T W cl (cB f false es)) ∧ PW X (.BoolOp .Or es pos) (tQ X.K T W cl (cB f false es))
  | [], h => absurd rfl h
  | [a], _ => ⟨pe_one (ih a).1, pw_or1 (ih a).2⟩
  | a :: b :: r, _ => ⟨ge_or (ih a).1 (cB_or ih (by simp)).1, gw_or (ih a).2 (cB_or ih (by simp)).2⟩
theorem cP_ok (ih : ∀ e, EOK X T W cl (f e) e) : ∀ (o : Option Expr), PO X o (tP X.K T W cl (cP f o))
  | none => gp_none
  | some e => gp_some (ih e).1
/-- each comparison's rule -/
theorem cop_ok {cc : Cc} (o : Xok X T F k gt W cc cl) {op : CmpOp} {q : COp} (hq : cop op = some q) : ∃ R : R2, OpR X (compareOp op) R ∧
    ∀ {r : List Addr} {G H : Hp} {s : Sto} {x y : D} {z : Bool} {v u : V} {Q : VK}, Gd X.K T r G H s → Rr X.K T r G H x v → Rr X.K T r G H y u → cmpD q x y = some z → Nxt X.K T Q r G H s (.bl z) → R v u H Q := by
  have hu : X.A.units + 64 < cLine := by have := o.un; omega
  have hu2 : X.A.units + 65 < cLine := by have := o.un; omega
  cases op <;> (unfold cop at hq; cases hq)
  · exact ⟨_, op_eqA hu, cmp_eq⟩
  · exact ⟨_, op_neA hu, cmp_ne⟩
  · exact ⟨_, op_lt, ord_ok⟩
  · exact ⟨_, op_le, ord_ok⟩
  · exact ⟨_, op_gt, ord_ok⟩
  · exact ⟨_, op_ge, ord_ok⟩
  · exact ⟨_, or_op op_isN1 op_isBl, cmp_is⟩
  · exact ⟨_, or_op op_notN1 op_notBl, cmp_isnot⟩
  · exact ⟨_, op_inA hu2, cmp_mem⟩
  · exact ⟨_, op_notInA hu2, cmp_nmem⟩
theorem cops_ok {cc : Cc} (o : Xok X T F k gt W cc cl) {op : CmpOp} {q : COp} (hq : cop op = some q) : ∃ R : R2, OpR X (compareOp op) R ∧
    ∀ {r : List Addr} {G H : Hp} {s : Sto} {x y : D} {z : Bool} {v u : V} {Q : VK}, Gd X.K T r G H s → Rr X.K T r G H x v → Rr X.K T r G H y u → cmpS q s x y = some z → Nxt X.K T Q r G H s (.bl z) → R v u H Q := by
  obtain ⟨R, h1, h2⟩ := cop_ok o hq
  have hu : X.A.units + 1 < cLine := by have := o.un; omega
  by_cases hm : op = .In
  · subst hm
    cases hq
    refine ⟨_, or_op h1 (op_din hu), fun g hx hy hz n => ?_⟩
    unfold cmpS at hz
    split at hz
    · rename_i b hb
      cases hz
      exact .inl (h2 g hx hy hb n)
    · exact .inr (din_mem g hx hy hz n)
  · by_cases hn : op = .NotIn
    · subst hn
      cases hq
      refine ⟨_, or_op h1 (op_dnot hu), fun g hx hy hz n => ?_⟩
      unfold cmpS at hz
      split at hz
      · rename_i b hb
        cases hz
        exact .inl (h2 g hx hy hb n)
      · exact .inr (din_nmem g hx hy hz n)
    · refine ⟨R, h1, fun g hx hy hz n => ?_⟩
      unfold cmpS at hz
      split at hz
      · rename_i b hb
        cases hz
        exact h2 g hx hy hb n
      · exfalso
        rcases din_no hz with e | e
        · subst e
          cases op <;> first | (cases hq; done) | exact hm rfl
        · subst e
          cases op <;> first | (cases hq; done) | exact hn rfl
theorem cmp_ok {cc : Cc} (o : Xok X T F k gt W cc cl) {a b : Expr} {ca cb : CE} {pos : Pos} {op : CmpOp} {q : COp} (hq : cop op = some q) (hs : isSet b = false) (ha : PE X a (tE X.K T W cl ca)) (hb : PE X b (tE X.K T W cl cb)) : EOK X T W cl (.cmp q ca cb) (.Compare a [op] [b] pos) := by
  obtain ⟨R, h1, h2⟩ := cops_ok o hq
  exact ge_cmp h1 (marks_no hs) h2 ha hb
theorem chn_ok {cc : Cc} (o : Xok X T F k gt W cc cl) {a b c : Expr} {ca cb cc' : CE} {pos : Pos} {op op2 : CmpOp} {q q2 : COp} (hq : cop op = some q) (hq2 : cop op2 = some q2) (hs : isSet c = false) (ha : PE X a (tE X.K T W cl ca)) (hb : PE X b (tE X.K T W cl cb)) (hc : PE X c (tE X.K T W cl cc')) : EOK X T W cl (.chn q q2 ca cb cc') (.Compare a [op, op2] [b, c] pos) := by
  obtain ⟨R, h1, h2⟩ := cop_ok o hq
  obtain ⟨R2, h3, h4⟩ := cop_ok o hq2
  exact ge_chn h1 h3 (show behindInMarks op2 c = false from marks_no hs) h2 h4 ha hb hc
theorem cLs_ok (ih : ∀ e, EOK X T W cl (f e) e) : ∀ es : List Expr, PA X es (tL X.K T W cl (cLs f es))
  | [] => gl_nil
  | e :: es => by
    cases e <;> first | exact gl_star (ih _).1 (cLs_ok ih es) | exact gl_cons (ih _).1 (cLs_ok ih es) (star_no rfl)
theorem isM1_ok {e : Expr} (h : isM1 e = true) : ∃ k p1 p2, e = .UnaryOp .USub (.Constant (.int 1) k p1) p2 := by
  unfold isM1 at h
  split at h
  · have h := of_decide_eq_true h
    subst h
    exact ⟨_, _, _, rfl⟩
  · cases h
theorem cSl_ok (ih : ∀ e, EOK X T W cl (f e) e) {a : Expr} {lo hi st : Option Expr} {p pos : Pos} : PE X (.Subscript a (.Slice lo hi st p) pos) (tE X.K T W cl (cSl gt f pos a lo hi st)) := by
  unfold cSl
  split
  · exact ge_slc (ih _).1 (cP_ok ih _) (cP_ok ih _)
  · split
    · rename_i e hc
      simp only [Bool.and_eq_true, Option.isNone_iff_eq_none] at hc
      obtain ⟨⟨c1, rfl⟩, rfl⟩ := hc
      obtain ⟨k, p1, p2, rfl⟩ := isM1_ok c1
      exact bx_ok (gf_rev (ih _).1) (ge_rev (ih _).1)
    · exact ge_bad
theorem cGet_ok {cc : Cc} (o : Xok X T F k gt W cc cl) (ih : ∀ e, EOK X T W cl (f e) e) {e a b : Expr} {m : Str} {ap cp : Pos} : PE X (.Call (.Attribute e m ap) [a, b] [] cp) (tE X.K T W cl (cGet f e m ap cp a b)) := by
  unfold cGet
  split
  · rename_i hc
    simp only [Bool.and_eq_true, Bool.not_eq_true', decide_eq_true_eq] at hc
    obtain ⟨⟨⟨⟨rfl, c2⟩, c3⟩, c4⟩, c5⟩ := hc
    cases e <;> first | (cases c2; done) | skip
    have hs : starEach [a, b] X.env = [(false, eval a X.env), (false, eval b X.env)] := by
      rw [star_no c3, star_no c4]
      rfl
    exact ge_dget (by have := o.un; omega) (ih _).1 (ih _).1 (ih _).1 ⟨rfl, by rw [hs]; rfl, c5, by rw [hs]; rfl⟩
  · exact ge_bad
theorem keys_each (ih : ∀ e, EOK X T W cl (f e) e) : ∀ {keys : List (Option Expr)} {values : List Expr} {ks : List L2.Key}, keysOf keys = some ks → keys.length = values.length → Each X T W cl keys values ks (cL f values)
  | [], values, ks, h, hl => by
    unfold keysOf at h
    cases h
    have : values = [] := List.eq_nil_of_length_eq_zero hl.symm
    subst this
    exact .nil
  | key :: keys, [], ks, h, hl => by cases hl
  | key :: keys, v :: values, ks, h, hl => by
    unfold keysOf at h
    split at h
    · rename_i heq; cases heq
    · rename_i x i p r heq
      cases heq
      cases hr : keysOf keys with
      | none => rw [hr] at h; cases h
      | some t =>
        rw [hr] at h
        cases h
        exact .cons pe_str (ih v).1 (keys_each ih hr (Nat.succ.inj hl))
    · rename_i x i p r heq
      cases heq
      cases hr : keysOf keys with
      | none => rw [hr] at h; cases h
      | some t =>
        rw [hr] at h
        cases h
        exact .cons pe_int (ih v).1 (keys_each ih hr (Nat.succ.inj hl))
    · cases h
/-! lists come of these -/
theorem lists_lst {cl : Calls} {es : CEs} : Lists cl (.lst es) := fun env s d s' h => by
  simp only [evE] at h
  cases h1 : evEs cl es env s with
  | bad => rw [h1] at h; cases h
  | err c d s1 => rw [h1] at h; cases h
  | ok ds s1 =>
    rw [h1] at h
    simp only [R.bind] at h
    split at h
    · cases h; exact ⟨ds, rfl⟩
    · cases h
theorem lists_lr1 {cl : Calls} {a : CE} : Lists cl (.lr1 a) := fun env s d s' h => by
  simp only [evE] at h
  cases h1 : evE cl a env s with
  | bad => rw [h1] at h; cases h
  | err c d s1 => rw [h1] at h; cases h
  | ok x s1 =>
    rw [h1] at h
    simp only [R.bind] at h
    cases x <;> first | (cases h; done) | skip
    simp only at h
    split at h
    · cases h; exact ⟨_, rfl⟩
    · cases h
theorem lists_lr2 {cl : Calls} {a b : CE} : Lists cl (.lr2 a b) := fun env s d s' h => by
  simp only [evE] at h
  cases h1 : evE cl a env s with
  | bad => rw [h1] at h; cases h
  | err c d s1 => rw [h1] at h; cases h
  | ok x s1 =>
    rw [h1] at h
    simp only [R.bind] at h
    cases h2 : evE cl b env s1 with
    | bad => rw [h2] at h; cases h
    | err c d s1 => rw [h2] at h; cases h
    | ok y s2 =>
      rw [h2] at h
      cases x <;> first | (cases h; done) | skip
      cases y <;> first | (cases h; done) | skip
      simp only at h
      split at h
      · cases h; exact ⟨_, rfl⟩
      · cases h
theorem lists_lc {cl : Calls} {own tg : List Nat} {e it c : CE} : Lists cl (.lc own tg e it c) := fun env s d s' h => by
  simp only [evE] at h
  cases h1 : evE cl it env s with
  | bad => rw [h1] at h; cases h
  | err c d s1 => rw [h1] at h; cases h
  | ok x s1 =>
    rw [h1] at h
    simp only [R.bind] at h
    cases h2 : seqOf x with
    | none => rw [h2] at h; cases h
    | some items =>
      rw [h2] at h
      simp only at h
      split at h
      · cases h; exact ⟨_, rfl⟩
      · cases h
      · cases h
theorem lists_listB {cl : Calls} {a : CE} : Lists cl (.bi .list (.cons a .nil)) := fun env s d s' h => by
  simp only [evE, evEs] at h
  cases h1 : evE cl a env s with
  | bad => rw [h1] at h; cases h
  | err c d s1 => rw [h1] at h; cases h
  | ok x s1 =>
    rw [h1] at h
    have h : lift (listB [rd s1 x]) s1 = .ok d s' := h
    generalize rd s1 x = y at h
    cases y <;> first | (cases h; done) | (cases h; exact ⟨_, rfl⟩)
/-- list(x) -/
theorem gf_list {a : Expr} {ca : CE} {e : Expr} (h : PE X e (tCB (rListB X.K) (tL X.K T W cl (.cons ca .nil)))) : PE X e (tF X.K T W cl (.bi .list (.cons ca .nil))) :=
  imp_e h fun σ H Q ⟨env, s, r, G, g, e, h⟩ => by
    simp only [evE] at h
    refine rdgF_bind g e h fun ds vs r1 G1 H1 s1 _ l1 g1 e1 hx h1 => ?_
    obtain ⟨zs, hz, h3⟩ := outF_lift h1
    have hr := RrL.of g1 hx
    have hz : listB (ds.map (rd s1)) = some (.lst zs) := hz
    generalize ds.map (rd s1) = ds' at hz hr
    unfold listB at hz
    split at hz <;> first | (cases hz; done) | skip
    · cases hz
      obtain ⟨v, rfl, h1⟩ := hr.one
      obtain ⟨p, xs, rfl, e1, e2⟩ := rr_lst h1
      exact ⟨p, xs, rfl, .inl (SqL.of e1), fun l hl => h3 l xs r1 G1 H1 Le.refl g1 e2 hl⟩
    · cases hz
      obtain ⟨v, rfl, h1⟩ := hr.one
      obtain ⟨p, xs, rfl, e1, e1', e2⟩ := rr_tup g1 h1
      exact ⟨p, xs, rfl, .inr e1, fun l hl => h3 l xs r1 G1 H1 Le.refl g1 e2 hl⟩
    · cases hz
      obtain ⟨v, rfl, h1⟩ := hr.one
      obtain ⟨p, xs, rfl, e1, e2⟩ := rr_scr g1 h1
      exact ⟨p, xs, rfl, .inl e1, fun l hl => h3 l xs r1 G1 H1 Le.refl g1 e2 hl⟩
end
end
end T5

set_option Elab.async false
set_option linter.all false
set_option maxRecDepth 100000
set_option maxHeartbeats 2000000
/-! T5: calls, comprehensions; all expressions. -/
namespace T5
open PySem PySem.Spec L2
open Evl (Ex)
section
variable {T : Tb} {F : List Fd} {k : Nat} {gt : Gt} {X : Cx} {W : WX} {cc : Cc} {cl : Calls} {f : Expr → CE}
theorem hpl1 {a : Expr} {pos : Pos} : (backTo pos (starEach ([] : List Expr) X.env)).any (·.1) = false := rfl
/-- T(a), f(a) of a built-in -/
theorem gb1 (o : Xok X T F k gt W cc cl) (ih : ∀ e, EOK X T W cl (f e) e) {id : String} {y : String} {x : Str} {q : List V → Hp → VK → Prop} (hx : isB gt cc x y = true) (hq : CallR X (.builtin id) q) (hv : bootBuiltins (Str.ofString y) = some (.builtin id)) (hn : Str.ofString y ≠ "__name__") (hdb : (Str.ofString y == ("__debug__" : Str)) = false)
    {a : Expr} {p pos : Pos} (hs : isStar a = false) : PE X (.Call (.Name x p) [a] [] pos) (tCB q (tL X.K T W cl (.cons (f a) .nil))) := by
  obtain ⟨rfl, h1, h2⟩ := isB_ok o hx
  exact pe_callB hq h1 h2 hv (gl_cons (ih a).1 gl_nil (star_no hs)) hn hdb (star_no hs) rfl
theorem gb1T (o : Xok X T F k gt W cc cl) (ih : ∀ e, EOK X T W cl (f e) e) {id : String} {y : String} {x : Str} {q : List V → Hp → VK → Prop} (hx : isB gt cc x y = true) (hq : CallR X (.type id) q) (hv : bootBuiltins (Str.ofString y) = some (.type id)) (hn : Str.ofString y ≠ "__name__") (hdb : (Str.ofString y == ("__debug__" : Str)) = false)
    {a : Expr} {p pos : Pos} (hs : isStar a = false) : PE X (.Call (.Name x p) [a] [] pos) (tCB q (tL X.K T W cl (.cons (f a) .nil))) := by
  obtain ⟨rfl, h1, h2⟩ := isB_ok o hx
  exact pe_callTy hq h1 h2 hv (gl_cons (ih a).1 gl_nil (star_no hs)) hn hdb (star_no hs) rfl
theorem c1_ok {b : Bi} {q : List V → Hp → VK → Prop} {x : Str} {p pos : Pos} (h : ∀ a, isStar a = false → PE X (.Call (.Name x p) [a] [] pos) (tCB q (tL X.K T W cl (.cons (f a) .nil))))
    (kk : ∀ {r : List Addr} {G H : Hp} {s : Sto} {ds : List D} {vs : List V} {z : D} {Q : VK}, Gd X.K T r G H s → RrL X.K T r G H ds vs → biD b ds = some z → Nxt X.K T Q r G H s z → q vs H Q) : ∀ args : List Expr, PE X (.Call (.Name x p) args [] pos) (tE X.K T W cl (c1 f b args))
  | [] => ge_bad
  | [a] => by
    show PE X _ (tE X.K T W cl (if isStar a then .bad else .bi b (.cons (f a) .nil)))
    split
    · exact ge_bad
    · rename_i hs
      exact ge_bi (h a (by simpa using hs)) kk
  | _ :: _ :: _ => ge_bad
theorem cLen_ok (o : Xok X T F k gt W cc cl) (ih : ∀ e, EOK X T W cl (f e) e) {x : Str} {p pos : Pos} (hx : isB gt cc x "len" = true) (args : List Expr) : PE X (.Call (.Name x p) args [] pos) (tE X.K T W cl (cLen gt cc f args)) := by
  unfold cLen
  split
  · rename_i y p2 a q2
    split
    · rename_i hc
      simp only [Bool.and_eq_true, Bool.not_eq_true'] at hc
      obtain ⟨⟨c1, c2⟩, c3⟩ := hc
      obtain ⟨rfl, h1, h2⟩ := isB_ok o hx
      obtain ⟨rfl, h3, h4⟩ := isB_ok o c1
      exact ge_lenset (o.calm c3) h1 h2 h3 h4 (ih a).1 c2
    · exact ge_bi (gb1 o ih hx call_len_seq (by decide +kernel) (by decide +kernel) (by decide +kernel) rfl) bi_len
  · rename_i a _
    split
    · exact ge_bad
    · rename_i hs
      exact ge_bi (gb1 o ih hx call_len_seq (by decide +kernel) (by decide +kernel) (by decide +kernel) (by simpa using hs)) bi_len
  · exact ge_bad
theorem gfl (o : Xok X T F k gt W cc cl) (ih : ∀ e, EOK X T W cl (f e) e) {x : Str} {p pos bp : Pos} (hx : isB gt cc x "list" = true) (a : Expr) (hs : isStar a = false) : PE X (.Call (.Name x p) [a] [] pos) (tE X.K T W cl (bx gt bp (.bi .list (.cons (f a) .nil)))) :=
  bx_fresh (gf_list (a := a) (gb1T o ih hx call_list_of (by decide +kernel) (by decide +kernel) (by decide +kernel) hs)) lists_listB
theorem cList_ok (o : Xok X T F k gt W cc cl) (ih : ∀ e, EOK X T W cl (f e) e) {x : Str} {p pos : Pos} (hx : isB gt cc x "list" = true) (args : List Expr) : PE X (.Call (.Name x p) args [] pos) (tE X.K T W cl (cList gt cc f pos args)) := by
  unfold cList
  split
  · rename_i y p2 a q2
    split
    · rename_i hc
      simp only [Bool.and_eq_true, Bool.not_eq_true'] at hc
      obtain ⟨⟨c1, c2⟩, c3⟩ := hc
      obtain ⟨rfl, h1, h2⟩ := isB_ok o hx
      obtain ⟨rfl, h3, h4⟩ := isB_ok o c1
      exact bx_fresh (gf_lr1 (o.calm c3) h1 h2 h3 h4 (ih a).1 c2) lists_lr1
    · exact gfl o ih hx _ rfl
  · rename_i y p2 a b q2
    split
    · rename_i hc
      simp only [Bool.and_eq_true, Bool.not_eq_true'] at hc
      obtain ⟨⟨⟨c1, c2⟩, c3⟩, c4⟩ := hc
      obtain ⟨rfl, h1, h2⟩ := isB_ok o hx
      obtain ⟨rfl, h3, h4⟩ := isB_ok o c1
      exact bx_fresh (gf_lr2 (o.calm c4) h1 h2 h3 h4 (ih a).1 (ih b).1 c2 c3) lists_lr2
    · split
      · rename_i hc
        simp only [Bool.and_eq_true, Bool.not_eq_true'] at hc
        obtain ⟨⟨⟨c1, c2⟩, c3⟩, c4⟩ := hc
        obtain ⟨rfl, h1, h2⟩ := isB_ok o hx
        obtain ⟨rfl, h3, h4⟩ := isB_ok o c1
        exact bx_fresh (gf_lz (o.calm c4) h1 h2 h3 h4 (ih a).1 (ih b).1 (star_no c2) (star_no c3)) lz_lists
      · exact gfl o ih hx _ rfl
  · rename_i a _ _
    split
    · exact ge_bad
    · rename_i hs
      exact gfl o ih hx a (by simpa using hs)
  · exact ge_bad
theorem tyName_ok (o : Xok X T F k gt W cc cl) {t : Str} {n : String} {pos : Pos} (h : tyName gt cc t = some n) : PE X (.Name t pos) (tE X.K T W cl (.con (.ty n))) ∧ isStar (.Name t pos) = false := by
  refine ⟨?_, rfl⟩
  have fin : ∀ {y : String}, isB gt cc t y = true → bootBuiltins (Str.ofString y) = some (.type y) → Str.ofString y ≠ "__name__" → (Str.ofString y == ("__debug__" : Str)) = false → PE X (.Name t pos) (tE X.K T W cl (.con (.ty y))) := fun hy hv hn hd => by
    obtain ⟨rfl, h1, h2⟩ := isB_ok o hy
    exact ge_con (pe_bltn (v := .ty _) h1 h2 hv rfl hn hd) fun _ _ => by unfold Rp; rfl
  unfold tyName at h
  split at h
  · cases h; exact fin ‹_› (by decide +kernel) (by decide +kernel) (by decide +kernel)
  · split at h
    · cases h; exact fin ‹_› (by decide +kernel) (by decide +kernel) (by decide +kernel)
    · split at h
      · cases h; exact fin ‹_› (by decide +kernel) (by decide +kernel) (by decide +kernel)
      · split at h
        · cases h; exact fin ‹_› (by decide +kernel) (by decide +kernel) (by decide +kernel)
        · split at h
          · cases h; exact fin ‹_› (by decide +kernel) (by decide +kernel) (by decide +kernel)
          · cases h
theorem cIsi_ok (o : Xok X T F k gt W cc cl) (ih : ∀ e, EOK X T W cl (f e) e) {x : Str} {p pos : Pos} (hx : isB gt cc x "isinstance" = true) (args : List Expr) : PE X (.Call (.Name x p) args [] pos) (tE X.K T W cl (cIsi gt cc f args)) := by
  unfold cIsi
  split
  · rename_i a t q
    split
    · rename_i c hc
      obtain ⟨rfl, h1, h2⟩ := isB_ok o hx
      cases a <;> first | (cases hc; done) | skip
      rename_i n pn
      unfold cExi at hc
      cases he : cc.exn with
      | none => rw [he] at hc; cases hc
      | some mi =>
        obtain ⟨m, i⟩ := mi
        rw [he] at hc
        simp only at hc
        split at hc
        · rename_i hcc
          obtain ⟨d1, d2⟩ := Bool.and_eq_true_iff.mp hcc
          have d1 := of_decide_eq_true d1
          subst d1
          cases hl : gt.isa.lookup t with
          | none => rw [hl] at hc; cases hc
          | some cs =>
            rw [hl] at hc
            cases hc
            refine o.exi n i he t cs hl d2 ?_ h2 p pn q pos
            unfold Cc.glob Cc.kind
            have h1 : X.env.scope.names.lookup (Str.ofString "isinstance") = some .globalImplicit := h1
            rw [o.sc] at h1
            rw [h1]
            decide
        · cases hc
    · split
      · rename_i n hn
        split
        · exact ge_bad
        · rename_i hs
          have hs' : isStar a = false := by simpa using hs
          obtain ⟨rfl, h1, h2⟩ := isB_ok o hx
          obtain ⟨h3, h4⟩ := tyName_ok (pos := q) o hn
          exact ge_bi (pe_callB call_isi h1 h2 (by decide +kernel) (gl_cons (ih a).1 (gl_cons h3 gl_nil (star_no h4)) (star_no hs')) (by decide +kernel) (by decide +kernel) (star_no hs') (star_any (by simp [noStars, h4]))) bi_isi
      · exact ge_bad
  · rename_i a t q1 u q2 kk q3
    obtain ⟨rfl, h1, h2⟩ := isB_ok o hx
    unfold cExi2
    cases a <;> first | exact ge_bad | skip
    rename_i n pn
    simp only
    cases he : cc.exn with
    | none => exact ge_bad
    | some mi =>
      obtain ⟨m, i⟩ := mi
      simp only
      split
      · rename_i hcc
        obtain ⟨d12, d3⟩ := Bool.and_eq_true_iff.mp hcc
        obtain ⟨d1, d2⟩ := Bool.and_eq_true_iff.mp d12
        have d1 := of_decide_eq_true d1
        subst d1
        split
        · rename_i cs ds hl1 hl2
          refine o.exi2 n i he t cs hl1 d2 u ds hl2 d3 ?_ h2 p pn q1 q2 q3 kk pos
          unfold Cc.glob Cc.kind
          have h1 : X.env.scope.names.lookup (Str.ofString "isinstance") = some .globalImplicit := h1
          rw [o.sc] at h1
          rw [h1]
          decide
        · exact ge_bad
      · exact ge_bad
  · exact ge_bad
theorem gb2 (o : Xok X T F k gt W cc cl) (ih : ∀ e, EOK X T W cl (f e) e) {id : String} {y : String} {x : Str} {q : List V → Hp → VK → Prop} (hx : isB gt cc x y = true) (hq : CallR X (.builtin id) q) (hv : bootBuiltins (Str.ofString y) = some (.builtin id)) (hn : Str.ofString y ≠ "__name__") (hdb : (Str.ofString y == ("__debug__" : Str)) = false)
    {a b : Expr} {p pos : Pos} (hs : isStar a = false) (hs2 : isStar b = false) : PE X (.Call (.Name x p) [a, b] [] pos) (tCB q (tL X.K T W cl (.cons (f a) (.cons (f b) .nil)))) := by
  obtain ⟨rfl, h1, h2⟩ := isB_ok o hx
  exact pe_callB hq h1 h2 hv (gl_cons (ih a).1 (gl_cons (ih b).1 gl_nil (star_no hs2)) (star_no hs)) hn hdb (star_no hs) (star_any (by simp [noStars, hs2]))
theorem c12_ok {b : Bi} {q : List V → Hp → VK → Prop} {x : Str} {p pos : Pos} (h : ∀ a, isStar a = false → PE X (.Call (.Name x p) [a] [] pos) (tCB q (tL X.K T W cl (.cons (f a) .nil))))
    (h2 : ∀ a c, isStar a = false → isStar c = false → PE X (.Call (.Name x p) [a, c] [] pos) (tCB q (tL X.K T W cl (.cons (f a) (.cons (f c) .nil)))))
    (kk : ∀ {r : List Addr} {G H : Hp} {s : Sto} {ds : List D} {vs : List V} {z : D} {Q : VK}, Gd X.K T r G H s → RrL X.K T r G H ds vs → biD b ds = some z → Nxt X.K T Q r G H s z → q vs H Q) : ∀ args : List Expr, PE X (.Call (.Name x p) args [] pos) (tE X.K T W cl (c12 f b args))
  | [] => ge_bad
  | [a] => by
    show PE X _ (tE X.K T W cl (if isStar a then .bad else .bi b (.cons (f a) .nil)))
    split
    · exact ge_bad
    · rename_i hs
      exact ge_bi (h a (by simpa using hs)) kk
  | [a, c] => by
    show PE X _ (tE X.K T W cl (if isStar a || isStar c then .bad else .bi b (.cons (f a) (.cons (f c) .nil))))
    split
    · exact ge_bad
    · rename_i hs
      have hs : isStar a = false ∧ isStar c = false := by simpa using hs
      exact ge_bi (h2 a c hs.1 hs.2) kk
  | _ :: _ :: _ :: _ => ge_bad
theorem cBi2_ok (o : Xok X T F k gt W cc cl) (ih : ∀ e, EOK X T W cl (f e) e) {x : Str} {p pos : Pos} (args : List Expr) : PE X (.Call (.Name x p) args [] pos) (tE X.K T W cl (cBi2 gt cc f x args pos)) := by
  have cal : ∀ {y : String}, (isB gt cc x y && !cc.hot) = true → isB gt cc x y = true ∧ X.calm = true := fun h => by
    obtain ⟨h1, h2⟩ := Bool.and_eq_true_iff.mp h
    exact ⟨h1, o.calm (by simpa using h2)⟩
  unfold cBi2
  split
  · obtain ⟨h1, h2⟩ := cal ‹_›
    exact c1_ok (fun a hs => gb1 o ih h1 (cr_all h2) (by decide +kernel) (by decide +kernel) (by decide +kernel) hs) bi_all args
  · split
    · obtain ⟨h1, h2⟩ := cal ‹_›
      exact c1_ok (fun a hs => gb1 o ih h1 (cr_any h2) (by decide +kernel) (by decide +kernel) (by decide +kernel) hs) bi_any args
    · split
      · obtain ⟨h1, h2⟩ := cal ‹_›
        exact c12_ok (fun a hs => gb1 o ih h1 (cr_maxA h2) (by decide +kernel) (by decide +kernel) (by decide +kernel) hs) (fun a c hs hs2 => gb2 o ih h1 (cr_maxA h2) (by decide +kernel) (by decide +kernel) (by decide +kernel) hs hs2) bi_max args
      · split
        · obtain ⟨h1, h2⟩ := cal ‹_›
          exact c12_ok (fun a hs => gb1 o ih h1 (cr_minA h2) (by decide +kernel) (by decide +kernel) (by decide +kernel) hs) (fun a c hs hs2 => gb2 o ih h1 (cr_minA h2) (by decide +kernel) (by decide +kernel) (by decide +kernel) hs hs2) bi_min args
        · split
          · exact c1_ok (q := rAbs1) (fun a hs => gb1 o ih ‹_› call_abs (by decide +kernel) (by decide +kernel) (by decide +kernel) hs) bi_abs args
          · split
            · obtain ⟨h1, h2⟩ := cal ‹_›
              unfold cDicp
              split
              · split
                · exact ge_bad
                · rename_i hs
                  exact ge_dicp (gb1T o ih h1 (call_dictP h2) (by decide +kernel) (by decide +kernel) (by decide +kernel) (by simpa using hs))
              · exact ge_bad
            · exact ge_bad
theorem cBi_ok (o : Xok X T F k gt W cc cl) (ih : ∀ e, EOK X T W cl (f e) e) {x : Str} {p pos : Pos} (args : List Expr) : PE X (.Call (.Name x p) args [] pos) (tE X.K T W cl (cBi gt cc f x args pos)) := by
  have hr := o.un
  unfold cBi
  split
  · exact cLen_ok o ih ‹_› args
  · split
    · exact cList_ok o ih ‹_› args
    · split
      · exact cIsi_ok o ih ‹_› args
      · split
        · rename_i hsum
          obtain ⟨hsum1, hcalm⟩ := Bool.and_eq_true_iff.mp hsum
          have hcalm : cc.hot = false := by simpa using hcalm
          exact c1_ok (q := rSumA X.K) (fun a hs => gb1 o ih hsum1 (or_c (cr_sum (o.calm hcalm)) (call_sumT (o.calm hcalm))) (by decide +kernel) (by decide +kernel) (by decide +kernel) hs) bi_sum args
        · split
          · exact c1_ok (fun a hs => gb1T o ih ‹_› call_int1 (by decide +kernel) (by decide +kernel) (by decide +kernel) hs) bi_int args
          · split
            · exact c1_ok (fun a hs => gb1T o ih ‹_› call_tuple_of (by decide +kernel) (by decide +kernel) (by decide +kernel) hs) bi_tup args
            · split
              · exact c1_ok (q := rSortA X.K) (fun a hs => gb1 o ih ‹_› (or_c cr_sortedI (or_c cr_sortedPO cr_sortB)) (by decide +kernel) (by decide +kernel) (by decide +kernel) hs) bi_sorted args
              · split
                · exact c1_ok (fun a hs => gb1 o ih ‹_› (call_reprA o.gd (by omega)) (by decide +kernel) (by decide +kernel) (by decide +kernel) hs) bi_repr args
                · exact cBi2_ok o ih args
theorem cCall_ok (o : Xok X T F k gt W cc cl) (ih : ∀ e, EOK X T W cl (f e) e) {x : Str} {p pos : Pos} (args : List Expr) (kws : List Keyword) : PE X (.Call (.Name x p) args kws pos) (tE X.K T W cl (cCall gt cc f x args kws pos)) := by
  unfold cCall
  split
  · rename_i i hi
    split
    · rename_i hc
      have hc0 := Bool.and_eq_true_iff.mp hc
      have hc' := Bool.and_eq_true_iff.mp hc0.1
      split
      · rename_i ks hks
        split
        · rename_i src hsrc
          obtain ⟨g1, g2⟩ := glob_ok o hc'.1
          obtain ⟨m0, fa, fd, ps, m1, m2, m3, m4⟩ := o.fns hc0.2 x i hi
          obtain ⟨k1, k2, k3, k4⟩ := kw_ok (pos := pos) (env := X.env) hks
          refine ge_call m0 m3 (o.room hc0.2) o.gd o.tk g1 m1 m2 (m4 _ _ _ hsrc) (cL_ok ih hc'.2) (cK_ok ih) k1 k2 k4 g2 (fun e t he => ?_) (fun he => by rw [he]; rfl) (fun _ _ _ _ h => cL_len h) (fun _ _ _ _ h => cK_len h) ?_
          · subst he
            have := Bool.and_eq_true_iff.mp (show (!isStar e && noStars t) = true from hc'.2)
            exact star_no (by simpa using this.1)
          · rw [star_any hc'.2, k3]
            rfl
        · exact ge_bad
      · exact ge_bad
    · exact ge_bad
  · split
    · exact cBi_ok o ih args
    · exact ge_bad
theorem cI_ok (o : Xok X T F k gt W cc cl) (ih : ∀ e, EOK X T W cl (f e) e) {tg : Expr} (e : Expr) : PI X tg e (tI X.K T W cl (cI gt cc f (isTp tg) e)) := by
  unfold cI
  split
  · rename_i y p a q
    split
    · rename_i hc
      have hc' := Bool.and_eq_true_iff.mp hc
      obtain ⟨rfl, h1, h2⟩ := isB_ok o hc'.1
      exact gi_rng1 h1 h2 (ih a).1 (star_no (by simpa using hc'.2))
    · split
      · rename_i hc
        simp only [Bool.and_eq_true, Bool.not_eq_true'] at hc
        obtain ⟨⟨c1, c2⟩, c3⟩ := hc
        obtain ⟨rfl, h1, h2⟩ := isB_ok o c1
        cases tg <;> first | (cases c3; done) | skip
        exact gi_enum h1 h2 (ih a).1 (star_no c2)
      · exact gi_seq (ih _).1
  · rename_i y p a b q
    split
    · rename_i hc
      simp only [Bool.and_eq_true, Bool.not_eq_true'] at hc
      obtain ⟨⟨c1, c2⟩, c3⟩ := hc
      obtain ⟨rfl, h1, h2⟩ := isB_ok o c1
      exact gi_rng2 h1 h2 (ih a).1 (ih b).1 (star_no c2) (star_no c3)
    · split
      · rename_i hc
        simp only [Bool.and_eq_true, Bool.not_eq_true'] at hc
        obtain ⟨⟨⟨c1, c2⟩, c3⟩, c4⟩ := hc
        obtain ⟨rfl, h1, h2⟩ := isB_ok o c1
        cases tg <;> first | (cases c4; done) | skip
        exact gi_zip h1 h2 (ih a).1 (ih b).1 (star_no c2) (star_no c3)
      · exact gi_seq (ih _).1
  · rename_i y p a b c q
    split
    · rename_i hc
      simp only [Bool.and_eq_true, Bool.not_eq_true'] at hc
      obtain ⟨⟨⟨c1, c2⟩, c3⟩, c4⟩ := hc
      obtain ⟨rfl, h1, h2⟩ := isB_ok o c1
      exact gi_rng3 h1 h2 (ih a).1 (ih b).1 (ih c).1 (star_no c2) (star_no c3) (star_no c4)
    · exact gi_seq (ih _).1
  · exact gi_seq (ih e).1
/-- a comprehension's block -/
theorem blk_ok (o : Xok X T F k gt W cc cl) {scope : Scope} (hk : scope.kind = .function) (s : Shared) (H : Hp) (C : Addr) (cs : List (Str × Addr)) (fp : List Addr) (hh : cc.hot = false) : Xok (X.blk s H scope (compEnvC scope cs C X.env) fp) T F k gt W0 { N := cc.N, sc := relS scope cc.sc, cold := cc.cold } cl where
  hN := o.hN
  nd := o.nd
  sc := by
    have : (compEnvC scope cs C X.env).scope = relS scope X.env.scope := rfl
    show (compEnvC scope cs C X.env).scope = _
    rw [this, o.sc]
  kd := hk
  calm := fun _ => o.calm hh
  tk := takes0
  room := o.room
  un := o.un
  gd := o.gd
  own := PassesOwn.never
  fns := o.fns
  blt := o.blt
  act := fun _ z => by cases z
  exi := fun _ _ z => by cases z
  exi2 := fun _ _ z => by cases z
  exf := fun _ _ z => by cases z
  lam := fun z => by cases z
  fnl := fun z => by cases z
  lmc := fun z => by cases z
theorem tgOf_ne {N : List Str} {sc : Scope} {fnb : Str → Bool} {e : Expr} {is : List Nat} (h : tgOf N sc fnb e = some is) : is ≠ [] := by
  unfold tgOf at h
  split at h
  · rename_i es kk p
    split at h
    · rename_i h2l
      have h2 : 2 ≤ es.length := Nat.le_of_ble_eq_true h2l
      cases es with
      | nil => simp at h2
      | cons a r =>
        unfold tgL at h
        cases h1 : tg1 N sc fnb a with
        | none => rw [h1] at h; cases h
        | some i =>
          rw [h1] at h
          cases hr : tgL N sc fnb r with
          | none => rw [hr] at h; cases h
          | some t =>
            rw [hr] at h
            cases h
            exact fun z => (by cases z)
    · cases h
  · cases h1 : tg1 N sc fnb e with
    | none => rw [h1] at h; cases h
    | some i =>
      rw [h1] at h
      cases h
      exact fun z => (by cases z)
/-- the whole reading of a comprehension, for a value and for a store -/
theorem lc_all (o : Xok X T F k gt W cc cl) (n : Nat) (ih : ∀ (cc : Cc) (X : Cx) (W : WX) (e : Expr), Xok X T F k gt W cc cl → EOK X T W cl (cE gt n cc e) e) {tg it : Expr} {scope : Scope} {tgs : List Nat} (hh : cc.hot = false)
    (hb : L2.blkC cc.N cc.sc scope (ownOf scope cc.N) = true) (ht : tgOf cc.N (relS scope cc.sc) (fun x => scope.names.lookup x == some .cell) tg = some tgs) :
    PI X tg it (tI X.K T W cl (cI gt cc (cE gt n cc) (isTp tg) it)) ∧ BlkOk X.N X.env.scope scope (ownOf scope cc.N) ∧
    (∀ (s : Shared) (H : Hp) (C : Addr) (cs : List (Str × Addr)) (fp : List Addr), PG (X.blk s H scope (compEnvC scope cs C X.env) fp) tg (gOf X.K tgs)) ∧
    (∀ (c : Expr) (s : Shared) (H : Hp) (C : Addr) (cs : List (Str × Addr)) (fp : List Addr), EOK (X.blk s H scope (compEnvC scope cs C X.env) fp) T W0 cl (cE gt n { N := cc.N, sc := relS scope cc.sc, cold := cc.cold } c) c) ∧ TgOk X.K T (gOf X.K tgs) tgs := by
  have hB : BlkOk cc.N cc.sc scope (ownOf scope cc.N) := blkOk_by hb
  refine ⟨cI_ok o (fun e => ih cc X W e o) it, by rw [o.hN, o.sc]; exact hB, fun s H C cs fp => ?_, fun c s H C cs fp => ih _ _ _ c (blk_ok o hB.kind s H C cs fp hh), tgOk_of (tgOf_ne ht)⟩
  have b := blk_ok o hB.kind s H C cs fp hh
  exact (tgOf_ok (X := X.blk s H scope (compEnvC scope cs C X.env) fp) b.hN b.nd b.sc (fun x hx => hx) (fun _ => b.calm rfl) ht).2
theorem sub_of {own : List (Str × Nat)} {tgs : List Nat} (h : (tgs.all fun i => (own.map (·.2)).contains i) = true) : ∀ i ∈ tgs, i ∈ own.map (·.2) := fun i hi => by
  have := List.all_eq_true.mp h i hi
  simpa using this
theorem lamS_of {sc : Scope} {params : Arguments} {scope : Scope} (h : lamB sc params scope = true) : LamX.LamS sc scope := by
  unfold lamB at h
  simp only [Bool.and_eq_true] at h
  exact LamX.lamS_by h.1.1.1.1.1.1.1
/-- a lambda's body -/
theorem lam_ok (o : Xok X T F k gt W cc cl) (hl : cc.lm = true) {params : Arguments} {scope : Scope} (hB : lamB cc.sc params scope = true) (A : Around) (outer : List PySem.Env) (s : Shared) (H : Hp) (E : XK) (f c' : Addr) (hg : A.guards = X.A.guards) (hr : Room (3 * k) (A.deeper (LamX.lamEnv X scope s.heap.objs.size f c'))) :
    Xok (LamX.lamCx X A outer s H E scope f c') T F k gt (fun cls d _ H => E cls d H) { N := cc.N, sc := scope } cl where
  hN := o.hN
  nd := o.nd
  sc := rfl
  kd := (lamS_of hB).kind
  calm := fun _ => rfl
  tk := takes_of rfl rfl rfl rfl
  room := fun _ => hr
  un := by
    have := hr.un
    show (A.deeper (LamX.lamEnv X scope s.heap.objs.size f c')).units + 200 < cLine
    omega
  gd := by
    show A.guards = _
    rw [hg]
    exact o.gd
  own := passes_of rfl
  fns := fun _ => o.fns (o.lmc hl)
  blt := o.blt
  act := fun _ z => by cases z
  exi := fun _ _ z => by cases z
  exi2 := fun _ _ z => by cases z
  exf := fun _ _ z => by cases z
  lam := fun z => by cases z
  fnl := fun z => by cases z
  lmc := fun z => by cases z
/-- all expressions -/
theorem cE_ok : ∀ (n : Nat) (cc : Cc) (X : Cx) (W : WX) (e : Expr), Xok X T F k gt W cc cl → EOK X T W cl (cE gt n cc e) e
  | 0, cc, X, W, e, o => .bad
  | n + 1, cc, X, W, e, o => by
    have ih := cE_ok n
    have ihx : ∀ e, EOK X T W cl (cE gt n cc e) e := fun e => ih cc X W e o
    have hu := o.un
    unfold cE
    split
    · -- a name
      rename_i x p
      split
      · rename_i i hi
        obtain ⟨h1, h2, h3, h4⟩ := var_ok o hi
        exact .val (ge_var h1 h2 h3 h4)
      · exact .bad
    · exact .val ge_int
    · exact .val ge_bl
    · exact .val ge_str
    · exact .val ge_non
    · exact .val (bx_ok (gf_add (ihx _).1 (ihx _).1) (ge_add (ihx _).1 (ihx _).1))
    · exact .val (ge_sub (ihx _).1 (ihx _).1)
    · exact .val (bx_ok (gf_mul (ihx _).1 (ihx _).1) (ge_mul (ihx _).1 (ihx _).1))
    · exact .val (ge_fdiv (ihx _).1 (ihx _).1)
    · exact .val (ge_mod (ihx _).1 (ihx _).1)
    · exact .val (ge_pow (ihx _).1 (ihx _).1)
    · exact .val (ge_neg (ihx _).1)
    · exact ⟨ge_not (ihx _).1, gt_not (ihx _).2⟩
    · rename_i es p
      cases es with
      | nil => exact .bad
      | cons a r => exact ⟨(cB_and ihx (by simp)).1, (cB_and ihx (by simp)).2.pt⟩
    · rename_i es p
      cases es with
      | nil => exact .bad
      | cons a r => exact ⟨(cB_or ihx (by simp)).1, (cB_or ihx (by simp)).2.pt⟩
    · exact ⟨ge_ite (ihx _).2 (ihx _).1 (ihx _).1, gt_ite (ihx _).2 (ihx _).2 (ihx _).2⟩
    · split
      · exact .bad
      · rename_i hs
        split
        · rename_i q hq
          exact cmp_ok o hq (by simpa using hs) (ihx _).1 (ihx _).1
        · exact .bad
    · split
      · exact .bad
      · rename_i hs
        split
        · rename_i q q2 hq hq2
          exact chn_ok o hq hq2 (by simpa using hs) (ihx _).1 (ihx _).1 (ihx _).1
        · exact .bad
    · split
      · rename_i hs
        exact .val (ge_tup (cL_ok ihx hs))
      · exact .val (ge_tup (cLs_ok ihx _))
    · split
      · rename_i hs
        exact .val (bx_fresh (gf_lst (cL_ok ihx hs)) lists_lst)
      · exact .val (bx_fresh (gf_lst (cLs_ok ihx _)) lists_lst)
    · exact .val ge_dnew
    · rename_i keys values p hno
      split
      · rename_i ks hk
        split
        · rename_i hc
          simp only [Bool.and_eq_true] at hc
          obtain ⟨⟨c1, c2⟩, c3⟩ := hc
          refine .val (ge_dic (keys_each ihx hk (Nat.eq_of_beq_eq_true c1)) (fun z => ?_) (Nat.le_of_ble_eq_true c2))
          rw [z] at c3
          cases c3
        · exact .bad
      · exact .bad
    · exact .val (cSl_ok ihx)
    · split
      · exact .bad
      · rename_i hs
        exact .val (ge_idx (by omega) (ihx _).1 (ihx _).1 (plain_ix (by simpa using hs)))
    · rename_i elt tg it ifs scope pos
      split
      · rename_i hc
        have hc0 := Bool.and_eq_true_iff.mp hc
        have hc' := Bool.and_eq_true_iff.mp hc0.1
        have hh : cc.hot = false := by simpa using hc0.2
        have hs : isSet it = false := by simpa using hc'.2
        split
        · rename_i tgs ht
          split
          · rename_i hsub
            obtain ⟨a1, a2, a3, a4, a5⟩ := lc_all (it := it) o n ih hh hc'.1 ht
            split
            · refine .val (bx_fresh (imp_e (pe_lc (o.calm hh) o.nd a1 a2 a3 (fun s H C cl fp => gs_nil (T := T) (W := W0) (cl := run F k)) (fun s H C cl fp => (a4 elt s H C cl fp).1) (folded_no hs)) (lc_reads a5 (sub_of hsub))) lists_lc)
            · rename_i c
              refine .val (bx_fresh (imp_e (pe_lc (o.calm hh) o.nd a1 a2 a3 (fun s H C cl fp => gs_one (a4 c s H C cl fp).2) (fun s H C cl fp => (a4 elt s H C cl fp).1) (folded_no hs)) (lc_reads a5 (sub_of hsub))) lists_lc)
            · exact .bad
          · exact .bad
        · exact .bad
      · exact .bad
    · rename_i x p args kws pos
      split
      · rename_i ha
        unfold cAct at ha
        split at ha
        · exact .val (o.act x (of_decide_eq_true ha) _ _)
        · cases ha
      · split
        · rename_i c hc
          unfold cLam at hc
          split at hc
          · rename_i params body scope lp _
            split at hc
            · rename_i hcc
              simp only [Bool.and_eq_true] at hcc
              obtain ⟨⟨c1, c2⟩, c3⟩ := hcc
              cases hl : gt.lams.lookup x with
              | none => rw [hl] at hc; cases hc
              | some i =>
                rw [hl] at hc
                cases hc
                refine .val (o.lam c1 x i hl c2 params body scope _ p lp pos c3 fun A outer s H E f c' hgd hrm => (ih { N := cc.N, sc := scope } _ _ body (lam_ok o c1 c3 A outer s H E f c' hgd hrm)).1)
            · cases hc
          · cases hc
        · exact .val (cCall_ok o ihx _ _)
    · exact .val (cGet_ok o ihx)
    · rename_i m p f pos
      split
      · rename_i m' i he
        split
        · rename_i hm
          have hm := of_decide_eq_true hm
          subst hm
          split
          · rename_i js hj
            exact .val (o.exf m i he f js hj p pos)
          · exact .bad
        · exact .bad
      · exact .bad
    · exact .bad
end
end T5

set_option Elab.async false
set_option linter.all false
set_option maxRecDepth 100000
set_option maxHeartbeats 2000000
/-! T5: from the text to the core language, statements. -/
namespace T5
open PySem PySem.Spec L2
open Evl (Ex)

def isComp : Expr → Bool
  | .ListComp .. => true
  | .SetComp .. => true
  | .DictComp .. => true
  | _ => false
theorem sw_no {e : Expr} {t : Option Expr} {l : Nat} {env : PySem.Env} (h : isComp e = false) : swapsWith e t l env = pure false := by
  cases e <;> first | rfl | cases h
theorem sw_sole {e tg : Expr} {l : Nat} {env : PySem.Env} (h : isComp e = false) : swapsWithSole [tg] e l env = pure false := by
  show swapsWith e (some tg) l env = _
  exact sw_no h
def isTup : Expr → Bool
  | .Tuple .. => true
  | _ => false
theorem ss_no {tg e : Expr} {env : PySem.Env} (h : isTup e = false) : swappedStores [tg] e env = pure none := by
  cases e <;> first | (cases h; done) | (cases tg <;> rfl)
theorem ss_name {x : Str} {p : Pos} {e : Expr} {env : PySem.Env} : swappedStores [.Name x p] e env = pure none := by
  cases e <;> rfl
theorem ss_sub {a b : Expr} {p : Pos} {e : Expr} {env : PySem.Env} : swappedStores [.Subscript a b p] e env = pure none := by
  cases e <;> rfl
/-- the names that are stored last first, if so; none: not known -/
def nms (sc : Scope) (ts : List Expr) : List Str := ts.filterMap fun
  | .Name id pos => if sc.names.lookup id == some .local && pos.line == (ts.head?.map (·.pos.line)).getD 0 then some id else none
  | _ => none
def anyStar (vs : List Expr) : Bool := vs.any fun
  | .Starred .. => true
  | _ => false
def sws (sc : Scope) (ts vs : List Expr) : Option (Option (List Str)) :=
  if !(ts.length == 2 || ts.length == 3) || vs.length != ts.length then some none
  else if anyStar vs then some none
  else if (nms sc ts).length != ts.length || (nms sc ts).eraseDups.length != (nms sc ts).length then some none
  else if vs.all (foldedForSure 8) then some none
  else if vs.all (constantsAlone 8) then none
  else some (some (nms sc ts))
theorem sws_ok {sc : Scope} {ts vs : List Expr} {k k2 : Nat} {p p2 : Pos} {env : PySem.Env} {o : Option (List Str)} (hs : env.scope = sc) (hk : sc.kind = .function) (h : sws sc ts vs = some o) : swappedStores [.Tuple ts k p] (.Tuple vs k2 p2) env = pure o := by
  have hb : env.blockKind = .function := by
    unfold Env.blockKind
    rw [hs, hk]
    rfl
  have hkind : ∀ x, env.kindOf x = sc.names.lookup x := fun x => by
    show env.scope.names.lookup x = _
    rw [hs]
  unfold sws at h
  unfold swappedStores
  simp only [hb, hkind, bne_self_eq_false, Bool.or_false]
  change (if (!(ts.length == 2 || ts.length == 3) || vs.length != ts.length) = true then pure none else if anyStar vs = true then pure none else if ((nms sc ts).length != ts.length || (nms sc ts).eraseDups.length != (nms sc ts).length) = true then pure none else if (vs.all (foldedForSure 8)) = true then pure none else if vs.all (constantsAlone 8) = true then _ else pure (some (nms sc ts))) = _
  generalize (!(ts.length == 2 || ts.length == 3) || vs.length != ts.length) = c1 at h ⊢
  generalize anyStar vs = c2 at h ⊢
  generalize ((nms sc ts).length != ts.length || (nms sc ts).eraseDups.length != (nms sc ts).length) = c3 at h ⊢
  generalize vs.all (foldedForSure 8) = c4 at h ⊢
  generalize vs.all (constantsAlone 8) = c5 at h ⊢
  cases c1 <;> cases c2 <;> cases c3 <;> cases c4 <;> cases c5 <;> first | (cases h; rfl) | (cases h; done)
/-! ### statements -/
/-- does name = [..] store within the comprehension -/
def swLc (sc : Scope) (y : Str) (py : Pos) (scope : Scope) (pos : Pos) : Bool :=
  (sc.names.lookup y == some .local) && py.line == pos.line && !(scope.names.any fun (n, k) => n == y && (k == .local || k == .cell))
def allFn : Str → Bool := fun _ => true
def cSwp (f : Expr → CE) : List Expr → CE → CS
  | [.Subscript a i _, .Subscript b j _], c => if isSl i || isSl j then .bad else .swp c (f a) (f i) (f b) (f j)
  | _, _ => .bad
def cAsg (gt : Gt) (n : Nat) (cc : Cc) (tg e : Expr) : CS :=
  match tg, e with
  | .Subscript o i _, e => if isComp e || isSl i then .bad else .setI (cE gt n cc o) (cE gt n cc i) (cE gt n cc e)
  | .Tuple ts _ _, .Tuple vs _ _ => if cc.hot then .bad else (match sws cc.sc ts vs with
    | some (some _) => (match tgL cc.N cc.sc allFn ts with
      | some [i, j] => if noStars vs && !(Nat.beq i j) && Nat.beq vs.length 2 then .par [i, j] (cL (cE gt n cc) vs) else .bad
      | some [i, j, l] => if noStars vs && !(Nat.beq i j) && !(Nat.beq i l) && !(Nat.beq j l) && Nat.beq vs.length 3 then .par [i, j, l] (cL (cE gt n cc) vs) else .bad
      | _ => .bad)
    | some none => (match tgOf cc.N cc.sc allFn tg with
      | some tgs => .asg tgs (cE gt n cc e)
      | none => cSwp (cE gt n cc) ts (cE gt n cc e))
    | none => .bad)
  | tg, e => if cc.hot && isTp tg then .bad else (match tgOf cc.N cc.sc allFn tg with
    | some tgs => .asg tgs (cE gt n cc e)
    | none => .bad)
def cEx (gt : Gt) (n : Nat) (cc : Cc) : Expr → CS
  | .Call (.Attribute o m ap) [a] [] cp => if decide (m = Str.ofString "append") && isNm o && !isStar a && (ap.endLine == cp.line) then .app (cE gt n cc o) (cE gt n cc a) else .bad
  | e => if isComp e then .bad else .expr (cE gt n cc e)
def cSs (f : Stmt → CS) : List Stmt → CSs
  | [] => .nil
  | s :: r => .cons (f s) (cSs f r)
def cS (gt : Gt) (m : Nat) : Nat → Cc → Stmt → CS
  | 0, _, _ => .bad
  | n + 1, cc, st => (match st with
    | .Assign [tg] e _ => cAsg gt m cc tg e
    | .Expr e _ => cEx gt m cc e
    | .Return (some e) _ => .ret (cE gt m cc e)
    | .Return none _ => .ret (.con .non)
    | .If c t u _ => .iff (cE gt m cc c) (cSs (cS gt m n cc) t) (cSs (cS gt m n cc) u)
    | .For tg it body [] _ => if isSet it || cc.hot then .bad else (match tgOf cc.N cc.sc allFn tg with
      | some tgs => .loop tgs (cI gt cc (cE gt m cc) (isTp tg) it) (cSs (cS gt m n cc) body)
      | none => .bad)
    | .While c body [] _ => .whl (cE gt m cc c) (cSs (cS gt m n cc) body)
    | .Pass _ => .pass
    | .Raise (some (.Call (.Name x _) (e :: es) [] _)) none _ => (match gt.errs.lookup x with
      | some (c, nf) => if !cc.hot && cc.glob x && noStars (e :: es) && Nat.beq (es.length + 1) nf then .rais c (cL (cE gt m cc) (e :: es)) else .bad
      | none => .bad)
    | .Try body [.ExceptHandler (some (.Name x _)) nm (b0 :: suite) _] [] [] _ => (match gt.isa.lookup x with
      | some cs => if !cc.hot && cc.glob x then (match nm with
        | none => .tryS (cSs (cS gt m n { cc with lm := false }) body) cs none (cSs (cS gt m n { cc with act := none, exn := none, cold := false, hot := true, lm := false }) (b0 :: suite))
        | some y => (match ixOf y cc.N 0 with
          | some i => if decide (cc.kind y = some .local) && !dbg y then .tryS (cSs (cS gt m n { cc with lm := false }) body) cs (some i) (cSs (cS gt m n { cc with act := none, exn := some (y, i), cold := false, hot := true, lm := false }) (b0 :: suite)) else .bad
          | none => .bad)) else .bad
      | none => .bad)
    | .Break _ => .brk
    | .Continue _ => .cnt
    | _ => .bad)
section
variable {T : Tb} {F : List Fd} {k : Nat} {gt : Gt} {X : Cx} {W : WX} {cc : Cc} {cl : Calls}
theorem tE_tF {K : PySem.W.Frag} {cl : Calls} {c : CE} (hl : Lists cl c) {σ : St} {H : Hp} {Q : VK} : tE K T W cl c σ H Q → tF K T W cl c σ H Q := fun ⟨env, s, r, G, g, ee, h⟩ => ⟨env, s, r, G, g, ee, by
  cases hq : evE cl c env s with
  | ok d s1 =>
    obtain ⟨ds, rfl⟩ := hl _ _ _ _ hq
    rw [hq] at h
    exact fun p xs r' G' H' l g' hx hp => Nxt.lst (r := r') (G := G') (s := s1) (fun w r2 G2 H2 l2 g2 q => h w r2 G2 H2 (l.trans l2) g2 q) g' hx p hp
  | err c ds s1 => rw [hq] at h; exact h
  | bad => rw [hq] at h; exact h⟩
theorem box_tF {K : PySem.W.Frag} {cl : Calls} {c : CE} {σ : St} {H : Hp} {Q : VK} : tE K T W cl (.box c) σ H Q → tF K T W cl c σ H Q := fun ⟨env, s, r, G, g, ee, h⟩ => ⟨env, s, r, G, g, ee, by
  simp only [evE] at h
  cases hq : evE cl c env s with
  | ok d s1 =>
    rw [hq] at h
    cases d <;> first | exact h.elim | skip
    intro p xs r' G' H' l g' hx hp
    refine h (.ref p) (r' ++ [p]) G' (upd H' p (.lst xs)) (l.trans (le_box g' hp _)) (g'.box hp ⟨xs, rfl, hx⟩) ?_
    unfold Rp
    exact ⟨p, rfl, by rw [← g'.len]; simp⟩
  | err c ds s1 => rw [hq] at h; exact h
  | bad => rw [hq] at h; exact h⟩
theorem bx_tF {K : PySem.W.Frag} {cl : Calls} {c : CE} {pos : Pos} (hl : Lists cl c) {σ : St} {H : Hp} {Q : VK} (h : tE K T W cl (bx gt pos c) σ H Q) : tF K T W cl c σ H Q := by
  unfold bx at h
  split at h
  · exact box_tF h
  · exact tE_tF hl h
/-- what the written part says of the error classes -/
structure ErrAll (prog : Program) (K : PySem.W.Frag) (mg : Str → Option Value) (T : Tb) (gt : Gt) : Prop where
  err : ∀ x c n, gt.errs.lookup x = some (c, n) → ∃ fI self ps, ErrI prog K (T.cl c) fI self ps ∧ T.fl c = ps ∧ ps.length = n ∧ c < T.nE ∧ mg x = some (.ref (T.cl c))
  isa : ∀ x cs, gt.isa.lookup x = some cs → ∃ (cv : Value) (cV : V), (mg x = some cv ∨ (mg x = none ∧ bootBuiltins x = some cv ∧ x ≠ "__name__")) ∧ RelV cV cv ∧ (∀ u, RelV cV u → u = cv) ∧ ∀ c, c < T.nE → PySem.W.exmOne K (.ref (T.cl c)) cv = some (memN c cs) ∧ PySem.W.kitOne K (.ref (T.cl c)) cv = some (memN c cs)
  cls : ∀ c, c < T.nE → ExcC K (T.cl c) ∧ XfC K (T.cl c) ∧ ∀ f ∈ T.fl c, PySem.W.findIn K (.ref (T.cl c)) f = some none
  fld : ∀ f js c j, gt.fld.lookup f = some js → c < T.nE → lookN c js = some j → (T.fl c)[j]? = some f
  sup : gt.errs ≠ [] → mg "super" = none
theorem ErrAll.at {prog : Program} {K : PySem.W.Frag} {mg : Str → Option Value} {T : Tb} {gt : Gt} (e : ErrAll prog K mg T gt) (j : Nat) (v : V) (r : List Addr) (G : Hp) : ErrAll prog K mg (T.at j v r G) gt := ⟨e.err, e.isa, e.cls, e.fld, e.sup⟩
/-- the def's own frame -/
structure Sok (X : Cx) (T : Tb) (F : List Fd) (k : Nat) (gt : Gt) (W : WX) (cc : Cc) (cl : Calls) : Prop extends Xok X T F k gt W cc cl where
  fn : ∀ x, X.fn x = true
  stk : X.stack = X.env :: X.outer
  frm : X.env.frame = some X.env.locals
  er : ErrAll X.prog X.K X.mg T gt
  p1 : cc.hot = false → T.pinv 1 = none
  rm2 : cc.hot = false → Room 2 X.A
  actT : ∀ a, cc.act = some a → ∀ (pn : List (Addr × Obj)) (xe : Value → Shared → Prop) (W' : WX), Takes (X.tr pn xe) W' → ∀ p1 p2, PE (X.tr pn xe) (.Call (.Name a p1) [] [] p2) (tE X.K T W' cl .act)
  nex : cc.hot = false → cc.exn = none
theorem sw_name {elt : Expr} {gs : List Comprehension} {scope : Scope} {pos py : Pos} {y : Str} {l : Nat} (o : Sok X T F k gt W cc cl) : swapsWith (.ListComp elt gs scope pos) (some (.Name y py)) l X.env = pure (swLc cc.sc y py scope pos) := by
  have hb : X.env.blockKind = .function := by
    unfold Env.blockKind
    rw [o.sc, o.kd]
    rfl
  have hk : X.env.kindOf y = cc.sc.names.lookup y := by
    show X.env.scope.names.lookup y = _
    rw [o.sc]
  unfold swapsWith swLc
  simp only [hb, hk, Expr.pos, beq_self_eq_true, Bool.true_and]
theorem asg_plain (o : Sok X T F k gt W cc cl) (n : Nat) {tg e : Expr} (hcm : isTp tg = true → cc.hot = false) {pos : Pos} {tgs : List Nat} (ht : tgOf cc.N cc.sc allFn tg = some tgs) (h1 : swapsWithSole [tg] e pos.line X.env = pure false) (h2 : swappedStores [tg] e X.env = pure none) (h3 : isStar tg = false) : PS X (.Assign [tg] e pos) (tSt X.K T W cl (.asg tgs (cE gt n cc e))) := by
  obtain ⟨g1, g2⟩ := tgOf_ok o.hN o.nd o.sc (fun x _ => o.fn x) (fun z => o.calm (hcm z)) ht
  refine gst_asg (ps_asg (cE_ok n cc X W e o.toXok).1 g2 h1 h2 ?_) (fun _ _ _ h => h) (tgOk_of g1)
  cases tg <;> first | rfl | cases h3
theorem isStar_tg {N : List Str} {sc : Scope} {fnb : Str → Bool} {e : Expr} {is : List Nat} (h : tgOf N sc fnb e = some is) : isStar e = false := by
  cases e <;> first | rfl | cases h
theorem nm_if {sc : Scope} {x : Str} {px : Pos} {l : Nat} {c : Bool} (h : c = (sc.names.lookup x == some .local && px.line == l)) (hc : c = true) : sc.names.lookup x = some .local := by
  rw [h] at hc
  have := (Bool.and_eq_true_iff.mp hc).1
  exact eq_of_beq this
theorem nms2 {sc : Scope} {x y : Str} {px py : Pos} (h : (nms sc [.Name x px, .Name y py]).length = 2) : nms sc [.Name x px, .Name y py] = [x, y] ∧ sc.names.lookup x = some .local ∧ sc.names.lookup y = some .local := by
  unfold nms at h ⊢
  simp only [List.filterMap_cons, List.filterMap_nil] at h ⊢
  generalize h1 : (sc.names.lookup x == some NameKind.local && px.line == _) = c1 at h ⊢
  generalize h2 : (sc.names.lookup y == some NameKind.local && py.line == _) = c2 at h ⊢
  cases c1 <;> cases c2 <;> first | (simp at h; done) | skip
  exact ⟨rfl, nm_if h1.symm rfl, nm_if h2.symm rfl⟩
theorem nms3 {sc : Scope} {x y z : Str} {px py pz : Pos} (h : (nms sc [.Name x px, .Name y py, .Name z pz]).length = 3) : nms sc [.Name x px, .Name y py, .Name z pz] = [x, y, z] ∧ sc.names.lookup x = some .local ∧ sc.names.lookup y = some .local ∧ sc.names.lookup z = some .local := by
  unfold nms at h ⊢
  simp only [List.filterMap_cons, List.filterMap_nil] at h ⊢
  generalize h1 : (sc.names.lookup x == some NameKind.local && px.line == _) = c1 at h ⊢
  generalize h2 : (sc.names.lookup y == some NameKind.local && py.line == _) = c2 at h ⊢
  generalize h3 : (sc.names.lookup z == some NameKind.local && pz.line == _) = c3 at h ⊢
  cases c1 <;> cases c2 <;> cases c3 <;> first | (simp at h; done) | skip
  exact ⟨rfl, nm_if h1.symm rfl, nm_if h2.symm rfl, nm_if h3.symm rfl⟩
theorem sws_names {sc : Scope} {ts vs : List Expr} {nm : List Str} (h : sws sc ts vs = some (some nm)) : nm = nms sc ts ∧ (nms sc ts).length = ts.length := by
  unfold sws at h
  split at h
  · cases h
  · split at h
    · cases h
    · split at h
      · cases h
      · rename_i hc
        split at h
        · cases h
        · split at h
          · cases h
          · cases h
            refine ⟨rfl, ?_⟩
            simp only [Bool.or_eq_true, not_or, bne_iff_ne, ne_eq, Decidable.not_not] at hc
            exact hc.1
theorem tgL_cons {N : List Str} {sc : Scope} {fnb : Str → Bool} {ts : List Expr} {i : Nat} {is : List Nat} (h : tgL N sc fnb ts = some (i :: is)) : ∃ x p r, ts = .Name x p :: r ∧ N[i]? = some x ∧ tgL N sc fnb r = some is := by
  cases ts with
  | nil => cases h
  | cons e r =>
    unfold tgL at h
    cases he : tg1 N sc fnb e with
    | none => rw [he] at h; cases h
    | some j =>
      rw [he] at h
      simp only [Option.bind_some] at h
      cases hr : tgL N sc fnb r with
      | none => rw [hr] at h; cases h
      | some t =>
        rw [hr] at h
        cases h
        unfold tg1 at he
        split at he
        · rename_i x p
          refine ⟨x, p, r, rfl, ?_, hr⟩
          split at he
          · exact ixOf0 he
          · split at he
            · exact ixOf0 he
            · cases he
          · cases he
        · cases he
theorem tgL_nil {N : List Str} {sc : Scope} {fnb : Str → Bool} {ts : List Expr} (h : tgL N sc fnb ts = some []) : ts = [] := by
  cases ts with
  | nil => rfl
  | cons e r =>
    unfold tgL at h
    cases he : tg1 N sc fnb e with
    | none => rw [he] at h; cases h
    | some j =>
      rw [he] at h
      cases hr : tgL N sc fnb r with
      | none => rw [hr] at h; cases h
      | some t => rw [hr] at h; cases h
theorem beq_no {i j : Nat} (h : (!(Nat.beq i j)) = true) : i ≠ j := fun e => by
  subst e
  rw [Nat.beq_refl] at h
  cases h
theorem cAsg_ok (o : Sok X T F k gt W cc cl) (n : Nat) (tg e : Expr) (pos : Pos) : PS X (.Assign [tg] e pos) (tSt X.K T W cl (cAsg gt n cc tg e)) := by
  have ihx : ∀ e, EOK X T W cl (cE gt n cc e) e := fun e => cE_ok n cc X W e o.toXok
  have hu := o.un
  unfold cAsg
  split
  · -- o[i] = e
    rename_i a i p
    split
    · exact gst_bad
    · rename_i hc
      simp only [Bool.or_eq_true, not_or, Bool.not_eq_true] at hc
      refine gst_setI (ps_asg (ihx e).1 (pg_sub (ihx a).1 (ihx i).1 set_list ?_) (sw_sole hc.1) ss_sub rfl) (ps_dput (by omega) (ihx a).1 (ihx i).1 (ihx e).1 (sw_no hc.1))
      intro v
      cases i <;> first | rfl | cases hc.2
  · rename_i ts kt pt vs k2 pt2
    split
    · exact gst_bad
    rename_i hhot
    have hhot : cc.hot = false := by simpa using hhot
    split
    · rename_i nm hsw
      have hss := sws_ok (k := kt) (p := pt) (k2 := k2) (p2 := pt2) (env := X.env) o.sc o.kd hsw
      split
      · rename_i i j ht
        split
        · rename_i hc
          simp only [Bool.and_eq_true] at hc
          obtain ⟨⟨c1, c2⟩, c3⟩ := hc
          obtain ⟨x, px, r1, rfl, n1, t1⟩ := tgL_cons ht
          obtain ⟨y, py, r2, rfl, n2, t2⟩ := tgL_cons t1
          have e0 := tgL_nil t2
          subst e0
          obtain ⟨rfl, hl⟩ := sws_names hsw
          obtain ⟨m1, m2, m3⟩ := nms2 hl
          rw [m1] at hss
          have h2 : vs.length = 2 := Nat.eq_of_beq_eq_true c3
          match vs, h2, c1, hss with
          | [a, b], _, c1, hss => exact gst_par (ps_par (o.calm hhot) o.nd (by rw [o.hN]; exact n1) (by rw [o.hN]; exact n2) (beq_no c2) (by rw [o.sc]; exact m2) (by rw [o.sc]; exact m3) (cL_ok ihx c1) hss (sw_sole rfl))
        · exact gst_bad
      · rename_i i j l ht
        split
        · rename_i hc
          simp only [Bool.and_eq_true] at hc
          obtain ⟨⟨⟨⟨c1, c2⟩, c3⟩, c4⟩, c5⟩ := hc
          obtain ⟨x, px, r1, rfl, n1, t1⟩ := tgL_cons ht
          obtain ⟨y, py, r2, rfl, n2, t2⟩ := tgL_cons t1
          obtain ⟨z, pz, r3, rfl, n3, t3⟩ := tgL_cons t2
          have e0 := tgL_nil t3
          subst e0
          obtain ⟨rfl, hl⟩ := sws_names hsw
          obtain ⟨m1, m2, m3, m4⟩ := nms3 hl
          rw [m1] at hss
          have h2 : vs.length = 3 := Nat.eq_of_beq_eq_true c5
          match vs, h2, c1, hss with
          | [a, b, d], _, c1, hss => exact gst_par3 (ps_par3 (o.calm hhot) o.nd (by rw [o.hN]; exact n1) (by rw [o.hN]; exact n2) (by rw [o.hN]; exact n3) (beq_no c2) (beq_no c3) (beq_no c4) (by rw [o.sc]; exact m2) (by rw [o.sc]; exact m3) (by rw [o.sc]; exact m4) (cL_ok ihx c1) hss (sw_sole rfl))
        · exact gst_bad
      · exact gst_bad
    · rename_i hsw
      have hss := sws_ok (k := kt) (p := pt) (k2 := k2) (p2 := pt2) (env := X.env) o.sc o.kd hsw
      split
      · rename_i tgs ht
        exact asg_plain o n (fun _ => hhot) ht (sw_sole rfl) hss rfl
      · unfold cSwp
        split
        · rename_i a i pa b j pb _
          split
          · exact gst_bad
          · rename_i hsl
            simp only [Bool.or_eq_true, not_or, Bool.not_eq_true] at hsl
            refine gst_swp (ps_asg (ihx (.Tuple vs k2 pt2)).1 (pg_tup (o.calm hhot) (pgs_cons (pg_sub (ihx a).1 (ihx i).1 set_list ?_) (pgs_cons (pg_sub (ihx b).1 (ihx j).1 set_list ?_) pgs_nil rfl) rfl) rfl rfl) (sw_sole rfl) hss rfl)
            · intro v
              cases i <;> first | rfl | cases hsl.1
            · intro v
              cases j <;> first | rfl | cases hsl.2
        · exact gst_bad
    · exact gst_bad
  · rename_i h1 h2
    split
    · exact gst_bad
    rename_i hh0
    have hcm : isTp tg = true → cc.hot = false := fun z => by
      cases hq : cc.hot with
      | false => rfl
      | true => rw [hq, z] at hh0; exact absurd rfl hh0
    split
    · rename_i tgs ht
      by_cases hcomp : isComp e = true
      · -- name = [..]
        cases e <;> first | (cases hcomp; done) | skip
        · rename_i elt gs scope lpos
          cases tg with
          | Name y py =>
            by_cases hs : swLc cc.sc y py scope lpos = true
            · -- stored within
              have hy : cc.sc.names.lookup y = some .local := by
                unfold swLc at hs
                exact eq_of_beq (Bool.and_eq_true_iff.mp (Bool.and_eq_true_iff.mp hs).1).1
              have hi : ∃ i, tgs = [i] ∧ cc.N[i]? = some y := by
                simp only [tgOf, tg1, hy] at ht
                cases hx : ixOf y cc.N 0 with
                | none => rw [hx] at ht; cases ht
                | some i =>
                  rw [hx] at ht
                  cases ht
                  exact ⟨i, rfl, ixOf0 hx⟩
              obtain ⟨i, rfl, hNi⟩ := hi
              have hsw := sw_name (elt := elt) (gs := gs) (scope := scope) (pos := lpos) (py := py) (y := y) (l := pos.line) o
              rw [hs] at hsw
              cases n with
              | zero => exact imp_s false_s fun D σ H ⟨_, _, _, _, _, _, h⟩ => by simp only [evS, cE, evE] at h; exact h
              | succ n =>
                have bad : PS X (.Assign [.Name y py] (.ListComp elt gs scope lpos) pos) (tSt X.K T W cl (.asg [i] .bad)) := imp_s false_s fun D σ H ⟨_, _, _, _, _, _, h⟩ => by simp only [evS, evE] at h; exact h
                unfold cE
                split <;> first | exact bad | skip
                all_goals (rename_i heq; cases heq)
                rename_i tg' it ifs
                split
                · rename_i hc
                  have hc0 := Bool.and_eq_true_iff.mp hc
                  have hc' := Bool.and_eq_true_iff.mp hc0.1
                  have hh : cc.hot = false := by simpa using hc0.2
                  have hs' : isSet it = false := by simpa using hc'.2
                  split
                  · rename_i tgs' ht'
                    split
                    · rename_i hsub
                      obtain ⟨a1, a2, a3, a4, a5⟩ := lc_all (it := it) o.toXok n (cE_ok n) hh hc'.1 ht'
                      split
                      · exact gst_asg (ps_setLc (o.calm hh) o.nd (by rw [o.hN]; exact hNi) (by rw [o.sc]; exact hy) hsw a1 a2 a3 (fun s H C cs fp => gs_nil (T := T) (W := W0) (cl := cl)) (fun s H C cl fp => (a4 elt s H C cl fp).1) (folded_no hs')) (fun σ H Q h => lc_reads a5 (sub_of hsub) σ H Q (bx_tF lists_lc h)) (tg_name i)
                      · rename_i c
                        exact gst_asg (ps_setLc (o.calm hh) o.nd (by rw [o.hN]; exact hNi) (by rw [o.sc]; exact hy) hsw a1 a2 a3 (fun s H C cl fp => gs_one (a4 c s H C cl fp).2) (fun s H C cl fp => (a4 elt s H C cl fp).1) (folded_no hs')) (fun σ H Q h => lc_reads a5 (sub_of hsub) σ H Q (bx_tF lists_lc h)) (tg_name i)
                      · exact bad
                    · exact bad
                  · exact bad
                · exact bad
            · refine asg_plain o n hcm ht ?_ ss_name rfl
              show swapsWith (elt.ListComp gs scope lpos) (some (.Name y py)) pos.line X.env = _
              rw [sw_name o]
              have : swLc cc.sc y py scope lpos = false := by simpa using hs
              rw [this]
          | _ => exact asg_plain o n hcm ht rfl (ss_no rfl) (isStar_tg ht)
        all_goals (refine imp_s false_s fun D σ H ⟨_, _, _, _, _, _, h⟩ => ?_; cases n <;> (simp only [evS, cE, evE] at h; exact h))
      · have hcomp : isComp e = false := by simpa using hcomp
        refine asg_plain o n hcm ht (sw_sole hcomp) ?_ (isStar_tg ht)
        cases tg <;> first | (exact ss_name; done) | (cases ht; done) | skip
        cases e <;> first | rfl | exact (h2 _ _ _ _ _ _ rfl rfl).elim
    · exact gst_bad
end
end T5

set_option Elab.async false
set_option linter.all false
set_option maxRecDepth 100000
set_option maxHeartbeats 2000000
/-! T5: from the text to the core language, statements: all of them. -/
namespace T5
open PySem PySem.Spec L2
open Evl (Ex)
section
variable {T : Tb} {F : List Fd} {k : Nat} {gt : Gt} {X : Cx} {W : WX} {cc : Cc} {cl : Calls}
theorem cEx_ok (o : Sok X T F k gt W cc cl) (n : Nat) (e : Expr) (pos : Pos) : PS X (.Expr e pos) (tSt X.K T W cl (cEx gt n cc e)) := by
  have ihx : ∀ e, EOK X T W cl (cE gt n cc e) e := fun e => cE_ok n cc X W e o.toXok
  unfold cEx
  split
  · rename_i ob m ap a cp
    split
    · rename_i hc
      simp only [Bool.and_eq_true] at hc
      obtain ⟨⟨⟨c1, c2⟩, c3⟩, c4⟩ := hc
      have hm : m = Str.ofString "append" := of_decide_eq_true c1
      subst hm
      cases ob <;> first | (cases c2; done) | skip
      rename_i x px
      have c3 : isStar a = false := by simpa using c3
      have hs : starEach [a] X.env = [(false, eval a X.env)] := by
        cases a <;> first | rfl | cases c3
      exact gst_app (ps_expr (pe_bm PySem.F.plainAttrs_list PySem.F.slot_list_append PySem.F.type_list_append mt_append (ihx _).1 (cL_ok ihx (es := [a]) (by simp [noStars, c3])) (by rfl) (by rw [hs]; rfl) c4 hs (by rfl)) rfl)
    · exact gst_bad
  · split
    · exact gst_bad
    · rename_i hc
      have hc : isComp e = false := by simpa using hc
      exact gst_expr (ihx e).1 (ps_expr (ihx e).1 (sw_no hc))
theorem cSs_ok {f : Stmt → CS} (ih : ∀ st, PS X st (tSt X.K T W cl (f st))) : ∀ ss, PSs X ss (tSs X.K T W cl (cSs f ss))
  | [] => gss_nil
  | s :: r => gss_cons (ih s) (cSs_ok ih r)
theorem gst_retN {pos : Pos} {cl : Calls} : PS X (.Return none pos) (tSt X.K T W cl (.ret (.con .non))) :=
  imp_s ps_retN fun E σ H ⟨env, s, r, G, g, e, h⟩ => by
    simp only [evS, evE] at h
    exact h .non r G H Le.refl g (by unfold Rp; rfl)
/-- a try's body -/
theorem Sok.tr (o : Sok X T F k gt W cc cl) (hh : cc.hot = false) {pn : List (Addr × Obj)} {xe : Value → Shared → Prop} {W' : WX} (tk : Takes (X.tr pn xe) W') (own : PassesOwn (model X.prog X.w) X.A X.env xe) : Sok (X.tr pn xe) T F k gt W' { cc with lm := false } cl where
  hN := o.hN
  nd := o.nd
  sc := o.sc
  kd := o.kd
  calm := o.calm
  tk := tk
  room := o.room
  un := o.un
  gd := o.gd
  own := own
  fns := o.fns
  blt := o.blt
  act := fun a ha p1 p2 => o.actT a ha pn xe W' tk p1 p2
  exi := fun n i z => by
    rw [show ({ cc with lm := false } : Cc).exn = cc.exn from rfl, o.nex hh] at z
    cases z
  exi2 := fun n i z => by
    rw [show ({ cc with lm := false } : Cc).exn = cc.exn from rfl, o.nex hh] at z
    cases z
  exf := fun n i z => by
    rw [show ({ cc with lm := false } : Cc).exn = cc.exn from rfl, o.nex hh] at z
    cases z
  lam := fun z => by cases z
  fnl := fun z => by cases z
  lmc := fun z => by cases z
  fn := o.fn
  stk := o.stk
  frm := o.frm
  er := o.er
  p1 := o.p1
  rm2 := o.rm2
  actT := fun a ha pn' xe' W2 tk2 => o.actT a ha pn' xe' W2 tk2
  nex := o.nex
theorem dbg_of {y : Str} (h : (!dbg y) = true) : (y == ("__debug__" : Str)) = false ∧ (y == ("__classdict__" : Str)) = false := dbg_no (by simpa using h)
/-- an except suite -/
theorem Sok.su (o : Sok X T F k gt W cc cl) {a : Addr} {oe : Obj} {pn : List (Addr × Obj)} {c : Nat} {ds : List D} {dd : Addr} {r0 : List Addr} {G0 : Hp} (hp1 : T.pinv 1 = none) (hz : Zc (.ref (T.cl c)) (some dd) oe) (hv : ∃ vs, oe.data = .fields vs) (hX : ExnC X.K T G0 c ds dd) {en : Option (Str × Nat)}
    (hen : ∀ n i, en = some (n, i) → X.N[i]? = some n ∧ Vis X.env.scope n ∧ (n == ("__debug__" : Str)) = false ∧ (n == ("__classdict__" : Str)) = false) :
    Sok (X.suite a ((a, oe) :: pn)) (T.at 1 (.ref a) r0 G0) F k gt W0 { cc with act := none, exn := en, cold := false, hot := true, lm := false } (hx cl c ds) where
  hN := o.hN
  nd := o.nd
  sc := o.sc
  kd := o.kd
  calm := fun z => by cases z
  tk := takes0
  room := fun z => by cases z
  un := o.un
  gd := o.gd
  own := PassesOwn.never
  fns := fun z => by cases z
  blt := o.blt
  act := fun a z => by cases z
  exi := fun n i z t cs hl hgt hgi hmi p p1 p2 pos => by
    obtain ⟨h1, h2, h3, h4⟩ := hen n i z
    obtain ⟨cv, cV, m1, m2, m3, m4⟩ := o.er.isa t cs hl
    have g1 := (glob_ok o.toXok (x := "isinstance") hgi).1
    have g2 := glob_ok o.toXok (x := t) hgt
    refine ge_exi hX (o.er.cls c hX.lt).1 hz hv h1 h2 h3 h4 g1 hmi (cV := cV) (cv := cv) ?_ m3 (m4 c hX.lt).2 rfl
    rcases m1 with m1 | ⟨m1, m5, m6⟩
    · exact pe_glob (X := X.suite a ((a, oe) :: pn)) g2.1 m1 m2 g2.2
    · exact pe_bltn (X := X.suite a ((a, oe) :: pn)) g2.1 m1 m5 m2 m6 g2.2
  exi2 := fun n i z t cs hl hgt t' cs' hl' hgt' hgi hmi p p1 p2 p3 p4 kk pos => by
    obtain ⟨h1, h2, h3, h4⟩ := hen n i z
    obtain ⟨cv, cV, m1, m2, m3, m4⟩ := o.er.isa t cs hl
    obtain ⟨cv', cV', m1', m2', m3', m4'⟩ := o.er.isa t' cs' hl'
    have g1 := (glob_ok o.toXok (x := "isinstance") hgi).1
    have g2 := glob_ok o.toXok (x := t) hgt
    have g3 := glob_ok o.toXok (x := t') hgt'
    refine ge_exi2 hX (o.er.cls c hX.lt).1 hz hv h1 h2 h3 h4 g1 hmi (cV1 := cV) (cv1 := cv) (cV2 := cV') (cv2 := cv') ?_ m3 (m4 c hX.lt).2 rfl ?_ m3' (m4' c hX.lt).2 rfl
    · rcases m1 with m1 | ⟨m1, m5, m6⟩
      · exact pe_glob (X := X.suite a ((a, oe) :: pn)) g2.1 m1 m2 g2.2
      · exact pe_bltn (X := X.suite a ((a, oe) :: pn)) g2.1 m1 m5 m2 m6 g2.2
    · rcases m1' with m1 | ⟨m1, m5, m6⟩
      · exact pe_glob (X := X.suite a ((a, oe) :: pn)) g3.1 m1 m2' g3.2
      · exact pe_bltn (X := X.suite a ((a, oe) :: pn)) g3.1 m1 m5 m2' m6 g3.2
  exf := fun n i z f js hl p1 pos => by
    obtain ⟨h1, h2, h3, h4⟩ := hen n i z
    obtain ⟨q1, q2, q3⟩ := o.er.cls c hX.lt
    exact ge_exf hX q2 q3 hz hv h1 h2 h3 h4 (fun j hj => o.er.fld f js c j hl hX.lt hj) hp1
  lam := fun z => by cases z
  fnl := fun z => by cases z
  lmc := fun z => by cases z
  fn := o.fn
  stk := o.stk
  frm := o.frm
  er := o.er.at 1 _ _ _
  p1 := fun z => by cases z
  rm2 := fun z => by cases z
  actT := fun a z => by cases z
  nex := fun z => by cases z
theorem cS_ok (m : Nat) : ∀ (n : Nat) (X : Cx) (T : Tb) (W : WX) (cc : Cc) (cl : Calls) (o : Sok X T F k gt W cc cl) (st : Stmt), PS X st (tSt X.K T W cl (cS gt m n cc st))
  | 0, X, T, W, cc, cl, o, st => gst_bad
  | n + 1, X, T, W, cc, cl, o, st => by
    have ihx : ∀ e, EOK X T W cl (cE gt m cc e) e := fun e => cE_ok m cc X W e o.toXok
    have ihs := cSs_ok (cS_ok m n X T W cc cl o)
    unfold cS
    split
    · exact cAsg_ok o m _ _ _
    · exact cEx_ok o m _ _
    · exact gst_ret (ihx _).1
    · exact gst_retN
    · exact gst_if (ihx _).2 (ihs _) (ihs _)
    · rename_i tg it body pos
      split
      · exact gst_bad
      · rename_i hc
        simp only [Bool.or_eq_true, not_or, Bool.not_eq_true] at hc
        split
        · rename_i tgs ht
          obtain ⟨g1, g2⟩ := tgOf_ok o.hN o.nd o.sc (fun x _ => o.fn x) (fun _ => o.calm hc.2) ht
          exact gst_for (ps_for o.own (o.calm hc.2) (cI_ok o.toXok ihx it) g2 (ihs body) (folded_no hc.1)) (tgOk_of g1)
        · exact gst_bad
    · exact gst_while (ps_while o.own (ihx _).2 (ihs _))
    · exact gst_pass
    · rename_i x px e es pc pr
      split
      · rename_i c nf hl
        split
        · rename_i hc
          simp only [Bool.and_eq_true, Bool.not_eq_true'] at hc
          obtain ⟨⟨⟨c1, c2⟩, c3⟩, c4⟩ := hc
          obtain ⟨fI, self, ps, e1, e2, e3, e4, e5⟩ := o.er.err x c nf hl
          obtain ⟨g1, g2⟩ := glob_ok o.toXok c2
          have hn : es.length + 1 = nf := Nat.eq_of_beq_eq_true c4
          have hs := Bool.and_eq_true_iff.mp (show (!isStar e && noStars es) = true from c3)
          refine gst_rais (o.calm c1) o.tk e1 e2 e4 (o.rm2 c1) g1 e5 (o.er.sup fun z => ?_) (cL_ok ihx c3) (fun _ _ _ _ h => ?_) g2 (star_no (by simpa using hs.1)) (star_any hs.2)
          · rw [z] at hl
            cases hl
          · rw [cL_len h, e3, List.length_cons, hn]
        · exact gst_bad
      · exact gst_bad
    · rename_i body x px nm b0 suite p1 p2
      split
      · rename_i cs hl
        split
        · rename_i hc
          simp only [Bool.and_eq_true, Bool.not_eq_true'] at hc
          obtain ⟨c1, c2⟩ := hc
          obtain ⟨cv, cV, m1, m2, m3, m4⟩ := o.er.isa x cs hl
          obtain ⟨g1, g2⟩ := glob_ok o.toXok c2
          have hp1 := o.p1 c1
          split
          · exact gst_tryOnly o.stk o.frm ⟨g1, g2, m1⟩ o.tk hp1 (fun c hc => (m4 c hc).1) (fun W' pn xe tk own => cSs_ok (cS_ok m n _ T W' _ cl (o.tr c1 tk own)) _)
              (fun a oe pn c ds dd r0 G0 hz hv hX => cSs_ok (cS_ok m n _ _ W0 _ _ (o.su hp1 hz hv hX (en := none) (fun _ _ z => by cases z))) _)
          · rename_i y
            split
            · rename_i i hi
              split
              · rename_i hy
                obtain ⟨y1, y2⟩ := Bool.and_eq_true_iff.mp hy
                have y1 : cc.sc.names.lookup y = some .local := of_decide_eq_true y1
                have y3 := dbg_of y2
                have hN : X.N[i]? = some y := by rw [o.hN]; exact ixOf0 hi
                have hk : X.env.scope.names.lookup y = some .local := by rw [o.sc]; exact y1
                exact gst_tryAs o.stk o.frm o.nd hN hk ⟨g1, g2, m1⟩ o.tk hp1 (fun c hc => (m4 c hc).1) (fun W' pn xe tk own => cSs_ok (cS_ok m n _ T W' _ cl (o.tr c1 tk own)) _)
                  (fun a oe pn c ds dd r0 G0 hz hv hX => cSs_ok (cS_ok m n _ _ W0 _ _ (o.su hp1 hz hv hX (en := some (y, i)) (fun n' i' z => by cases z; exact ⟨hN, .inl hk, y3.1, y3.2⟩))) _)
              · exact gst_bad
            · exact gst_bad
        · exact gst_bad
      · exact gst_bad
    · exact gst_brk
    · exact gst_cnt
    · exact gst_bad
end
end T5

set_option Elab.async false
set_option linter.all false
set_option maxRecDepth 100000
set_option maxHeartbeats 2000000
/-! T5: a program's defs, all of them; the law's end. -/
namespace T5
open PySem PySem.Spec L2
open Evl (Ex)

/-- one def: its statement, names by slots (parameters first), how many parameters, whether the store outlives it -/
structure Df where
  nm : Str
  st : Stmt
  N : List Str
  np : Nat
  keep : Bool := false
  dfl : List He.Dv := []
  act : Bool := false
  lm : Bool := false
  shut : Bool := false
def Df.ps (d : Df) : List Str := d.N.take d.np
def Df.cc (d : Df) : Cc := if d.act then { N := d.N, sc := defScope d.st, act := d.N[0]?, cold := false } else { N := d.N, sc := defScope d.st, lm := d.lm }
def Df.fd (gt : Gt) (d : Df) : Fd := ⟨d.ps.length, d.N.length, d.keep, d.act, d.shut, cSs (cS gt 60 30 d.cc) (defBody d.st)⟩
/-- the name that a def's lambdas bear -/
def lamQ (nm : Str) : Str := (nm ++ ".<locals>.") ++ "<lambda>"
def Df.dd (d : Df) : He.DefD := ⟨(d.nm, none), d.nm, d.nm, defArgs d.st, defBody d.st, defScope d.st, d.dfl, []⟩
def nodupB : List Str → Bool
  | [] => true
  | x :: r => !(r.any fun y => decide (x = y)) && nodupB r
def kin : Option NameKind → Bool
  | some .local => true
  | some .cell => true
  | _ => false
def scB (N ps : List Str) (sc : Scope) : Bool :=
  (sc.kind == .function) && !sc.isCoroutine && !sc.isGenerator && nodupB N && (ps.all fun x => kin (sc.names.lookup x)) && sc.names.all fun y => !(y.2 == .free)
theorem nodupB_ok : ∀ {l : List Str}, nodupB l = true → l.Nodup
  | [], _ => .nil
  | x :: r, h => by
    unfold nodupB at h
    obtain ⟨h1, h2⟩ := Bool.and_eq_true_iff.mp h
    refine List.nodup_cons.mpr ⟨fun hm => ?_, nodupB_ok h2⟩
    have : (r.any fun y => decide (x = y)) = true := List.any_eq_true.mpr ⟨x, hm, decide_eq_true rfl⟩
    rw [this] at h1
    cases h1
theorem scB_ok {d : Df} {sc : Scope} (h : scB d.N d.ps sc = true) : FnScope d.N d.ps sc := by
  unfold scB at h
  simp only [Bool.and_eq_true, Bool.not_eq_true'] at h
  obtain ⟨⟨⟨⟨⟨h1, h2⟩, h3⟩, h4⟩, h5⟩, h6⟩ := h
  refine ⟨eq_of_beq h1, h2, h3, nodupB_ok h4, ?_, fun x hx => ?_, fun y hy e => ?_⟩
  · unfold Df.ps
    rw [List.length_take]
    by_cases hl : d.np ≤ d.N.length
    · rw [Nat.min_eq_left hl]
    · rw [Nat.min_eq_right (by omega), List.take_length, List.take_of_length_le (by omega)]
  · have := List.all_eq_true.mp h5 x hx
    cases hk : sc.names.lookup x with
    | none => rw [hk] at this; cases this
    | some z =>
      rw [hk] at this
      cases z <;> first | (cases this; done) | exact .inl rfl | exact .inr rfl
  · have := List.all_eq_true.mp h6 y hy
    rw [e] at this
    cases this

/-- what the top left of one def -/
def DfOk (K : PySem.W.Frag) (mg : Str → Option Value) (gt : Gt) (i : Nat) (d : Df) : Prop :=
  ∃ f fd, FunD K d.nm d.nm (defArgs d.st) (defBody d.st) (defScope d.st) (d.dd.dvs K) [] f fd ∧ mg d.nm = some (.ref f) ∧ ∀ n ks src, gt.bnd.lookup (i, n, ks) = some src → Bnd K fd d.ps n ks src
def AllD (P : Nat → Df → Prop) : Nat → List Df → Prop
  | _, [] => True
  | i, d :: r => P i d ∧ AllD P (i + 1) r
theorem AllD.at {P : Nat → Df → Prop} : ∀ {l : List Df} {j : Nat}, AllD P j l → ∀ {i : Nat} {d : Df}, l[i]? = some d → P (j + i) d
  | [], _, _, _, _, e => by simp at e
  | x :: r, j, h, 0, d, e => by
    simp at e
    subst e
    exact h.1
  | x :: r, j, h, i + 1, d, e => by
    have := AllD.at h.2 (i := i) (d := d) (by simpa using e)
    rw [show j + (i + 1) = j + 1 + i by omega]
    exact this
def namesOf : Nat → List Df → List (Str × Nat)
  | _, [] => []
  | i, d :: r => (d.nm, i) :: namesOf (i + 1) r
theorem names_at {x : Str} : ∀ {l : List Df} {j i : Nat}, (namesOf j l).lookup x = some i → ∃ d, j ≤ i ∧ l[i - j]? = some d ∧ d.nm = x
  | [], _, _, h => by cases h
  | d :: r, j, i, h => by
    unfold namesOf at h
    rw [List.lookup_cons] at h
    split at h
    · rename_i e
      cases h
      exact ⟨d, Nat.le_refl _, by simp, (eq_of_beq e).symm⟩
    · obtain ⟨d', h1, h2, h3⟩ := names_at h
      refine ⟨d', by omega, ?_, h3⟩
      have : i - j = (i - (j + 1)) + 1 := by omega
      rw [this, List.getElem?_cons_succ]
      exact h2
def srcB : Option (List (Nat ⊕ D)) → Bool
  | some [.inl 0] => true
  | _ => false
/-- the defs that get lambdas: the form of each -/
def lamsB (gt : Gt) (Ds : List Df) : Bool := gt.lams.all fun p => (match Ds[p.2]? with
  | some d => decide (d.nm = p.1) && d.act && Nat.beq d.np 1 && Nat.ble 1 d.N.length && srcB (gt.bnd.lookup (p.2, 1, [])) && (match d.N with
    | a :: _ => !dbg a
    | [] => false) && !dbg d.nm
  | none => false)
/-- all that is needed of the top -/
structure Top (prog : Program) (K : PySem.W.Frag) (mg : Str → Option Value) (T : Tb) (gt : Gt) (Ds : List Df) : Prop where
  defs : AllD (DfOk K mg gt) 0 Ds
  sc : (Ds.all fun d => scB d.N d.ps (defScope d.st)) = true
  fns : gt.fns = namesOf 0 Ds
  blt : ∀ x, gt.blt.contains x = true → mg x = none
  er : ErrAll prog K mg T gt
  lams : ∀ x i, gt.lams.lookup x = some i → ∃ d a, Ds[i]? = some d ∧ d.nm = x ∧ d.act = true ∧ d.ps = [a] ∧ d.N[0]? = some a ∧ dbg a = false ∧ dbg x = false ∧ gt.bnd.lookup (i, 1, []) = some [.inl 0]
  pin : ∀ j, T.pinv j = none
  rz : T.r0 = []
/-- the defs' code objects and tables, at a ground -/
def TabAll (K : PySem.W.Frag) (mg : Str → Option Value) (T : Tb) (Ds : List Df) (base : Heap) : Prop :=
  ∀ d ∈ Ds, d.lm = true → ∀ f fd, FunD K d.nm d.nm (defArgs d.st) (defBody d.st) (defScope d.st) (d.dd.dvs K) [] f fd → mg d.nm = some (.ref f) → ∃ c P, fd.code = .ref c ∧ LamX.TabB base mg c P ∧ (P, lamQ d.nm) ∈ T.tabs ∧ ∀ p ∈ T.tabs, p.1 = P → p.2 = lamQ d.nm
theorem mem_of_look {x : Str} {i : Nat} : ∀ {l : List (Str × Nat)}, l.lookup x = some i → (x, i) ∈ l
  | [], h => by cases h
  | p :: r, h => by
    rw [List.lookup_cons] at h
    split at h
    · rename_i e
      cases h
      rw [eq_of_beq e]
      exact List.mem_cons_self ..
    · exact List.mem_cons_of_mem _ (mem_of_look h)
theorem lams_ok {gt : Gt} {Ds : List Df} (h : lamsB gt Ds = true) (x : Str) (i : Nat) (hl : gt.lams.lookup x = some i) : ∃ d a, Ds[i]? = some d ∧ d.nm = x ∧ d.act = true ∧ d.ps = [a] ∧ d.N[0]? = some a ∧ dbg a = false ∧ dbg x = false ∧ gt.bnd.lookup (i, 1, []) = some [.inl 0] := by
  have hm : (x, i) ∈ gt.lams := mem_of_look hl
  have h := List.all_eq_true.mp h _ hm
  simp only at h
  cases hd : Ds[i]? with
  | none => rw [hd] at h; cases h
  | some d =>
    rw [hd] at h
    simp only [Bool.and_eq_true, decide_eq_true_eq] at h
    obtain ⟨⟨⟨⟨⟨⟨h1, h2⟩, h3⟩, h4⟩, h5⟩, h6⟩, h7⟩ := h
    cases hN : d.N with
    | nil => rw [hN] at h6; cases h6
    | cons a r =>
      rw [hN] at h6
      refine ⟨d, a, rfl, h1, h2, ?_, by rw [hN]; rfl, by simpa using h6, by rw [← h1]; simpa using h7, ?_⟩
      · unfold Df.ps
        rw [Nat.eq_of_beq_eq_true h3, hN]
        rfl
      · generalize gt.bnd.lookup (i, 1, []) = o at h5
        match o, h5 with
        | some [.inl 0], _ => rfl
section
variable {P : Program} {w : World} {K : PySem.W.Frag} {mg : Str → Option Value} {base : Heap} {T : Tb} {gt : Gt} {Ds : List Df}
theorem spD_len {F : List Fd} {k i n : Nat} (vs : List V) (H : Hp) (Q : VK) (E : XK) (h : SpD K T F k i n vs H Q E) : vs.length = n := h.1
theorem lam_facts {sc : Scope} {params : Arguments} {scope : Scope} {env : PySem.Env} (h : lamB sc params scope = true) : defaultsOf params env = ([], []) ∧ ∀ (body : Expr) (q : Str) (cl : List (Str × Addr)) (pm cv ctv : Value), bindArgs (PySem.W.kla_fn "<lambda>" q params body scope cl pm cv ctv) ⟨[], []⟩ = pure [] := by
  unfold lamB at h
  simp only [Bool.and_eq_true, List.isEmpty_iff, Option.isNone_iff_eq_none] at h
  obtain ⟨⟨⟨⟨⟨⟨⟨_, h1⟩, h2⟩, h3⟩, h4⟩, h5⟩, h6⟩, h7⟩ := h
  obtain ⟨a1, a2, a3, a4, a5, a6, a7⟩ := params
  simp only at h1 h2 h3 h4 h5 h6 h7
  subst h1 h2 h3 h4 h5 h6 h7
  exact ⟨rfl, fun _ _ _ _ _ _ => rfl⟩
theorem all_G (t : Top P K mg T gt Ds) (tb : TabAll K mg T Ds base) : ∀ (k i : Nat) (d : Df), Ds[i]? = some d → ∀ f fd, FunD K d.nm d.nm (defArgs d.st) (defBody d.st) (defScope d.st) (d.dd.dvs K) [] f fd → mg d.nm = some (.ref f) → FnG P w K mg base k f fd d.ps (SpD K T (Ds.map (Df.fd gt)) k i d.ps.length)
  | 0, i, d, hd, f, fd, _, _ => ⟨spD_len, fun A outer s H args us vs Q E _ _ _ _ _ h => by
    obtain ⟨_, ds, s, r, G, g, _, h⟩ := h
    unfold run at h
    exact h.elim⟩
  | k + 1, i, d, hd, f, fd, F, hmf => by
    by_cases hact : d.act = true
    · refine ⟨spD_len, fun A outer s H args us vs Q E _ _ _ _ _ h => ?_⟩
      obtain ⟨hl, ds, s, r, G, g, hds, h⟩ := h
      exfalso
      unfold run at h
      rw [List.getElem?_map, hd] at h
      simp only [Option.map_some] at h
      rw [if_pos (show (Df.fd gt d).act = true from hact)] at h
      by_cases h0 : ds.length = 0
      · have hp : (Df.fd gt d).par = 0 := by
          show d.ps.length = 0
          rw [← hl, hds.length, h0]
        rw [if_neg (by rw [hp]; simp [Nat.beq])] at h
        exact h
      · rw [if_neg (fun z => by
          have z := (Bool.and_eq_true_iff.mp z).1
          exact h0 (Nat.eq_of_beq_eq_true z))] at h
        exact h
    · have hact : d.act = false := by simpa using hact
      have hcc : d.cc = { N := d.N, sc := defScope d.st, lm := d.lm } := by
        unfold Df.cc
        rw [if_neg (by rw [hact]; decide)]
      obtain ⟨oc, od, dV, kV, doc, pm, an, cdv, ct, osl, efd, lk, hcd, _, _⟩ := F.ex
      have S : FnScope d.N d.ps (defScope d.st) := scB_ok (List.all_eq_true.mp t.sc d (List.mem_of_getElem? hd))
      subst efd
      refine fnG_of lk hcd S spD_len fun A outer s H vs Q E hg hr h => ⟨_, ?_, body_reads (fb := d.fd gt) hact t.rz (by rw [List.getElem?_map, hd]; rfl) rfl rfl h⟩
      have hun : (A.deeper (PyProof.Rows.envOfC d.nm (defScope d.st) s.heap.objs.size f cdv)).units + 200 < cLine := by have := hr.un; omega
      have fnsX : ∀ x j, gt.fns.lookup x = some j → run (Ds.map (Df.fd gt)) k j = run (Ds.map (Df.fd gt)) k j ∧ ∃ f fd ps, mg x = some (.ref f) ∧ PySem.W.keepIn K (.ref f) = true ∧ FnG P w K mg base k f fd ps (SpD K T (Ds.map (Df.fd gt)) k j ps.length) ∧ ∀ n ks src, gt.bnd.lookup (j, n, ks) = some src → Bnd K fd ps n ks src := fun x j hx => by
        rw [t.fns] at hx
        obtain ⟨d', _, h2, rfl⟩ := names_at hx
        rw [Nat.sub_zero] at h2
        obtain ⟨f', fd', F', m', b'⟩ := t.defs.at h2
        rw [Nat.zero_add] at b'
        exact ⟨rfl, f', fd', d'.ps, m', F'.kp, all_G t tb k j d' h2 f' fd' F' m', b'⟩
      have o : Sok (cxOf (L2.CX P w) P w K mg base d.N d.nm (defScope d.st) f cdv A outer s H E) T (Ds.map (Df.fd gt)) k gt (fun cv dd _ H' => E cv dd H') d.cc (run (Ds.map (Df.fd gt)) k) := by
        rw [hcc]
        refine { hN := rfl, nd := S.nd, sc := rfl, kd := S.kind, calm := fun _ => rfl, tk := takes_of rfl rfl rfl rfl, room := fun _ => hr.mono (by omega), un := hun, gd := hg, own := passes_of rfl, fns := fun _ => fnsX, blt := t.blt, act := fun _ z => (by cases z), exi := fun _ _ z => (by cases z), exi2 := fun _ _ z => (by cases z), exf := fun _ _ z => (by cases z), lam := ?_, fnl := fun _ x i hx => rfl, lmc := fun _ => rfl, fn := fun _ => rfl, stk := rfl, frm := rfl, er := t.er, p1 := fun _ => t.pin 1, rm2 := fun _ => hr.mono (by omega), actT := fun _ z => (by cases z), nex := fun _ => rfl }
        intro hlm x j hlj hgx params body scope cb p lpos pos hlB hbody
        obtain ⟨d', a, h2, hnm, ha', hps, hN0, hda, hdx, hbnd⟩ := t.lams x j hlj
        obtain ⟨g', fd', F', m', b'⟩ := t.defs.at h2
        rw [Nat.zero_add] at b'
        subst hnm
        obtain ⟨oc', od', dV', kV', doc', pm', an', cdv', ct', osl', rfl, lk', hcd', _, _⟩ := F'.ex
        have S' : FnScope d'.N d'.ps (defScope d'.st) := scB_ok (List.all_eq_true.mp t.sc d' (List.mem_of_getElem? h2))
        rw [hps] at S'
        have hb1 := b' 1 [] _ hbnd
        rw [hps] at hb1
        obtain ⟨c, Pt, e1, e2, e3, e4⟩ := tb d (List.mem_of_getElem? hd) hlm f _ F hmf
        have e1 : cdv = .ref c := e1
        obtain ⟨q1, q2⟩ := lam_facts (env := PyProof.Rows.envOfC d.nm (defScope d.st) s.heap.objs.size f cdv) hlB
        have gx : Gl (cxOf (L2.CX P w) P w K mg base d.N d.nm (defScope d.st) f cdv A outer s H E) d'.nm ∧ (d'.nm == ("__debug__" : Str)) = false := by
          unfold Cc.glob Cc.kind at hgx
          split at hgx
          · rename_i hk
            exact ⟨hk, (dbg_no (by simpa using hgx)).1⟩
          · cases hgx
        have vs' : Vis (defScope d'.st) a := by
          rcases S'.par a (List.mem_singleton.mpr rfl) with z | z
          · exact .inl z
          · exact .inr (.inl z)
        refine ge_lam (X := cxOf (L2.CX P w) P w K mg base d.N d.nm (defScope d.st) f cdv A outer s H E) (fb := d'.fd gt) gx.1 m' F'.kp lk' hcd' hb1 S' hN0 vs' (dbg_no hda).1 (dbg_no hda).2 gx.2 e2 e1 e3 e4 hr (lamS_of hlB) q1 (q2 body) (t.pin 0) (by rw [List.getElem?_map, h2]; rfl) ha' (by show d'.ps.length = 1; rw [hps]; rfl) rfl rfl hbody fun k' f' r0 G0 s0 H0 th hk' hac => ?_
        have hcc' : d'.cc = { N := d'.N, sc := defScope d'.st, act := some a, cold := false } := by
          unfold Df.cc
          rw [if_pos ha', hN0]
        have hr3 : Room (3 * k + 1) ((A.deeper (PyProof.Rows.envOfC d.nm (defScope d.st) s.heap.objs.size f cdv)).deeper (PyProof.Rows.envOfC d'.nm (defScope d'.st) s0.heap.objs.size g' cdv')) := (hr.mono (j := 3 * k + 1 + 1) (by omega)).deeper _
        have hun3 : ((A.deeper (PyProof.Rows.envOfC d.nm (defScope d.st) s.heap.objs.size f cdv)).deeper (PyProof.Rows.envOfC d'.nm (defScope d'.st) s0.heap.objs.size g' cdv')).units + 200 < cLine := by have := hr3.un; omega
        refine cSs_ok (cS_ok (F := Ds.map (Df.fd gt)) (k := k') 60 30 _ _ _ d'.cc _ ?_) _
        rw [hcc']
        exact { hN := rfl, nd := S'.nd, sc := rfl, kd := S'.kind, calm := fun _ => rfl, tk := takes0, room := fun z => (by cases z), un := hun3, gd := hg, own := passes_of rfl, fns := fun z => (by cases z), blt := t.blt, act := fun b z p1 p2 => (by cases z; exact hac (fun _ _ _ _ => False) [] _ p1 p2 takes0), exi := fun _ _ z => (by cases z), exi2 := fun _ _ z => (by cases z), exf := fun _ _ z => (by cases z), lam := fun z => (by cases z), fnl := fun z => (by cases z), lmc := fun z => (by cases z), fn := fun _ => rfl, stk := rfl, frm := rfl, er := t.er.at 0 _ _ _, p1 := fun _ => t.pin 1, rm2 := fun _ => hr3.mono (by omega), actT := fun b z pn xe W' tk p1 p2 => (by cases z; exact hac W' pn xe p1 p2 tk), nex := fun _ => rfl }
      exact cSs_ok (cS_ok 60 30 _ _ _ _ _ o) _
end
end T5

set_option Elab.async false
set_option linter.all false
set_option maxRecDepth 100000
set_option maxHeartbeats 4000000
/-! T5: what the head's run tells of error classes; the Hook. -/
namespace T5
open PySem PySem.Spec L2
/-- an error class with an own __init__ -/
structure Err where
  x : Str
  params : Arguments
  body : List Stmt
  scope : Scope
  ps : List Str
abbrev FnI : Type := Option (Str × Str × Arguments × FuncBody × Scope × Addr × Addr)
def iAd (K : PySem.W.Frag) (x : Str) : Addr := He.ma K (He.ga K x) "__init__"
def initW (K : PySem.W.Frag) (x : Str) : FnI := match K.lookup (iAd K x) with
  | some ⟨_, _, .func fd, _⟩ => some (fd.name, fd.qualname, fd.params, fd.body, fd.scope, fd.globals, fd.builtins)
  | _ => none
def Err.val (e : Err) : FnI := some ("__init__", e.x ++ ".__init__", e.params, .stmts e.body, e.scope, mainGlobals, builtinsNs)
/-- the class's own object -/
def clsB (K : PySem.W.Frag) (C : Addr) : Bool := match K.lookup C with
  | some ⟨.type t, _, .cls cd, sl⟩ => (match cd.mro, sl.toList with
    | .ref C' :: bm, [_, _, _, _, some (.builtin n), _] => decide (t = "type") && (decide (C' = C) && (decide (n = "ValueError.__new__") && (!cd.hasDel && (cd.hasDict && PySem.HandSPX.refsVE bm))))
    | _, _ => false)
  | _ => false
theorem clsB_ok {K : PySem.W.Frag} {C : Addr} (h : clsB K C = true) : ∃ nm q N bs bm sn sub ab col dd k0 k1 k2 k3 k5, K.lookup C = some (excClassObj nm q C N bs bm true sn sub ab col dd k0 k1 k2 k3 k5 "ValueError.__new__") ∧ PySem.HandSPX.refsVE bm = true := by
  unfold clsB at h
  split at h
  · rename_i t dd cd sl ho
    split at h
    · rename_i C' bm k0 k1 k2 k3 n k5 hm hs
      simp only [Bool.and_eq_true, decide_eq_true_eq, Bool.not_eq_true'] at h
      obtain ⟨rfl, rfl, rfl, h4, h5, h6⟩ := h
      obtain ⟨nm, bs, mro, ns, qn, hd, sn, sub, ab, col, del⟩ := cd
      simp only at hm h4 h5
      subst hm h4 h5
      obtain ⟨l⟩ := sl
      simp only at hs
      subst hs
      exact ⟨nm, qn, ns, bs, bm, sn, sub, ab, col, dd, k0, k1, k2, k3, k5, ho, h6⟩
    · cases h
  · cases h
def eqV (a b : Option (Option Value)) : Bool := decide (a = b)
def eqB (a b : Option Bool) : Bool := decide (a = b)
/-- the closure, the code object of __init__ -/
def funB (file : Str) (K : PySem.W.Frag) (x : Str) : Bool := match K.lookup (iAd K x) with
  | some ⟨_, _, .func fd, _⟩ => (match fd.closure, fd.code, fd.defaults with
    | [(n, cc)], .ref cda, .none => decide (n = "__class__") && ((match K.lookup cc with
        | some ⟨_, _, .cell (some (.ref D)), _⟩ => decide (D = He.ga K x)
        | _ => false) && (PySem.W.codeIn K (.ref cda) (x ++ ".__init__") && (match K.lookup cda with
        | some ⟨_, _, .fields vs, _⟩ => (match vs[(2 : Nat)]? with
          | some (.str f _) => file == f
          | _ => false)
        | _ => false)))
    | _, _, _ => false)
  | _ => false
def errB (file : Str) (K : PySem.W.Frag) (e : Err) : Bool :=
  eqV (PySem.W.nsIn K mainGlobals e.x) (some (some (.ref (He.ga K e.x)))) && (clsB K (He.ga K e.x) && (eqV (PySem.W.findIn K (.ref (He.ga K e.x)) "__setattr__") (some (some (.builtin "object.__setattr__"))) && (eqB (PySem.W.subIn K (.ref (He.ga K e.x)) (.type "BaseException")) (some true) && (decide (PySem.W.typeIn K (.ref (He.ga K e.x)) = some (.type "type")) && (PySem.W.keepIn K (.ref (He.ga K e.x)) &&
  ((e.ps.all fun f => eqV (PySem.W.findIn K (.ref (He.ga K e.x)) f) (some none)) && (funB file K e.x && (eqB (PySem.W.mroIn K (He.ga K e.x) (.ref (He.ga K e.x))) (some true) && (eqV (PySem.W.ks_superIn K (He.ga K e.x) (He.ga K e.x) "__init__") (some (some (.builtin "ValueError.__init__"))) && (eqB (PySem.W.subIn K (.ref (He.ga K e.x)) (.type "ValueError")) (some true) &&
  (eqV (PySem.W.findIn K (.ref (He.ga K e.x)) "__init__") (some (some (.ref (iAd K e.x)))) && (decide (PySem.W.typeIn K (.ref (iAd K e.x)) = some (.type "function")) &&
  (eqV (PySem.W.findIn K (.ref (He.ga K e.x)) "__getattribute__") (some (some (.builtin "BaseException.__getattribute__"))) && (eqV (PySem.W.findIn K (.ref (He.ga K e.x)) "__getattr__") (some none) && (PySem.W.hasDictIn K (He.ga K e.x) && (eqV (PySem.W.findIn K (.ref (He.ga K e.x)) "__class__") (some (some (.builtin "object.__class__"))) && (eqB (PySem.W.mroIn K (He.ga K e.x) (.type "object")) (some true))))))))))))))))))
/-- what never depends on the class -/
def comB (K : PySem.W.Frag) : Bool := eqV (PySem.W.nsIn K cStatics "thirdparty.any") (some none) && (eqV (PySem.W.nsIn K mainGlobals "super") (some none) && (eqV (PySem.W.specialIn K (.builtin "object.__class__") "__get__") (some (some (.builtin "getset_descriptor.__get__"))) && eqB (PySem.W.takesIn K (.builtin "object.__class__")) (some true)))
/-- what is static of the class -/
def Err.okB (e : Err) : Bool := initB "self" e.ps e.body && (!e.ps.isEmpty && (Nat.ble e.ps.length 800 && (nodupB (("self" : Str) :: e.ps) && (decide ((e.params.posonlyargs ++ e.params.args).head?.map (·.arg) = some ("self" : Str)) && (decide (e.scope.names.lookup ("super" : Str) = some .globalImplicit) && (decide (e.scope.names.lookup ("__class__" : Str) = some .free) && (((("self" : Str) :: e.ps).all (locB e.scope)) && ((e.scope.names.all fun y => !decide (y.2 = .cell)) && (!e.scope.isCoroutine && (!e.scope.isGenerator && decide (e.scope.kind = .function)))))))))))
/-- how its __init__ binds -/
def Err.Bnds (e : Err) : Prop := ∀ (kV doc pm : Value) (an : Option Addr) (cdv ct : Value) (cc : Addr) (us : List Value), us.length = ((("self" : Str) :: e.ps)).length → bindArgs (PySem.W.ksFn "__init__" (e.x ++ ".__init__") e.params e.body e.scope .none kV doc pm an cdv ct cc) ⟨us, []⟩ = pure ((("self" : Str) :: e.ps).zip us)
theorem err_of {prog : Program} {K : PySem.W.Frag} {e : Err} (h1 : errB prog.main.file K e = true) (h2 : comB K = true) (h3 : e.okB = true) (h4 : e.Bnds) (h5 : initW K e.x = e.val) (h6 : (prog.main.scope.names.lookup ("super" : Str)).isSome = false) : ErrI prog K (He.ga K e.x) (iAd K e.x) "self" e.ps ∧ ExcC K (He.ga K e.x) ∧ XfC K (He.ga K e.x) := by
  unfold errB at h1
  simp only [Bool.and_eq_true, eqV, eqB, decide_eq_true_eq, List.all_eq_true] at h1
  obtain ⟨a1, a2, a3, a4, a5, a6, a7, a8, a9, a10, a11, a12, a13, a14, a15, a16, a17, a18⟩ := h1
  unfold comB at h2
  simp only [Bool.and_eq_true, eqV, eqB, decide_eq_true_eq] at h2
  obtain ⟨b1, b2, b3, b4⟩ := h2
  unfold Err.okB at h3
  simp only [Bool.and_eq_true, decide_eq_true_eq, Bool.not_eq_true'] at h3
  obtain ⟨c1, c2, c3, c4, c5, c6, c7, c8, c9, c10, c11, c12⟩ := h3
  have hcell : ∀ y ∈ e.scope.names, y.2 ≠ .cell := fun y hy z => by
    have := List.all_eq_true.mp c9 y hy
    rw [z] at this
    cases this
  refine ⟨⟨⟨⟨clsB_ok a2, a3, a4, a5, a6⟩, a7⟩, fun z => ?_, Nat.le_of_ble_eq_true c3, ?_, nodupB_ok c4, h6, a9, b1, a10, a11, a12, a13⟩, ⟨a14, a15, a4, a16, a17, b3, b4, a18⟩, ⟨a14, a15, a4, a16⟩⟩
  · rw [z] at c2
    cases c2
  · unfold initW at h5
    unfold funB at a8
    split at a8
    · rename_i oc od fd osl hfd
      rw [hfd] at h5
      simp only [Err.val, Option.some.injEq, Prod.mk.injEq] at h5
      obtain ⟨d1, d2, d3, d4, d5, d6, d7⟩ := h5
      split at a8
      · rename_i n cc cda hc1 hc2 hc3
        simp only [Bool.and_eq_true, decide_eq_true_eq] at a8
        obtain ⟨rfl, e2, e3, e4⟩ := a8
        obtain ⟨n1, n2, n3, n4, n5, n6, n7, n8, n9, n10, n11, n12, n13, n14, n15⟩ := fd
        simp only at d1 d2 d3 d4 d5 d6 d7 hc1 hc2 hc3
        subst d1 d2 d3 d4 d5 d6 d7 hc1 hc2 hc3
        split at e2
        · rename_i cl cld D csl hcc
          have e2 := of_decide_eq_true e2
          subst e2
          split at e4
          · rename_i ccl cdd vs ccs hcda
            split at e4
            · rename_i f tf hvs
              cases hh : (e.params.posonlyargs ++ e.params.args).head? with
              | none => rw [hh] at c5; cases c5
              | some ar =>
                rw [hh] at c5
                exact ⟨_, _, _, _, .none, _, _, _, _, cda, _, _, cc, _, _, ar, _, _, _, _, f, tf, _, _, _, hfd, e3, c1, hh, Option.some.inj c5, hcda, hvs, e4, hcc, c6, c7, c8, hcell, c10, c11, c12, fun dV kV doc pm an cdv ct us hu => h4 kV doc pm an cdv ct cc us hu, rfl⟩
            · cases e4
          · cases e4
        · cases e2
      · cases a8
    · cases a8

/-! ### all of them -/
def errsOf : Nat → List Err → List (Str × Nat × Nat)
  | _, [] => []
  | i, e :: r => (e.x, i, e.ps.length) :: errsOf (i + 1) r
theorem errs_at {x : Str} {c n : Nat} : ∀ {l : List Err} {j : Nat}, (errsOf j l).lookup x = some (c, n) → ∃ e, j ≤ c ∧ l[c - j]? = some e ∧ e.x = x ∧ e.ps.length = n
  | [], _, h => by cases h
  | e :: r, j, h => by
    unfold errsOf at h
    rw [List.lookup_cons] at h
    split at h
    · rename_i q
      cases h
      exact ⟨e, Nat.le_refl _, by simp, (eq_of_beq q).symm, rfl⟩
    · obtain ⟨e', h1, h2, h3, h4⟩ := errs_at h
      refine ⟨e', by omega, ?_, h3, h4⟩
      have : c - j = (c - (j + 1)) + 1 := by omega
      rw [this, List.getElem?_cons_succ]
      exact h2
def nmE (es : List Err) (c : Nat) : Str := (es[c]?.map (·.x)).getD "?"
def flE (es : List Err) (c : Nat) : List Str := (es[c]?.map (·.ps)).getD []
/-- the class that a name means: an own one, or ValueError -/
def isV (x : Str) : Bool := decide (x = "ValueError")
def clV (K : PySem.W.Frag) (x : Str) : Value := if isV x then .type "ValueError" else .ref (He.ga K x)
def isaB (K : PySem.W.Frag) (es : List Err) (p : Str × List Nat) : Bool :=
  (if isV p.1 then eqV (PySem.W.nsIn K mainGlobals p.1) (some none) else eqV (PySem.W.nsIn K mainGlobals p.1) (some (some (.ref (He.ga K p.1))))) &&
  (List.range es.length).all fun c => eqB (PySem.W.exmOne K (.ref (He.ga K (nmE es c))) (clV K p.1)) (some (memN c p.2)) && eqB (PySem.W.kitOne K (.ref (He.ga K (nmE es c))) (clV K p.1)) (some (memN c p.2))
def fldB (es : List Err) (p : Str × List (Nat × Nat)) : Bool := p.2.all fun q => decide ((flE es q.1)[q.2]? = some p.1)
def exB (file : Str) (es : List Err) (isa : List (Str × List Nat)) (K : PySem.W.Frag) : Bool := es.isEmpty || ((es.all (errB file K)) && (isa.all (isaB K es) && comB K))
def tbOf (K : PySem.W.Frag) (es : List Err) (tabs : List (Addr × Str)) : Tb := ⟨fun _ => 0, fun c => He.ga K (nmE es c), flE es, [], fun _ => none, fun _ => none, tabs, es.length⟩
def AllE (P : Err → Prop) : List Err → Prop
  | [] => True
  | e :: r => P e ∧ AllE P r
theorem AllE.at {P : Err → Prop} : ∀ {l : List Err}, AllE P l → ∀ e ∈ l, P e
  | [], _, e, h => by cases h
  | a :: r, h, e, hm => by
    rcases List.mem_cons.mp hm with rfl | hm
    · exact h.1
    · exact AllE.at h.2 e hm
theorem mem_look {α β : Type} [BEq α] [LawfulBEq α] {x : α} {v : β} : ∀ {l : List (α × β)}, l.lookup x = some v → (x, v) ∈ l
  | [], h => by cases h
  | p :: r, h => by
    rw [List.lookup_cons] at h
    split at h
    · rename_i e
      cases h
      rw [eq_of_beq e]
      exact List.mem_cons_self ..
    · exact List.mem_cons_of_mem _ (mem_look h)
theorem lookN_mem {c j : Nat} : ∀ {l : List (Nat × Nat)}, lookN c l = some j → (c, j) ∈ l
  | [], h => by cases h
  | p :: r, h => by
    unfold lookN at h
    split at h
    · rename_i e
      cases h
      rw [Nat.eq_of_beq_eq_true e]
      exact List.mem_cons_self ..
    · exact List.mem_cons_of_mem _ (lookN_mem h)
theorem errAll_of {prog : Program} {K : PySem.W.Frag} {h : Heap} {mg : Str → Option Value} {gt : Gt} {es : List Err} {tabs : List (Addr × Str)} (X : K.In h) (G : h.Ns mainGlobals mg) (hx : exB prog.main.file es gt.isa K = true) (h0 : es = [] → gt.isa = [] ∧ gt.fld = []) (hs : (es.all Err.okB) = true) (hb : AllE Err.Bnds es) (hi : es.map (fun e => initW K e.x) = es.map Err.val)
    (hsup : (prog.main.scope.names.lookup ("super" : Str)).isSome = false) (he : gt.errs = errsOf 0 es) (hf : (gt.fld.all (fldB es)) = true) : ErrAll prog K mg (tbOf K es tabs) gt := by
  by_cases hne : es = []
  · obtain ⟨i1, i2⟩ := h0 hne
    subst hne
    refine ⟨fun x c n hl => ?_, fun x cs hl => ?_, fun c hc => ?_, fun f js c j hl => ?_, fun z => ?_⟩
    · rw [he] at hl; cases hl
    · rw [i1] at hl; cases hl
    · exact absurd hc (Nat.not_lt_zero c)
    · rw [i2] at hl; cases hl
    · rw [he] at z; exact absurd rfl z
  · have hx : ((es.all (errB prog.main.file K)) && (gt.isa.all (isaB K es) && comB K)) = true := by
      unfold exB at hx
      cases es with
      | nil => exact absurd rfl hne
      | cons a r => exact hx
    obtain ⟨x1, x2⟩ := Bool.and_eq_true_iff.mp hx
    obtain ⟨x2, x3⟩ := Bool.and_eq_true_iff.mp x2
    have all : ∀ e ∈ es, (ErrI prog K (He.ga K e.x) (iAd K e.x) "self" e.ps ∧ ExcC K (He.ga K e.x) ∧ XfC K (He.ga K e.x)) ∧ PySem.W.nsIn K mainGlobals e.x = some (some (.ref (He.ga K e.x))) := fun e hm => by
      have y1 := List.all_eq_true.mp x1 e hm
      refine ⟨err_of y1 x3 (List.all_eq_true.mp hs e hm) (hb.at e hm) ?_ hsup, of_decide_eq_true (Bool.and_eq_true_iff.mp y1).1⟩
      obtain ⟨i, hi', e1⟩ := List.mem_iff_getElem.mp hm
      have z : (es.map fun e => initW K e.x)[i]? = (es.map Err.val)[i]? := by rw [hi]
      rw [List.getElem?_map, List.getElem?_map, List.getElem?_eq_getElem hi', e1] at z
      exact Option.some.inj z
    have at_ : ∀ c e, es[c]? = some e → nmE es c = e.x ∧ flE es c = e.ps := fun c e q => by
      unfold nmE flE
      rw [q]
      exact ⟨rfl, rfl⟩
    refine ⟨fun x c n hl => ?_, fun x cs hl => ?_, fun c hc => ?_, fun f js c j hl hc hj => ?_, fun _ => ?_⟩
    · rw [he] at hl
      obtain ⟨e, _, q1, rfl, q3⟩ := errs_at hl
      rw [Nat.sub_zero] at q1
      obtain ⟨⟨k1, _⟩, k2⟩ := all e (List.mem_of_getElem? q1)
      obtain ⟨n1, n2⟩ := at_ c e q1
      refine ⟨iAd K e.x, "self", e.ps, ?_, n2, q3, (List.getElem?_eq_some_iff.mp q1).1, ?_⟩
      · show ErrI prog K (He.ga K (nmE es c)) _ _ _
        rw [n1]
        exact k1
      · show mg e.x = some (.ref (He.ga K (nmE es c)))
        rw [n1]
        exact PySem.W.mg_of X G k2
    · have y := List.all_eq_true.mp x2 _ (mem_look hl)
      unfold isaB at y
      obtain ⟨y1, y2⟩ := Bool.and_eq_true_iff.mp y
      have y3 : ∀ c, c < es.length → PySem.W.exmOne K (.ref (He.ga K (nmE es c))) (clV K x) = some (memN c cs) ∧ PySem.W.kitOne K (.ref (He.ga K (nmE es c))) (clV K x) = some (memN c cs) := fun c hc => by
        have z := List.all_eq_true.mp y2 c (List.mem_range.mpr hc)
        obtain ⟨z1, z2⟩ := Bool.and_eq_true_iff.mp z
        exact ⟨of_decide_eq_true z1, of_decide_eq_true z2⟩
      by_cases hv : isV x = true
      · have hxe : x = "ValueError" := of_decide_eq_true hv
        simp only [hv, if_true] at y1
        have y1 := PySem.W.mg_none_of X G (of_decide_eq_true y1)
        have ec : clV K x = .type "ValueError" := by unfold clV; rw [if_pos hv]
        rw [ec] at y3
        refine ⟨.type "ValueError", .ty "ValueError", .inr ⟨y1, ?_, ?_⟩, rfl, fun u hu => hu, y3⟩
        · rw [hxe]; decide +kernel
        · rw [hxe]; decide
      · have hv : isV x = false := by simpa using hv
        simp only [hv, Bool.false_eq_true, if_false] at y1
        have y1 := PySem.W.mg_of X G (of_decide_eq_true y1)
        have ec : clV K x = .ref (He.ga K x) := by unfold clV; rw [if_neg (by rw [hv]; decide)]
        rw [ec] at y3
        exact ⟨.ref (He.ga K x), .ref (He.ga K x), .inl y1, rfl, fun u hu => hu, y3⟩
    · have hc : c < es.length := hc
      obtain ⟨⟨k0, k1, k3⟩, k2⟩ := all es[c] (List.getElem_mem hc)
      obtain ⟨n1, n2⟩ := at_ c es[c] (List.getElem?_eq_getElem hc)
      show ExcC K (He.ga K (nmE es c)) ∧ XfC K (He.ga K (nmE es c)) ∧ ∀ f ∈ flE es c, PySem.W.findIn K (.ref (He.ga K (nmE es c))) f = some none
      rw [n1, n2]
      exact ⟨k1, k3, k0.ec.no⟩
    · have y := List.all_eq_true.mp (List.all_eq_true.mp hf _ (mem_look hl)) _ (lookN_mem hj)
      exact of_decide_eq_true y
    · unfold comB at x3
      simp only [Bool.and_eq_true, eqV, decide_eq_true_eq] at x3
      exact PySem.W.mg_none_of X G x3.2.1
end T5

set_option Elab.async false
set_option linter.all false
set_option maxRecDepth 100000
set_option maxHeartbeats 4000000
/-! T5: the Hook. -/
namespace T5
open PySem PySem.Spec L2
/-- what is told: defs and facts, the errors' __init__s, one more Bool, the tables of code objects: empty, not in K -/
structure SaysE (fa : List He.Fa) (fn : List He.DefD) (es : List Err) (tf : List He.Defn) (ex : PySem.W.Frag → Bool) (h : Heap) (K : PySem.W.Frag) : Prop where
  d : He.SaysD fa fn K
  ini : es.map (fun e => initW K e.x) = es.map Err.val
  more : ex K = true
  hd : ∀ p ∈ tf, PySem.W.codeHdIn K (He.cT K p).1 (He.cT K p).2 = true
  out : ∀ p ∈ tf, K.lookup (He.cT K p).2 = none
  empty : ∀ p ∈ tf, h.get? (He.cT K p).2 = some { cls := .none, data := .fields #[] }
abbrev AlE : Type := He.AlD × List FnI × Bool
def frE (g : Addr → Option Obj) (n : Nat) : PySem.W.Frag := He.frT g (cStatics :: He.asD g n)
def obsE (n : Nat) (fa : List He.Fa) (fn : List He.DefD) (es : List Err) (tf : List He.Defn) (ex : PySem.W.Frag → Bool) (g : Addr → Option Obj) : AlE :=
  let K := frE g n
  (He.obsD fa fn K, es.map (fun e => initW K e.x), ex K && He.tabsB g tf K)
def valE (fn : List He.DefD) (es : List Err) : AlE := (He.valD fn, es.map Err.val, true)
theorem saysE_of {n : Nat} {fa : List He.Fa} {fn : List He.DefD} {es : List Err} {tf : List He.Defn} {ex : PySem.W.Frag → Bool} {h : Heap} (e : obsE n fa fn es tf ex h.get? = valE fn es) : SaysE fa fn es tf ex h (frE h.get? n) := by
  have e1 : He.obsD fa fn (frE h.get? n) = He.valD fn := congrArg (fun z : AlE => z.1) e
  have e2 : es.map (fun e => initW (frE h.get? n) e.x) = es.map Err.val := congrArg (fun z : AlE => z.2.1) e
  have e3 : (ex (frE h.get? n) && He.tabsB h.get? tf (frE h.get? n)) = true := congrArg (fun z : AlE => z.2.2) e
  obtain ⟨h1, h2⟩ := Bool.and_eq_true_iff.mp e3
  have key : ∀ p ∈ tf, PySem.W.codeHdIn (frE h.get? n) (He.cT (frE h.get? n) p).1 (He.cT (frE h.get? n) p).2 = true ∧ ∃ o, h.get? (He.cT (frE h.get? n) p).2 = some o ∧ He.emptyTab o = true := fun p hp => by
    obtain ⟨h3, h4⟩ := Bool.and_eq_true_iff.mp (List.all_eq_true.mp h2 p hp)
    cases q : h.get? (He.cT (frE h.get? n) p).2 with
    | none => rw [q] at h4; cases h4
    | some o => rw [q] at h4; exact ⟨h3, o, rfl, h4⟩
  refine ⟨e1, e2, h1, fun p hp => (key p hp).1, fun p hp => ?_, fun p hp => ?_⟩
  · obtain ⟨_, o, q, z⟩ := key p hp
    exact He.frT_none q z
  · obtain ⟨_, o, q, z⟩ := key p hp
    rw [q, He.emptyTab_eq z]
def hookE (n : Nat) (fa : List He.Fa) (fn : List He.DefD) (es : List Err) (tf : List He.Defn) (ex : PySem.W.Frag → Bool) : PySem.W.Hook where
  α := AlE
  obs := fun s => obsE n fa fn es tf ex s.heap.get?
  val := fun _ => valE fn es
  says := fun _ h => ∃ K : PySem.W.Frag, K.In h ∧ SaysE fa fn es tf ex h K
  of := fun _ _ e => ⟨_, He.frT_in, saysE_of e⟩
  keeps := fun _ _ _ ⟨K, hK, c⟩ k => ⟨K, PySem.W.Frag.In.keeps hK k, ⟨c.d, c.ini, c.more, c.hd, c.out, fun p hp => k _ _ (c.empty p hp)⟩⟩
theorem obsE_eq {n : Nat} {fa : List He.Fa} {fn : List He.DefD} {es : List Err} {tf : List He.Defn} {ex : PySem.W.Frag → Bool} {g : Addr → Option Obj} {s : Shared} (h : ∀ a, g a = s.heap.get? a) : obsE n fa fn es tf ex g = (hookE n fa fn es tf ex).obs s := by
  have e : g = s.heap.get? := funext h
  rw [e] <;> rfl
end T5

set_option Elab.async false
set_option linter.all false
set_option maxRecDepth 100000
set_option maxHeartbeats 2000000
/-! T5: the law's end. -/
namespace T5
open PySem PySem.Spec L2 PyProof.Rows
section
variable {P : Program} {w : World} {K : PySem.W.Frag} {mg mb : Str → Option Value} {k : Nat} {fa a : Addr} {fd : FuncData} {x : Str} {sp : Sp} {s₁ : Shared} {vs : List Value} {ns : List Int} {cs : List (Addr × Addr)}
/-- one call: tracked are the script, perhaps, and tables -/
theorem one_call {H : Hp} (KX : K.In s₁.heap) (hns : s₁.heap.Ns mainGlobals mg) (hb : s₁.heap.Ns builtinsNs mb) (hbb : ∀ x : Str, x ≠ "__name__" → mb x = bootBuiltins x) (hlim : s₁.heap.NoLimit) (hg : s₁.gens = #[])
    (hT : ∀ p ∈ cs, s₁.heap.get? p.2 = some { cls := .none, data := .fields #[] }) (nT : ∀ p ∈ cs, K.lookup p.2 = none) (C : ∀ p ∈ cs, PySem.W.CodeHd s₁.heap p.1 p.2)
    (hbm : ∃ (bm : Addr) (ob : Obj), mg "__builtins__" = some (.ref bm) ∧ bm ≠ builtinsNs ∧ s₁.heap.get? bm = some ob ∧ ob.cls = .type "module" ∧ ob.dict = some builtinsNs ∧ ob.data = .plain)
    (ha : s₁.heap.get? a = some { cls := .type "list", data := .seq vs.toArray }) (hr : Room (3 * k) callerA)
    (F : ∀ base : Heap, K.In base → base.Ns mainGlobals mg → (∀ p ∈ cs, LamX.TabB base mg p.1 p.2) → FnG P w K mg base k fa fd [x] sp) (hbi : BindsTo s₁ fd ⟨[.ref a], []⟩ [(x, .ref a)])
    (hH : ∀ p ∈ cs, H p.2 = some (.tbl #[])) (hO : ∀ b, H b = none ∨ b ∈ cs.map (·.2) ∨ ∃ o xs, H b = some (.frz o (.lst xs))) (hok : HOk P w H s₁.heap) (hA : ∀ b, H b ≠ none → b = a ∨ b ∈ cs.map (·.2)) (hK : H a ≠ none → K.lookup a = none) (hsp : sp [.ref a] H (fun v _ => v = .bl true) fun _ _ _ => False) :
    codeAny (model P w) callerA (.call (.ref fa) ⟨[.ref a], []⟩) (fun r s' => r = .ok (.ret (.bool true)) ∧ OldK s₁.heap s'.heap ∧ s'.os = s₁.os ∧ AllBare s'.gens) s₁ := by
  have isT : ∀ b : Addr, b ∈ cs.map (·.2) → s₁.heap.get? b = some { cls := .none, data := .fields #[] } := fun b hb => by
    obtain ⟨p, hp, e⟩ := List.mem_map.mp hb
    rw [← e]
    exact hT p hp
  -- what is neither a list nor an empty table is not tracked
  have noD : ∀ {b : Addr} {o : Obj}, s₁.heap.get? b = some o → (∀ vs n, o.data ≠ .seq vs n) → o.data ≠ .fields #[] → H b = none := fun {b o} e h1 h2 => by
    cases q : H b with
    | none => rfl
    | some u =>
      rcases hA b (by rw [q]; simp) with e' | e'
      · subst e'
        rw [ha] at e
        cases e
        exact absurd rfl (h1 _ _)
      · rw [isT b e'] at e
        cases e
        exact absurd rfl h2
  have hid : ∀ {b : Addr} {m : Str → Option Value}, s₁.heap.Ns b m → (hidT s₁.heap H).Ns b m := by
    rintro b m ⟨o, es, ep, e, d, r⟩
    refine ⟨o, es, ep, hidT_get e (noD e (fun vs n z => ?_) fun z => ?_), d, r⟩ <;> (rw [d] at z; cases z)
  have kin : K.In (hidT s₁.heap H) := fun b o e => hidT_get (KX b o e) (by
    cases q : H b with
    | none => rfl
    | some u =>
      rcases hA b (by rw [q]; simp) with e' | e'
      · subst e'
        rw [hK (by rw [q]; simp)] at e
        cases e
      · obtain ⟨p, hp, ep⟩ := List.mem_map.mp e'
        rw [← ep, nT p hp] at e
        cases e)
  have lim : (hidT s₁.heap H).NoLimit := hlim.elim fun mc h => ⟨mc, hid h.1, h.2⟩
  have none_in : ∀ b : Addr, b ∉ ([] : List Addr) := fun b z => by cases z
  have TB : ∀ p ∈ cs, LamX.TabB (hidT s₁.heap H) mg p.1 p.2 := fun p hp => by
    have hTp := hT p hp
    refine ⟨?_, ?_, fun z => ?_⟩
    · obtain ⟨o, us, file, tf, flags, tg, inF, text, tt, e1, r1, r2, r3, r4⟩ := C p hp
      refine ⟨o, us, file, tf, flags, tg, inF, text, tt, hidT_get e1 (noD e1 (fun vs n z => ?_) fun z => ?_), r1, r2, r3, r4⟩
      · rw [r2] at z; cases z
      · rw [r2] at z; cases z; simp at r3
    · obtain ⟨bm, ob, b1, b2, b3, b4, b5, b6⟩ := hbm
      have n1 : bm ≠ mainGlobals := fun q => by
        obtain ⟨o, es, ep, e, hd, _⟩ := hns
        rw [q, e] at b3
        cases b3
        rw [hd] at b6
        cases b6
      have n2 : bm ≠ p.2 := fun q => by
        rw [q, hTp] at b3
        cases b3
        cases b6
      refine ⟨bm, ob, b1, b2, n1, n2, hidT_get b3 (noD b3 (fun vs n z => ?_) fun z => ?_), b4, b5, b6⟩ <;> (rw [b6] at z; cases z)
    · obtain ⟨o, es, ep, e, hd, _⟩ := hns
      rw [z, hTp] at e
      cases e
      cases hd
  have E0 : Env0 P w K mg (hidT s₁.heap H) callerA [] s₁ H := ⟨rfl, ⟨kin, hid hns, ⟨mb, hid hb, hbb⟩, lim⟩, fun b o e => of_hidT e, Nat.le_of_eq (hidT_size _ _), trivial, fun b z => absurd z (none_in b), hok, .of_eq hg⟩
  have go := (F _ kin (hid hns) TB).run callerA [] s₁ H ⟨[.ref a], []⟩ [.ref a] [.ref a] (fun v _ => v = .bl true) (fun _ _ _ => False) rfl hr E0 hbi (.cons rfl .nil) hsp
  refine codeAny_mono go fun res s' h => ?_
  cases res with
  | error e =>
    obtain ⟨_, _, _, _, _, _, _, _, _, _, _, _, z⟩ := h
    exact z.elim
  | ok fl =>
    cases fl with
    | ret u =>
      obtain ⟨v, H', os, bare, un, hok', r', q⟩ := h
      cases (show v = .bl true from q)
      cases (show u = Value.bool true from r')
      have key : ∀ b o, b ∉ cs.map (·.2) → s₁.heap.get? b = some o → s'.heap.get? b = some o := fun b o nb e => by
        rcases hO b with z | z | ⟨ob, xs, z⟩
        · exact un.keep b o e z (none_in b) (by simp)
        · exact absurd z nb
        · obtain ⟨e1, _⟩ := hok b _ z
          obtain ⟨e2, _⟩ := hok' b _ (un.frzs b ob _ z)
          rw [e] at e1
          cases e1
          exact e2
      have grown : ∀ p ∈ cs, ∃ more : Array Value, s'.heap.get? p.2 = some { cls := .none, data := .fields more } := fun p hp => by
        obtain ⟨more, z⟩ := un.tbls p.2 #[] (hH p hp)
        exact ⟨_, hok' p.2 _ z⟩
      refine ⟨rfl, ⟨fun b o e => ?_, fun b o e => ?_⟩, os, bare⟩
      · by_cases hb : b ∈ cs.map (·.2)
        · obtain ⟨p, hp, ep⟩ := List.mem_map.mp hb
          obtain ⟨more, hm⟩ := grown p hp
          rw [← ep] at e ⊢
          rw [hT p hp] at e
          cases e
          exact .inr (.inl ⟨((C p hp).tab (hT p hp)).isCodeTable, rfl, #[], more, rfl, by rw [Array.empty_append]; exact hm⟩)
        · exact .inl (key b o hb e)
      · by_cases hb : b ∈ cs.map (·.2)
        · obtain ⟨p, hp, ep⟩ := List.mem_map.mp hb
          obtain ⟨more, hm⟩ := grown p hp
          rw [← ep]
          exact ⟨_, hm⟩
        · exact ⟨o, key b o hb e⟩
    | next => exact h.elim
    | brk => exact h.elim
    | cont => exact h.elim
theorem call_G (KX : K.In s₁.heap) (hns : s₁.heap.Ns mainGlobals mg) (hb : s₁.heap.Ns builtinsNs mb) (hbb : ∀ x : Str, x ≠ "__name__" → mb x = bootBuiltins x) (hlim : s₁.heap.NoLimit) (hg : s₁.gens = #[])
    (hT : ∀ p ∈ cs, s₁.heap.get? p.2 = some { cls := .none, data := .fields #[] }) (nT : ∀ p ∈ cs, K.lookup p.2 = none) (C : ∀ p ∈ cs, PySem.W.CodeHd s₁.heap p.1 p.2)
    (hbm : ∃ (bm : Addr) (ob : Obj), mg "__builtins__" = some (.ref bm) ∧ bm ≠ builtinsNs ∧ s₁.heap.get? bm = some ob ∧ ob.cls = .type "module" ∧ ob.dict = some builtinsNs ∧ ob.data = .plain)
    (ha : s₁.heap.get? a = some { cls := .type "list", data := .seq vs.toArray }) (hi : IntsAre vs ns) (hl : ns.length ≤ sizeLine) (hr : Room (3 * k) callerA) (F : ∀ base : Heap, K.In base → base.Ns mainGlobals mg → (∀ p ∈ cs, LamX.TabB base mg p.1 p.2) → FnG P w K mg base k fa fd [x] sp) (hbi : BindsTo s₁ fd ⟨[.ref a], []⟩ [(x, .ref a)])
    (hsp : ∀ H : Hp, (∀ p ∈ cs, H p.2 = some (.tbl #[])) → SqL K H a (ns.map V.int) → sp [.ref a] H (fun v _ => v = .bl true) fun _ _ _ => False) :
    codeAny (model P w) callerA (.call (.ref fa) ⟨[.ref a], []⟩) (fun r s' => r = .ok (.ret (.bool true)) ∧ OldK s₁.heap s'.heap ∧ s'.os = s₁.os ∧ AllBare s'.gens) s₁ := by
  have rv := vals_ints hi
  have isT : ∀ b : Addr, b ∈ cs.map (·.2) → s₁.heap.get? b = some { cls := .none, data := .fields #[] } := fun b hb => by
    obtain ⟨p, hp, e⟩ := List.mem_map.mp hb
    rw [← e]
    exact hT p hp
  have aT : a ∉ cs.map (·.2) := fun z => by
    have q := isT a z
    rw [ha] at q
    have z' : Data.seq vs.toArray _ = Data.fields #[] := congrArg Obj.data (Option.some.inj q)
    cases z'
  have memT : ∀ p ∈ cs, p.2 ∈ cs.map (·.2) := fun p hp => List.mem_map.mpr ⟨p, hp, rfl⟩
  let ob : Obj := { cls := .type "list", data := .seq vs.toArray }
  -- H, the script tracked or not
  have go : ∀ sc : Bool, (sc = true → K.lookup a = none) → (sc = false → SqL K (fun b => if b ∈ cs.map (·.2) then some (.tbl #[]) else none) a (ns.map V.int)) →
      codeAny (model P w) callerA (.call (.ref fa) ⟨[.ref a], []⟩) (fun r s' => r = .ok (.ret (.bool true)) ∧ OldK s₁.heap s'.heap ∧ s'.os = s₁.os ∧ AllBare s'.gens) s₁ := fun sc k1 k2 => by
    let H : Hp := fun b => if sc = true ∧ b = a then some (.frz ob (.lst (ns.map V.int))) else if b ∈ cs.map (·.2) then some (.tbl #[]) else none
    have h1 : sc = true → H a = some (.frz ob (.lst (ns.map V.int))) := fun e => if_pos ⟨e, rfl⟩
    have h2 : ∀ b, ¬ (sc = true ∧ b = a) → H b = if b ∈ cs.map (·.2) then some (.tbl #[]) else none := fun b e => if_neg e
    have h3 : ∀ p ∈ cs, H p.2 = some (.tbl #[]) := fun p hp => (h2 p.2 fun z => aT (by rw [← z.2]; exact memT p hp)).trans (if_pos (memT p hp))
    refine one_call (H := H) KX hns hb hbb hlim hg hT nT C hbm ha hr F hbi h3 (fun b => ?_) (fun b u z => ?_) (fun b z => ?_) (fun z => ?_) (hsp _ h3 ?_)
    · by_cases e : sc = true ∧ b = a
      · rw [e.2]
        exact .inr (.inr ⟨_, _, h1 e.1⟩)
      · by_cases hb : b ∈ cs.map (·.2)
        · exact .inr (.inl hb)
        · exact .inl ((h2 b e).trans (if_neg hb))
    · by_cases e : sc = true ∧ b = a
      · obtain ⟨e1, e2⟩ := e
        subst e2
        rw [h1 e1] at z
        cases z
        exact ⟨ha, by rw [List.length_map]; exact hl, vs, _, rv, ha⟩
      · rw [h2 b e] at z
        by_cases hb : b ∈ cs.map (·.2)
        · rw [if_pos hb] at z
          cases z
          exact isT b hb
        · rw [if_neg hb] at z
          cases z
    · by_cases e : sc = true ∧ b = a
      · exact .inl e.2
      · by_cases hb : b ∈ cs.map (·.2)
        · exact .inr hb
        · exact absurd ((h2 b e).trans (if_neg hb)) z
    · cases sc with
      | true => exact k1 rfl
      | false => exact absurd ((h2 a fun y => by cases y.1).trans (if_neg aT)) z
    · cases sc with
      | true => exact .inl (.inr ⟨ob, h1 rfl⟩)
      | false =>
        have e : H = fun b => if b ∈ cs.map (·.2) then some (.tbl #[]) else none := funext fun b => h2 b fun y => by cases y.1
        rw [e]
        exact k2 rfl
  cases hk : K.lookup a with
  | none => exact go true (fun _ => hk) fun z => by cases z
  | some o =>
    have e := KX a o hk
    rw [ha] at e
    cases e
    refine go false (fun z => by cases z) fun _ => .inr ⟨_, vs.toArray, _, hk, rfl, rfl, rfl, ?_, by simpa using rv⟩
    rw [List.size_toArray, hi.length]
    exact hl
end
/-- the law's walk, by the evaluator -/
theorem walk_G {l : PySem.W.OpenLaw} {n k : Nat} {q : Program} {loose : List Str} {XP : (Str → Option Value) → Heap → Prop} {YP : World → Heap → Prop} {d : DefRec} {gt : Gt} {Ds : List Df} {i : Nat} {dD : Df} {x : Str}
    (hn : l.most = some n) (hn2 : n ≤ sizeLine) (hdf : d.params.defaults = []) (hr : Room (3 * k) callerA) (hD : Ds[i]? = some dD) (hN : d.name = dD.nm) (hps : dD.ps = [x]) (hb : gt.bnd.lookup (i, 1, []) = some [.inl 0])
    (F : ∀ (w : World) (mg : Str → Option Value) (h : Heap), YP w h → h.Ns mainGlobals mg → ∃ (K : PySem.W.Frag) (T : Tb) (cs : List (Addr × Addr)), K.In h ∧ Top l.prog K mg T gt Ds ∧ T.r0 = [] ∧ (∀ a, T.g0 a = none) ∧
      (∀ p ∈ T.tabs, p.1 ∈ cs.map (·.2)) ∧ (∀ p ∈ cs, h.get? p.2 = some { cls := .none, data := .fields #[] }) ∧ (∀ p ∈ cs, K.lookup p.2 = none) ∧ (∀ p ∈ cs, PySem.W.CodeHd h p.1 p.2) ∧ ∀ base : Heap, (∀ p ∈ cs, LamX.TabB base mg p.1 p.2) → TabAll K mg T Ds base)
    (hrun : ∀ ns : List Int, ns.length ≤ n → (∀ z ∈ ns, Builtin.Int.intBits z ≤ 1048576) → ∃ s, run (Ds.map (Df.fd gt)) k i [.scr (ns.map T5.D.int)] noT [] = .ok (.bl true) s) :
    PySem.W.WalkO q loose XP YP l.row.toRowW d [] (fun f vs => PySem.call f vs) := by
  refine Att.attach_callB hn hdf fun w s₀ s₁ mg mb fa o pm cd doc a vs ns G Y ho hd hcd hmg hobj hints hlen hbits hg => ?_
  obtain ⟨K, T, cs, KX, t, hr0, hg0, htc, c1, c2, c3, c4⟩ := F w mg _ Y G.T.g
  obtain ⟨f, fd, F1, m1, b1⟩ := t.defs.at hD
  rw [Nat.zero_add] at b1
  rw [hN, m1] at hmg
  cases hmg
  obtain ⟨zs, z1, z2, z3⟩ := b1 1 [] _ hb s₁ [.ref a] [] KX rfl rfl
  obtain ⟨u, q, rfl, z4, z5⟩ := z2
  have z5 : q = [] := z5
  subst z5
  have z4 : some (Value.ref a) = some u := z4
  cases z4
  rw [hps] at z3
  obtain ⟨s, hs⟩ := hrun ns hlen hbits
  refine call_G KX G.T.g G.T.b G.T.builtins G.T.nolimit hg c1 c2 c3 G.T.bmain hobj hints (Nat.le_trans hlen hn2) hr (fun base _ _ TB => ?_) z3 (sp := SpD K T (Ds.map (Df.fd gt)) k i 1) fun H hH hS => ?_
  · have := all_G (P := l.prog) (w := w) (base := base) (T := T) t (c4 base TB) k i dD hD _ fd F1 m1
    rw [hps] at this
    exact this
  · obtain ⟨G0, q1, q2, q3⟩ : ∃ G0 : Hp, (∀ b o, G0 b = some o → H b = some o) ∧ (∀ b ps, G0 b ≠ some (.tbl ps)) ∧ SqL K G0 a (ns.map V.int) := by
      rcases hS with h | h
      · have e : (fun b => if b = a then H b else none : Hp) a = H a := if_pos rfl
        refine ⟨fun b => if b = a then H b else none, fun b o z => ?_, fun b ps z => ?_, .inl (by unfold Rd at h ⊢; rw [e]; exact h)⟩
        · have z : (if b = a then H b else none) = some o := z
          by_cases hb : b = a
          · rw [if_pos hb] at z; exact z
          · rw [if_neg hb] at z; cases z
        · have z : (if b = a then H b else none) = some (.tbl ps) := z
          by_cases hb : b = a
          · rw [if_pos hb, hb] at z
            unfold Rd at h
            rcases h with h | ⟨_, h⟩ <;> (rw [h] at z; cases z)
          · rw [if_neg hb] at z; cases z
      · exact ⟨fun _ => none, fun _ _ z => (by cases z), fun _ _ z => (by cases z), .inr h⟩
    refine ⟨rfl, [.scr (ns.map T5.D.int)], [], [], G0, ⟨q1, fun _ z => (by cases z), rfl, List.nodup_nil, fun n a so z _ => (by simp at z), by rw [hr0]; exact .refl, fun b o z => (by rw [hg0 b] at z; cases z), fun p hp => ?_, q2⟩, .cons ?_ .nil, ?_⟩
    · obtain ⟨p', hp', e⟩ := List.mem_map.mp (htc p hp)
      refine LamX.TabS.nil ?_
      rw [← e]
      exact hH p' hp'
    · unfold Rp
      refine ⟨a, _, rfl, q3, ?_⟩
      clear hS hs hints hlen hbits q3
      induction ns with
      | nil => exact .nil
      | cons z ns ih => exact .cons (by unfold Rp; rfl) ih
    · rw [hs]
      intro v r' G' H' _ _ hv
      unfold Rp at hv
      exact hv
end T5

set_option Elab.async false
set_option linter.all false
set_option maxRecDepth 100000
set_option maxHeartbeats 2000000
/-! T5: what the top left, from the head's facts. -/
namespace T5
open PySem PySem.Spec L2
/-! ### how calls bind -/
def conV : D → V
  | .non => .non
  | .bl b => .bl b
  | .int i => .int i
  | .str x => .str x
  | _ => .non
def conB : D → Bool
  | .non => true
  | .bl _ => true
  | .int _ => true
  | .str _ => true
  | _ => false
theorem rp_con {d : D} {K : PySem.W.Frag} {T : Tb} {r : List Addr} {G : Hp} (h : conB d = true) : Rp K T r G d (conV d) := by
  cases d <;> first | (cases h; done) | (unfold Rp; rfl)
section
variable {K : PySem.W.Frag} {x qual : Str} {params : Arguments} {body : List Stmt} {scope : Scope} {dvs : List V} {f : Addr} {fd : FuncData} {ps : List Str} {n : Nat} {ks : List Str} {src : List (Nat ⊕ D)}
theorem bnd_no (F : FunD K x qual params body scope [] [] f fd)
    (h : ∀ (kV doc pm : Value) (an : Option Addr) (cdv ct : Value) (us ws : List Value), us.length = n → ws.length = ks.length → ∃ zs : List Value, zs.length = ps.length ∧ SrcV (us ++ ws) src zs ∧ bindArgs (PySem.W.fnOf x qual params body scope .none kV doc pm an cdv ct) ⟨us, ks.zip ws⟩ = pure (ps.zip zs)) :
    Bnd K fd ps n ks src := by
  obtain ⟨oc, od, dV, kV, doc, pm, an, cdv, ct, osl, rfl, lk, hcd, hD, hK⟩ := F.ex
  rcases hD with ⟨_, rfl⟩ | ⟨e, _⟩
  · intro s us ws hin l1 l2
    obtain ⟨zs, z1, z2, z3⟩ := h kV doc pm an cdv ct us ws l1 l2
    exact ⟨zs, z1, z2, .of_eq z3⟩
  · exact absurd rfl e
theorem bnd_df (F : FunD K x qual params body scope dvs [] f fd) (hd : dvs ≠ [])
    (h : ∀ (T : Addr) (kV doc pm : Value) (an : Option Addr) (cdv ct : Value) (us ws its : List Value), us.length = n → ws.length = ks.length → Vals dvs its →
      ∃ (zs : List Value) (k : Option (Array Value) → Sem (List (Str × Value))), zs.length = ps.length ∧ SrcV (us ++ ws) src zs ∧ bindArgs (PySem.W.fnOf x qual params body scope (.ref T) kV doc pm an cdv ct) ⟨us, ks.zip ws⟩ = seqItems? (.ref T) >>= k ∧ k (some its.toArray) = pure (ps.zip zs)) :
    Bnd K fd ps n ks src := by
  obtain ⟨oc, od, dV, kV, doc, pm, an, cdv, ct, osl, rfl, lk, hcd, hD, hK⟩ := F.ex
  rcases hD with ⟨e, _⟩ | ⟨_, T, o, its, m, rfl, lT, oT, rT⟩
  · exact absurd e hd
  · intro s us ws hin l1 l2
    obtain ⟨zs, k, z1, z2, z3, z4⟩ := h T kV doc pm an cdv ct us ws its l1 l2 rT
    refine ⟨zs, z1, z2, BindsTo.of_looks fun M => ?_⟩
    rw [z3]
    exact looks_items hin lT oT (.of_pure z4)
/-- the forms of one def -/
def pick (i : Nat) (l : List ((Nat × Nat × List Str) × List (Nat ⊕ D))) : List ((Nat × List Str) × List (Nat ⊕ D)) := l.filterMap fun e => if Nat.beq e.1.1 i then some ((e.1.2.1, e.1.2.2), e.2) else none
def AllB (K : PySem.W.Frag) (fd : FuncData) (ps : List Str) : List ((Nat × List Str) × List (Nat ⊕ D)) → Prop
  | [] => True
  | e :: r => Bnd K fd ps e.1.1 e.1.2 e.2 ∧ AllB K fd ps r
theorem AllB.mem : ∀ {l : List ((Nat × List Str) × List (Nat ⊕ D))}, AllB K fd ps l → ∀ e ∈ l, Bnd K fd ps e.1.1 e.1.2 e.2
  | [], _, _, h => by cases h
  | a :: r, h, e, hm => by
    rcases List.mem_cons.mp hm with rfl | hm
    · exact h.1
    · exact AllB.mem h.2 e hm
theorem lookup_mem {α β : Type} [BEq α] [LawfulBEq α] {k : α} {v : β} : ∀ {l : List (α × β)}, l.lookup k = some v → (k, v) ∈ l
  | [], h => by cases h
  | p :: r, h => by
    rw [List.lookup_cons] at h
    split at h
    · rename_i e
      cases h
      rw [eq_of_beq e]
      exact List.mem_cons_self ..
    · exact List.mem_cons_of_mem _ (lookup_mem h)
theorem bnd_all {i : Nat} {bnds : List ((Nat × Nat × List Str) × List (Nat ⊕ D))} (h : AllB K fd ps (pick i bnds)) (n : Nat) (ks : List Str) (src : List (Nat ⊕ D)) (hl : bnds.lookup (i, n, ks) = some src) : Bnd K fd ps n ks src := by
  refine h.mem ((n, ks), src) ?_
  unfold pick
  rw [List.mem_filterMap]
  exact ⟨_, lookup_mem hl, by rw [if_pos (Nat.beq_refl i)]⟩
end
/-! ### the head's facts -/
def fas (ds : List Df) (blts : List Str) : List He.Fa := ds.map (fun d => He.Fa.glo d.nm) ++ blts.map He.Fa.free
/-- a def's calls, whatever its place -/
def BOk (gt : Gt) (i : Nat) (d : Df) : Prop := ∀ (K : PySem.W.Frag) (f : Addr) (fd : FuncData), FunD K d.nm d.nm (defArgs d.st) (defBody d.st) (defScope d.st) (d.dd.dvs K) [] f fd → AllB K fd d.ps (pick i gt.bnd)
theorem AllD.mk {P : Nat → Df → Prop} : ∀ {l : List Df} {j : Nat}, (∀ i d, l[i]? = some d → P (j + i) d) → AllD P j l
  | [], _, _ => trivial
  | d :: r, j, h => ⟨h 0 d rfl, AllD.mk fun i d' e => by
      have := h (i + 1) d' (by simpa using e)
      rw [show j + (i + 1) = j + 1 + i by omega] at this
      exact this⟩
/-- the defs with lambdas -/
def tfOf (ds : List Df) : List He.Defn := (ds.filter (·.lm)).map fun d => (d.nm, none)
def disB (K : PySem.W.Frag) (tf : List He.Defn) : Bool := tf.all fun p => tf.all fun q => !(decide ((He.cT K p).2 = (He.cT K q).2)) || decide (p.1 = q.1)
def exA (file : Str) (es : List Err) (isa : List (Str × List Nat)) (ds : List Df) (K : PySem.W.Frag) : Bool := exB file es isa K && disB K (tfOf ds)
theorem top_F {prog : Program} {K : PySem.W.Frag} {mg : Str → Option Value} {h : Heap} {ds : List Df} {es : List Err} {gt : Gt} (X : K.In h) (G : h.Ns mainGlobals mg)
    (c : SaysE (fas ds gt.blt) (ds.map Df.dd) es (tfOf ds) (exA prog.main.file es gt.isa ds) h K) (hb : AllD (BOk gt) 0 ds) (hs : (ds.all fun d => scB d.N d.ps (defScope d.st)) = true)
    (hfn : gt.fns = namesOf 0 ds) (h0 : es = [] → gt.isa = [] ∧ gt.fld = []) (ho : (es.all Err.okB) = true) (hE : AllE Err.Bnds es) (hsup : (prog.main.scope.names.lookup ("super" : Str)).isSome = false) (he : gt.errs = errsOf 0 es) (hf : (gt.fld.all (fldB es)) = true) (hl : lamsB gt ds = true) :
    ∃ (K : PySem.W.Frag) (T : Tb) (cs : List (Addr × Addr)), K.In h ∧ Top prog K mg T gt ds ∧ T.r0 = [] ∧ (∀ a, T.g0 a = none) ∧
      (∀ p ∈ T.tabs, p.1 ∈ cs.map (·.2)) ∧ (∀ p ∈ cs, h.get? p.2 = some { cls := .none, data := .fields #[] }) ∧ (∀ p ∈ cs, K.lookup p.2 = none) ∧ (∀ p ∈ cs, PySem.W.CodeHd h p.1 p.2) ∧ ∀ base : Heap, (∀ p ∈ cs, LamX.TabB base mg p.1 p.2) → TabAll K mg T ds base := by
  obtain ⟨x1, x2⟩ := Bool.and_eq_true_iff.mp (show (exB prog.main.file es gt.isa K && disB K (tfOf ds)) = true from c.more)
  have key : ∀ (i : Nat) (d : Df), ds[i]? = some d → (∃ fd, FunD K d.nm d.nm (defArgs d.st) (defBody d.st) (defScope d.st) (d.dd.dvs K) [] (He.fAd K (d.nm, none)) fd) ∧ mg d.nm = some (.ref (He.fAd K (d.nm, none))) := fun i d e => by
    obtain ⟨fd, F⟩ := c.d.def_ i (d := d.dd) (by rw [List.getElem?_map, e]; rfl)
    refine ⟨⟨fd, F⟩, He.glo_ok X G (c.d.fact i (f := .glo d.nm) ?_)⟩
    unfold fas
    have : i < (ds.map (fun d => He.Fa.glo d.nm)).length := by
      rw [List.length_map]
      exact (List.getElem?_eq_some_iff.mp e).1
    rw [List.getElem?_append_left this, List.getElem?_map, e]
    rfl
  refine ⟨K, tbOf K es ((tfOf ds).map fun p => ((He.cT K p).2, lamQ p.1)), (tfOf ds).map (He.cT K), X, ?_, rfl, fun _ => rfl, fun p hp => ?_, fun p hp => ?_, fun p hp => ?_, fun p hp => ?_, fun base TB d hd hlm f fd F hm => ?_⟩
  · refine ⟨AllD.mk fun i d e => ?_, hs, hfn, fun x hx => ?_, errAll_of X G x1 h0 ho hE c.ini hsup he hf, lams_ok hl, fun _ => rfl, rfl⟩
    · obtain ⟨⟨fd, F⟩, m⟩ := key i d e
      exact ⟨_, fd, F, m, fun n ks src hl => bnd_all (hb.at e K _ fd F) n ks src hl⟩
    · have hm : x ∈ gt.blt := by simpa using hx
      obtain ⟨i, hi⟩ := List.getElem?_of_mem hm
      refine He.free_ok X G (c.d.fact ((ds.map (fun d => He.Fa.glo d.nm)).length + i) (f := .free x) ?_)
      unfold fas
      rw [List.getElem?_append_right (by omega), Nat.add_sub_cancel_left, List.getElem?_map, hi]
      rfl
  · obtain ⟨q, hq, rfl⟩ := List.mem_map.mp hp
    exact List.mem_map.mpr ⟨He.cT K q, List.mem_map.mpr ⟨q, hq, rfl⟩, rfl⟩
  · obtain ⟨q, hq, rfl⟩ := List.mem_map.mp hp
    exact c.empty q hq
  · obtain ⟨q, hq, rfl⟩ := List.mem_map.mp hp
    exact c.out q hq
  · obtain ⟨q, hq, rfl⟩ := List.mem_map.mp hp
    exact PySem.W.codeHd_of_K X (c.hd q hq)
  · obtain ⟨i, hi⟩ := List.getElem?_of_mem hd
    obtain ⟨_, m⟩ := key i d hi
    rw [m] at hm
    cases hm
    have ht : (d.nm, none) ∈ tfOf ds := List.mem_map.mpr ⟨d, List.mem_filter.mpr ⟨hd, hlm⟩, rfl⟩
    obtain ⟨oc, od, dV, kV, doc, pm, an, cdv, ct, osl, rfl, lk, hcd, _, _⟩ := F.ex
    obtain ⟨cc, rfl⟩ := He.codeIn_ref hcd
    have e := He.codeOf_eq (p := (d.nm, none)) lk rfl
    have tb := TB _ (List.mem_map.mpr ⟨_, ht, rfl⟩)
    refine ⟨cc, (He.cT K (d.nm, none)).2, rfl, ?_, List.mem_map.mpr ⟨_, ht, rfl⟩, fun p hp z => ?_⟩
    · have e1 : (He.cT K (d.nm, none)).1 = cc := e
      rw [← e1]
      exact tb
    · obtain ⟨q, hq, rfl⟩ := List.mem_map.mp hp
      have w := List.all_eq_true.mp (List.all_eq_true.mp x2 _ hq) _ ht
      have z : (He.cT K q).2 = (He.cT K (d.nm, none)).2 := z
      simp only [z, decide_true, Bool.not_true, Bool.false_or, decide_eq_true_eq] at w
      show lamQ q.1 = lamQ d.nm
      rw [w]
end T5

set_option Elab.async false
set_option linter.all false
set_option maxRecDepth 100000
set_option maxHeartbeats 0
/-! T5: K14, printed by gen.py. -/
namespace K14
open PySem PySem.Spec PyProof.Rows L2 T5
def top (i : Nat) : Stmt := PySem.Challenge.pw_throwshelves_k14_whole_tables_judged.main.body.getD i (.Pass ⟨0, 0, 0, 0⟩)
def ds0 : List (Df) := [⟨"is_integer", top 10, ["thing"], 1, false, [], false, false, true⟩,
  ⟨"rank_in", top 12, ["throws", "start", "length", "size", "k"], 3, false, [], false, false, true⟩,
  ⟨"table_in", top 13, ["throws", "size", "start", "length"], 1, false, [], false, false, true⟩,
  ⟨"is_table_form", top 14, ["thing", "one", "rank"], 1, false, [], false, false, true⟩,
  ⟨"end_fault", top 15, ["ranks", "start", "one"], 1, false, [], false, false, true⟩,
  ⟨"stretch_fault", top 16, ["ranks", "start", "length", "one", "late"], 3, false, [], false, false, true⟩,
  ⟨"table_fault", top 17, ["thing", "fault", "start", "length"], 1, false, [], false, false, true⟩,
  ⟨"fault_stretch", top 18, ["ranks", "fault"], 2, false, [], false, false, true⟩,
  ⟨"throws_by", top 19, ["ranks", "size", "found", "start", "one", "late", "some", "many"], 1, false, [], false, false, true⟩,
  ⟨"lets_table", top 21, ["thing", "fault"], 1, false, [], false, false, true⟩,
  ⟨"want", top 23, ["holds", "word", "at"], 3, false, [.int (-1)], false, false, true⟩,
  ⟨"table_by", top 25, ["pattern"], 1, false, [], false, false, true⟩,
  ⟨"is_rank_table", top 26, ["thing"], 1, false, [], false, false, true⟩,
  ⟨"pattern_by", top 27, ["table", "fault"], 1, false, [], false, false, true⟩,
  ⟨"_law_feed", top 29, ["_law_script"], 1, true, [], false, false, false⟩,
  ⟨"_law_draw", top 30, ["_law_feed_here", "_law_limit", "_law_at", "_law_cell", "_law_mash", "_law_figure"], 2, false, [], false, false, false⟩,
  ⟨"_law_pick", top 31, ["_law_feed_here", "_law_things"], 2, false, [], false, false, false⟩,
  ⟨"_law_shuffled", top 32, ["_law_feed_here", "_law_limit", "_law_lap", "_law_left_in", "_law_gone", "_law_spot"], 2, true, [], false, false, false⟩,
  ⟨"_law_throws", top 33, ["_law_feed_here", "_law_limit", "_law_size", "_law_some", "_law_goals", "_law_way", "_law_step", "_law_spot", "_law_far"], 2, false, [], false, false, false⟩,
  ⟨"_law_is_within", top 34, ["_law_throws_here", "_law_begin", "_law_length", "_law_k"], 4, false, [], false, false, true⟩,
  ⟨"_law_rank_of", top 35, ["_law_throws_here", "_law_begin", "_law_length", "_law_k"], 3, false, [], false, false, true⟩,
  ⟨"_law_table", top 36, ["_law_throws_here", "_law_size", "_law_begin", "_law_length"], 1, false, [], false, false, true⟩,
  ⟨"_law_heard", top 37, ["_law_deed", "e", "_law_families"], 1, false, [], true, false, false⟩,
  ⟨"_law_fault", top 38, ["_law_held", "_law_size", "_law_begin", "_law_length", "_law_row", "_law_late", "_law_both"], 1, false, [], false, false, true⟩,
  ⟨"_law_is_told", top 39, ["_law_held", "_law_fault_here", "_law_told", "_law_throws_here"], 1, false, [], false, true, true⟩,
  ⟨"_law_changed", top 40, ["_law_feed_here", "_law_held", "_law_rows_in", "_law_lap", "_law_size", "_law_way", "_law_step", "_law_k", "_law_row", "_law_begin", "_law_length"], 2, false, [], false, false, false⟩,
  ⟨"_law_any", top 41, ["_law_feed_here", "_law_begin", "_law_size", "_law_balls", "_law_rows_in", "_law_row", "_law_length"], 1, false, [], false, false, false⟩,
  ⟨"law", top 42, ["_law_script", "_law_feed_here", "_law_lap", "_law_held", "_law_turn"], 1, false, [], false, false, false⟩]
def ds : List (Df) := ds0
def bnds0 : List ((Nat × Nat × List Str) × List (Nat ⊕ D)) := [((0, 1, []), [.inl 0]),
  ((1, 3, []), [.inl 0, .inl 1, .inl 2]),
  ((2, 1, []), [.inl 0]),
  ((3, 1, []), [.inl 0]),
  ((4, 1, []), [.inl 0]),
  ((5, 3, []), [.inl 0, .inl 1, .inl 2]),
  ((6, 1, []), [.inl 0]),
  ((7, 2, []), [.inl 0, .inl 1]),
  ((8, 1, []), [.inl 0]),
  ((9, 1, []), [.inl 0]),
  ((10, 2, []), [.inl 0, .inl 1, .inr (.int (-1))]),
  ((11, 1, []), [.inl 0]),
  ((12, 1, []), [.inl 0]),
  ((13, 1, []), [.inl 0]),
  ((14, 1, []), [.inl 0]),
  ((15, 2, []), [.inl 0, .inl 1]),
  ((16, 2, []), [.inl 0, .inl 1]),
  ((17, 2, []), [.inl 0, .inl 1]),
  ((18, 2, []), [.inl 0, .inl 1]),
  ((19, 4, []), [.inl 0, .inl 1, .inl 2, .inl 3]),
  ((20, 3, []), [.inl 0, .inl 1, .inl 2]),
  ((21, 1, []), [.inl 0]),
  ((22, 1, []), [.inl 0]),
  ((23, 1, []), [.inl 0]),
  ((24, 1, []), [.inl 0]),
  ((25, 2, []), [.inl 0, .inl 1]),
  ((26, 1, []), [.inl 0]),
  ((27, 1, []), [.inl 0])]
def bnds : List ((Nat × Nat × List Str) × List (Nat ⊕ D)) := bnds0
def boxes0 : List (Nat × Nat) := [(78, 31),
  (126, 56),
  (184, 16),
  (200, 20),
  (210, 107),
  (212, 19)]
def boxes : List (Nat × Nat) := boxes0
def blts : List Str := ["len", "list", "isinstance", "sum", "int", "tuple", "sorted", "repr", "set", "range", "bool", "str", "enumerate", "zip", "all", "any", "max", "min", "abs", "dict"]
def mth : Stmt → Stmt
  | .ClassDef _ _ _ body _ _ _ _ _ _ _ => body.getD 0 (.Pass ⟨0, 0, 0, 0⟩)
  | s => s
def es : List Err := [⟨"InvalidPaper", defArgs (mth (top 6)), defBody (mth (top 6)), defScope (mth (top 6)), ["word", "at"]⟩, ⟨"NotUsable", defArgs (mth (top 7)), defBody (mth (top 7)), defScope (mth (top 7)), ["word", "at"]⟩, ⟨"Unheld", defArgs (mth (top 8)), defBody (mth (top 8)), defScope (mth (top 8)), ["stretch"]⟩]
def isa : List (Str × List Nat) := [("InvalidPaper", [0]), ("LiveError", []), ("NotUsable", [1]), ("PaperError", [0]), ("RingError", [0, 1, 2]), ("ShelfError", [1, 2]), ("TextError", []), ("Unheld", [2]), ("ValueError", [0, 1, 2])]
def fld : List (Str × List (Nat × Nat)) := [("at", [(0, 1), (1, 1)]), ("stretch", [(2, 0)]), ("word", [(0, 0), (1, 0)])]
def lams : List (Str × Nat) := [("_law_heard", 22)]
def gt : Gt := ⟨namesOf 0 ds, bnds, boxes, blts, lams, errsOf 0 es, isa, fld⟩
section
variable {K : PySem.W.Frag} {fd : FuncData} {f : Addr}
theorem b0_0 (F : FunD K "is_integer" "is_integer" (defArgs (top 10)) (defBody (top 10)) (defScope (top 10)) [] [] f fd) : Bnd K fd ["thing"] 1 [] [.inl 0] :=
  bnd_no F fun kV doc pm an cdv ct us ws hl hk => match us, ws, hl, hk with | [u0], [], _, _ => ⟨[u0], rfl, ⟨u0, _, rfl, rfl, rfl⟩, rfl⟩
theorem b1_0 (F : FunD K "rank_in" "rank_in" (defArgs (top 12)) (defBody (top 12)) (defScope (top 12)) [] [] f fd) : Bnd K fd ["throws", "start", "length"] 3 [] [.inl 0, .inl 1, .inl 2] :=
  bnd_no F fun kV doc pm an cdv ct us ws hl hk => match us, ws, hl, hk with | [u0, u1, u2], [], _, _ => ⟨[u0, u1, u2], rfl, ⟨u0, _, rfl, rfl, u1, _, rfl, rfl, u2, _, rfl, rfl, rfl⟩, rfl⟩
theorem b2_0 (F : FunD K "table_in" "table_in" (defArgs (top 13)) (defBody (top 13)) (defScope (top 13)) [] [] f fd) : Bnd K fd ["throws"] 1 [] [.inl 0] :=
  bnd_no F fun kV doc pm an cdv ct us ws hl hk => match us, ws, hl, hk with | [u0], [], _, _ => ⟨[u0], rfl, ⟨u0, _, rfl, rfl, rfl⟩, rfl⟩
theorem b3_0 (F : FunD K "is_table_form" "is_table_form" (defArgs (top 14)) (defBody (top 14)) (defScope (top 14)) [] [] f fd) : Bnd K fd ["thing"] 1 [] [.inl 0] :=
  bnd_no F fun kV doc pm an cdv ct us ws hl hk => match us, ws, hl, hk with | [u0], [], _, _ => ⟨[u0], rfl, ⟨u0, _, rfl, rfl, rfl⟩, rfl⟩
theorem b4_0 (F : FunD K "end_fault" "end_fault" (defArgs (top 15)) (defBody (top 15)) (defScope (top 15)) [] [] f fd) : Bnd K fd ["ranks"] 1 [] [.inl 0] :=
  bnd_no F fun kV doc pm an cdv ct us ws hl hk => match us, ws, hl, hk with | [u0], [], _, _ => ⟨[u0], rfl, ⟨u0, _, rfl, rfl, rfl⟩, rfl⟩
theorem b5_0 (F : FunD K "stretch_fault" "stretch_fault" (defArgs (top 16)) (defBody (top 16)) (defScope (top 16)) [] [] f fd) : Bnd K fd ["ranks", "start", "length"] 3 [] [.inl 0, .inl 1, .inl 2] :=
  bnd_no F fun kV doc pm an cdv ct us ws hl hk => match us, ws, hl, hk with | [u0, u1, u2], [], _, _ => ⟨[u0, u1, u2], rfl, ⟨u0, _, rfl, rfl, u1, _, rfl, rfl, u2, _, rfl, rfl, rfl⟩, rfl⟩
theorem b6_0 (F : FunD K "table_fault" "table_fault" (defArgs (top 17)) (defBody (top 17)) (defScope (top 17)) [] [] f fd) : Bnd K fd ["thing"] 1 [] [.inl 0] :=
  bnd_no F fun kV doc pm an cdv ct us ws hl hk => match us, ws, hl, hk with | [u0], [], _, _ => ⟨[u0], rfl, ⟨u0, _, rfl, rfl, rfl⟩, rfl⟩
theorem b7_0 (F : FunD K "fault_stretch" "fault_stretch" (defArgs (top 18)) (defBody (top 18)) (defScope (top 18)) [] [] f fd) : Bnd K fd ["ranks", "fault"] 2 [] [.inl 0, .inl 1] :=
  bnd_no F fun kV doc pm an cdv ct us ws hl hk => match us, ws, hl, hk with | [u0, u1], [], _, _ => ⟨[u0, u1], rfl, ⟨u0, _, rfl, rfl, u1, _, rfl, rfl, rfl⟩, rfl⟩
theorem b8_0 (F : FunD K "throws_by" "throws_by" (defArgs (top 19)) (defBody (top 19)) (defScope (top 19)) [] [] f fd) : Bnd K fd ["ranks"] 1 [] [.inl 0] :=
  bnd_no F fun kV doc pm an cdv ct us ws hl hk => match us, ws, hl, hk with | [u0], [], _, _ => ⟨[u0], rfl, ⟨u0, _, rfl, rfl, rfl⟩, rfl⟩
theorem b9_0 (F : FunD K "lets_table" "lets_table" (defArgs (top 21)) (defBody (top 21)) (defScope (top 21)) [] [] f fd) : Bnd K fd ["thing"] 1 [] [.inl 0] :=
  bnd_no F fun kV doc pm an cdv ct us ws hl hk => match us, ws, hl, hk with | [u0], [], _, _ => ⟨[u0], rfl, ⟨u0, _, rfl, rfl, rfl⟩, rfl⟩
theorem b10_0 (F : FunD K "want" "want" (defArgs (top 23)) (defBody (top 23)) (defScope (top 23)) [V.int (-1)] [] f fd) : Bnd K fd ["holds", "word", "at"] 2 [] [.inl 0, .inl 1, .inr (.int (-1))] :=
  bnd_df F (by simp) fun T kV doc pm an cdv ct us ws its hl hk hv => match us, ws, its, hl, hk, hv with | [u0, u1], [], [t0], _, _, .cons r0 (.nil) => ⟨[u0, u1, t0], _, rfl, ⟨u0, _, rfl, rfl, u1, _, rfl, rfl, t0, _, rfl, ⟨_, fun _ _ _ _ => rp_con rfl, r0⟩, rfl⟩, rfl, rfl⟩
theorem b11_0 (F : FunD K "table_by" "table_by" (defArgs (top 25)) (defBody (top 25)) (defScope (top 25)) [] [] f fd) : Bnd K fd ["pattern"] 1 [] [.inl 0] :=
  bnd_no F fun kV doc pm an cdv ct us ws hl hk => match us, ws, hl, hk with | [u0], [], _, _ => ⟨[u0], rfl, ⟨u0, _, rfl, rfl, rfl⟩, rfl⟩
theorem b12_0 (F : FunD K "is_rank_table" "is_rank_table" (defArgs (top 26)) (defBody (top 26)) (defScope (top 26)) [] [] f fd) : Bnd K fd ["thing"] 1 [] [.inl 0] :=
  bnd_no F fun kV doc pm an cdv ct us ws hl hk => match us, ws, hl, hk with | [u0], [], _, _ => ⟨[u0], rfl, ⟨u0, _, rfl, rfl, rfl⟩, rfl⟩
theorem b13_0 (F : FunD K "pattern_by" "pattern_by" (defArgs (top 27)) (defBody (top 27)) (defScope (top 27)) [] [] f fd) : Bnd K fd ["table"] 1 [] [.inl 0] :=
  bnd_no F fun kV doc pm an cdv ct us ws hl hk => match us, ws, hl, hk with | [u0], [], _, _ => ⟨[u0], rfl, ⟨u0, _, rfl, rfl, rfl⟩, rfl⟩
theorem b14_0 (F : FunD K "_law_feed" "_law_feed" (defArgs (top 29)) (defBody (top 29)) (defScope (top 29)) [] [] f fd) : Bnd K fd ["_law_script"] 1 [] [.inl 0] :=
  bnd_no F fun kV doc pm an cdv ct us ws hl hk => match us, ws, hl, hk with | [u0], [], _, _ => ⟨[u0], rfl, ⟨u0, _, rfl, rfl, rfl⟩, rfl⟩
theorem b15_0 (F : FunD K "_law_draw" "_law_draw" (defArgs (top 30)) (defBody (top 30)) (defScope (top 30)) [] [] f fd) : Bnd K fd ["_law_feed_here", "_law_limit"] 2 [] [.inl 0, .inl 1] :=
  bnd_no F fun kV doc pm an cdv ct us ws hl hk => match us, ws, hl, hk with | [u0, u1], [], _, _ => ⟨[u0, u1], rfl, ⟨u0, _, rfl, rfl, u1, _, rfl, rfl, rfl⟩, rfl⟩
theorem b16_0 (F : FunD K "_law_pick" "_law_pick" (defArgs (top 31)) (defBody (top 31)) (defScope (top 31)) [] [] f fd) : Bnd K fd ["_law_feed_here", "_law_things"] 2 [] [.inl 0, .inl 1] :=
  bnd_no F fun kV doc pm an cdv ct us ws hl hk => match us, ws, hl, hk with | [u0, u1], [], _, _ => ⟨[u0, u1], rfl, ⟨u0, _, rfl, rfl, u1, _, rfl, rfl, rfl⟩, rfl⟩
theorem b17_0 (F : FunD K "_law_shuffled" "_law_shuffled" (defArgs (top 32)) (defBody (top 32)) (defScope (top 32)) [] [] f fd) : Bnd K fd ["_law_feed_here", "_law_limit"] 2 [] [.inl 0, .inl 1] :=
  bnd_no F fun kV doc pm an cdv ct us ws hl hk => match us, ws, hl, hk with | [u0, u1], [], _, _ => ⟨[u0, u1], rfl, ⟨u0, _, rfl, rfl, u1, _, rfl, rfl, rfl⟩, rfl⟩
theorem b18_0 (F : FunD K "_law_throws" "_law_throws" (defArgs (top 33)) (defBody (top 33)) (defScope (top 33)) [] [] f fd) : Bnd K fd ["_law_feed_here", "_law_limit"] 2 [] [.inl 0, .inl 1] :=
  bnd_no F fun kV doc pm an cdv ct us ws hl hk => match us, ws, hl, hk with | [u0, u1], [], _, _ => ⟨[u0, u1], rfl, ⟨u0, _, rfl, rfl, u1, _, rfl, rfl, rfl⟩, rfl⟩
theorem b19_0 (F : FunD K "_law_is_within" "_law_is_within" (defArgs (top 34)) (defBody (top 34)) (defScope (top 34)) [] [] f fd) : Bnd K fd ["_law_throws_here", "_law_begin", "_law_length", "_law_k"] 4 [] [.inl 0, .inl 1, .inl 2, .inl 3] :=
  bnd_no F fun kV doc pm an cdv ct us ws hl hk => match us, ws, hl, hk with | [u0, u1, u2, u3], [], _, _ => ⟨[u0, u1, u2, u3], rfl, ⟨u0, _, rfl, rfl, u1, _, rfl, rfl, u2, _, rfl, rfl, u3, _, rfl, rfl, rfl⟩, rfl⟩
theorem b20_0 (F : FunD K "_law_rank_of" "_law_rank_of" (defArgs (top 35)) (defBody (top 35)) (defScope (top 35)) [] [] f fd) : Bnd K fd ["_law_throws_here", "_law_begin", "_law_length"] 3 [] [.inl 0, .inl 1, .inl 2] :=
  bnd_no F fun kV doc pm an cdv ct us ws hl hk => match us, ws, hl, hk with | [u0, u1, u2], [], _, _ => ⟨[u0, u1, u2], rfl, ⟨u0, _, rfl, rfl, u1, _, rfl, rfl, u2, _, rfl, rfl, rfl⟩, rfl⟩
theorem b21_0 (F : FunD K "_law_table" "_law_table" (defArgs (top 36)) (defBody (top 36)) (defScope (top 36)) [] [] f fd) : Bnd K fd ["_law_throws_here"] 1 [] [.inl 0] :=
  bnd_no F fun kV doc pm an cdv ct us ws hl hk => match us, ws, hl, hk with | [u0], [], _, _ => ⟨[u0], rfl, ⟨u0, _, rfl, rfl, rfl⟩, rfl⟩
theorem b22_0 (F : FunD K "_law_heard" "_law_heard" (defArgs (top 37)) (defBody (top 37)) (defScope (top 37)) [] [] f fd) : Bnd K fd ["_law_deed"] 1 [] [.inl 0] :=
  bnd_no F fun kV doc pm an cdv ct us ws hl hk => match us, ws, hl, hk with | [u0], [], _, _ => ⟨[u0], rfl, ⟨u0, _, rfl, rfl, rfl⟩, rfl⟩
theorem b23_0 (F : FunD K "_law_fault" "_law_fault" (defArgs (top 38)) (defBody (top 38)) (defScope (top 38)) [] [] f fd) : Bnd K fd ["_law_held"] 1 [] [.inl 0] :=
  bnd_no F fun kV doc pm an cdv ct us ws hl hk => match us, ws, hl, hk with | [u0], [], _, _ => ⟨[u0], rfl, ⟨u0, _, rfl, rfl, rfl⟩, rfl⟩
theorem b24_0 (F : FunD K "_law_is_told" "_law_is_told" (defArgs (top 39)) (defBody (top 39)) (defScope (top 39)) [] [] f fd) : Bnd K fd ["_law_held"] 1 [] [.inl 0] :=
  bnd_no F fun kV doc pm an cdv ct us ws hl hk => match us, ws, hl, hk with | [u0], [], _, _ => ⟨[u0], rfl, ⟨u0, _, rfl, rfl, rfl⟩, rfl⟩
theorem b25_0 (F : FunD K "_law_changed" "_law_changed" (defArgs (top 40)) (defBody (top 40)) (defScope (top 40)) [] [] f fd) : Bnd K fd ["_law_feed_here", "_law_held"] 2 [] [.inl 0, .inl 1] :=
  bnd_no F fun kV doc pm an cdv ct us ws hl hk => match us, ws, hl, hk with | [u0, u1], [], _, _ => ⟨[u0, u1], rfl, ⟨u0, _, rfl, rfl, u1, _, rfl, rfl, rfl⟩, rfl⟩
theorem b26_0 (F : FunD K "_law_any" "_law_any" (defArgs (top 41)) (defBody (top 41)) (defScope (top 41)) [] [] f fd) : Bnd K fd ["_law_feed_here"] 1 [] [.inl 0] :=
  bnd_no F fun kV doc pm an cdv ct us ws hl hk => match us, ws, hl, hk with | [u0], [], _, _ => ⟨[u0], rfl, ⟨u0, _, rfl, rfl, rfl⟩, rfl⟩
theorem b27_0 (F : FunD K "law" "law" (defArgs (top 42)) (defBody (top 42)) (defScope (top 42)) [] [] f fd) : Bnd K fd ["_law_script"] 1 [] [.inl 0] :=
  bnd_no F fun kV doc pm an cdv ct us ws hl hk => match us, ws, hl, hk with | [u0], [], _, _ => ⟨[u0], rfl, ⟨u0, _, rfl, rfl, rfl⟩, rfl⟩
end
theorem bok : AllD (BOk gt) 0 ds := ⟨(fun K f fd F => ⟨b0_0 F, trivial⟩), (fun K f fd F => ⟨b1_0 F, trivial⟩), (fun K f fd F => ⟨b2_0 F, trivial⟩), (fun K f fd F => ⟨b3_0 F, trivial⟩), (fun K f fd F => ⟨b4_0 F, trivial⟩), (fun K f fd F => ⟨b5_0 F, trivial⟩), (fun K f fd F => ⟨b6_0 F, trivial⟩), (fun K f fd F => ⟨b7_0 F, trivial⟩), (fun K f fd F => ⟨b8_0 F, trivial⟩), (fun K f fd F => ⟨b9_0 F, trivial⟩), (fun K f fd F => ⟨b10_0 F, trivial⟩), (fun K f fd F => ⟨b11_0 F, trivial⟩), (fun K f fd F => ⟨b12_0 F, trivial⟩), (fun K f fd F => ⟨b13_0 F, trivial⟩), (fun K f fd F => ⟨b14_0 F, trivial⟩), (fun K f fd F => ⟨b15_0 F, trivial⟩), (fun K f fd F => ⟨b16_0 F, trivial⟩), (fun K f fd F => ⟨b17_0 F, trivial⟩), (fun K f fd F => ⟨b18_0 F, trivial⟩), (fun K f fd F => ⟨b19_0 F, trivial⟩), (fun K f fd F => ⟨b20_0 F, trivial⟩), (fun K f fd F => ⟨b21_0 F, trivial⟩), (fun K f fd F => ⟨b22_0 F, trivial⟩), (fun K f fd F => ⟨b23_0 F, trivial⟩), (fun K f fd F => ⟨b24_0 F, trivial⟩), (fun K f fd F => ⟨b25_0 F, trivial⟩), (fun K f fd F => ⟨b26_0 F, trivial⟩), (fun K f fd F => ⟨b27_0 F, trivial⟩), trivial⟩
theorem ebs : AllE Err.Bnds es := ⟨(fun kV doc pm an cdv ct cc us hl => match us, hl with | [u0, u1, u2], _ => rfl), (fun kV doc pm an cdv ct cc us hl => match us, hl with | [u0, u1, u2], _ => rfl), (fun kV doc pm an cdv ct cc us hl => match us, hl with | [u0, u1], _ => rfl), trivial⟩
theorem eok : (es.all Err.okB) = true := by decide +kernel
theorem fok : (gt.fld.all (fldB es)) = true := by decide +kernel
theorem lok : lamsB gt ds = true := by decide +kernel
theorem enl : es = [] → gt.isa = [] ∧ gt.fld = [] := by intro h; cases h
theorem scs : (ds.all fun d => scB d.N d.ps (defScope d.st)) = true := by decide +kernel
def loose0 : List Str := ["RingError", "PaperError", "ShelfError", "LiveError", "TextError", "InvalidPaper", "NotUsable", "Unheld", "is_integer", "rank_in", "table_in", "is_table_form", "end_fault", "stretch_fault", "table_fault", "fault_stretch", "throws_by", "lets_table", "want", "table_by"]
def loose1 : List Str := ["is_rank_table", "pattern_by", "_law_feed", "_law_draw", "_law_pick", "_law_shuffled", "_law_throws", "_law_is_within", "_law_rank_of", "_law_table", "_law_heard", "_law_fault", "_law_is_told", "_law_changed", "_law_any"]
def loose : List Str := loose0 ++ loose1
abbrev Rw : PySem.W.OpenRow := PySem.W.OpenLaw.row PySem.Challenge.rw_throwshelves_k14_whole_tables_judged
def file : Str := PySem.Challenge.pw_throwshelves_k14_whole_tables_judged.main.file
theorem sup : (PySem.Challenge.pw_throwshelves_k14_whole_tables_judged.main.scope.names.lookup ("super" : Str)).isSome = false := by decide +kernel
abbrev hk : PySem.W.Hook := hookE 6 (fas ds blts) (ds.map Df.dd) es (tfOf ds) (exA file es isa ds)
def ob (s : PySem.W.SharedT) : AlE := obsE 6 (fas ds blts) (ds.map Df.dd) es (tfOf ds) (exA file es isa ds) (HandSHeadRun.getT s)
theorem ob_eq (s : PySem.W.SharedT) : ob s = hk.obs s.abs := obsE_eq (HandSHeadRun.getT_eq s)
abbrev lawAt : Nat := 42
theorem runTop (w : World) : HandSHeadRun.RunEq Rw (PySem.W.view Rw.prog [lawAt]) hk ob 20000 loose w := by
  intro os
  kernel_rfl
end K14

set_option Elab.async false
set_option linter.all false
set_option maxRecDepth 100000
/-! T5: K14, core texts, printed. -/
namespace K14
open T5 PySem
def f0 : Fd := ⟨1, 1, false, false, true, (.cons (.ret (.and (.bi .isi (.cons (.var 0) (.cons (.con (.ty "int")) .nil))) (.not (.bi .isi (.cons (.var 0) (.cons (.con (.ty "bool")) .nil)))))) .nil)⟩
def c1_0 : CE := (.cmp .lt (.bin .add (.var 4) (.idx (.var 0) (.bin .mod (.bin .add (.var 1) (.var 4)) (.var 3)))) (.var 2))
def f1 : Fd := ⟨3, 5, false, false, true, (.cons (.asg [3] (.bi .len (.cons (.var 0) .nil))) (.cons (.ret (.bin .sub (.var 2) (.bi .len (.cons (.lc [4] [4] (.var 4) (.rng1 (.var 2)) c1_0) .nil)))) .nil))⟩
def e2_0 : CE := (.call 1 [.inl 0, .inl 1, .inl 2] (.cons (.var 0) (.cons (.var 2) (.cons (.var 3) .nil))) .nil)
def e2_1 : CE := (.bi .tuple (.cons (.lc [3] [3] e2_0 (.rng1 (.bin .add (.var 1) (.con (.int (1))))) (.con (.bl true))) .nil))
def f2 : Fd := ⟨1, 4, false, false, true, (.cons (.asg [1] (.bi .len (.cons (.var 0) .nil))) (.cons (.ret (.bi .tuple (.cons (.lc [2] [2] e2_1 (.rng1 (.var 1)) (.con (.bl true))) .nil))) .nil))⟩
def e3_0 : CE := (.call 0 [.inl 0] (.cons (.var 2) .nil) .nil)
def l3_1 : CSs := (.cons (.iff (.or (.not (.bi .isi (.cons (.var 1) (.cons (.con (.ty "tuple")) .nil)))) (.or (.cmp .ne (.bi .len (.cons (.var 1) .nil)) (.bin .add (.bi .len (.cons (.var 0) .nil)) (.con (.int (1))))) (.not (.bi .all (.cons (.lc [2] [2] e3_0 (.var 1) (.con (.bl true))) .nil))))) (.cons (.ret (.con (.bl false))) .nil) .nil) .nil)
def f3 : Fd := ⟨1, 3, false, false, true, (.cons (.iff (.or (.not (.bi .isi (.cons (.var 0) (.cons (.con (.ty "tuple")) .nil)))) (.cmp .eq (.bi .len (.cons (.var 0) .nil)) (.con (.int (0))))) (.cons (.ret (.con (.bl false))) .nil) .nil) (.cons (.loop [1] (.var 0) l3_1) (.cons (.ret (.con (.bl true))) .nil)))⟩
def l4_0 : CSs := (.cons (.iff (.cmp .ne (.idx (.var 2) (.con (.int (0)))) (.con (.int (0)))) (.cons (.ret (.tup (.cons (.con (.str "nought")) (.cons (.var 1) .nil)))) .nil) .nil) .nil)
def l4_1 : CSs := (.cons (.iff (.cmp .ne (.idx (.var 2) (.neg (.con (.int (1))))) (.idx (.idx (.var 0) (.con (.int (0)))) (.neg (.con (.int (1)))))) (.cons (.ret (.tup (.cons (.con (.str "whole")) (.cons (.var 1) .nil)))) .nil) .nil) .nil)
def f4 : Fd := ⟨1, 3, false, false, true, (.cons (.loop [1, 2] (.enum (.var 0)) l4_0) (.cons (.loop [1, 2] (.enum (.var 0)) l4_1) (.cons (.ret (.con .non)) .nil)))⟩
def f5 : Fd := ⟨3, 5, false, false, true, (.cons (.par [3, 4] (.cons (.idx (.var 0) (.var 1)) (.cons (.idx (.var 0) (.bin .mod (.bin .add (.var 1) (.con (.int (1)))) (.bi .len (.cons (.var 0) .nil)))) .nil))) (.cons (.iff (.cmp .nmem (.bin .sub (.idx (.var 3) (.var 2)) (.idx (.var 3) (.bin .sub (.var 2) (.con (.int (1)))))) (.tup (.cons (.con (.int (0))) (.cons (.con (.int (1))) .nil)))) (.cons (.ret (.con (.str "ahead"))) .nil) .nil) (.cons (.iff (.and (.cmp .gt (.var 2) (.con (.int (1)))) (.cmp .gt (.bin .add (.idx (.var 3) (.var 2)) (.idx (.var 4) (.bin .sub (.var 2) (.con (.int (2)))))) (.bin .add (.idx (.var 3) (.bin .sub (.var 2) (.con (.int (1))))) (.idx (.var 4) (.bin .sub (.var 2) (.con (.int (1)))))))) (.cons (.ret (.con (.str "square"))) .nil) .nil) (.cons (.ret (.con .non)) .nil))))⟩
def l6_0 : CSs := (.cons (.asg [1] (.call 5 [.inl 0, .inl 1, .inl 2] (.cons (.var 0) (.cons (.var 2) (.cons (.var 3) .nil))) .nil)) (.cons (.iff (.cmp .isnot (.var 1) (.con .non)) (.cons (.ret (.tup (.cons (.var 1) (.cons (.tup (.cons (.var 2) (.cons (.var 3) .nil))) .nil)))) .nil) .nil) .nil))
def l6_1 : CSs := (.cons (.loop [3] (.rng2 (.con (.int (1))) (.bin .add (.bi .len (.cons (.var 0) .nil)) (.con (.int (1))))) l6_0) .nil)
def f6 : Fd := ⟨1, 4, false, false, true, (.cons (.iff (.not (.call 3 [.inl 0] (.cons (.var 0) .nil) .nil)) (.cons (.ret (.tup (.cons (.con (.str "shape")) (.cons (.neg (.con (.int (1)))) .nil)))) .nil) .nil) (.cons (.asg [1] (.call 4 [.inl 0] (.cons (.var 0) .nil) .nil)) (.cons (.iff (.cmp .isnot (.var 1) (.con .non)) (.cons (.ret (.var 1)) .nil) .nil) (.cons (.loop [2] (.rng1 (.bi .len (.cons (.var 0) .nil))) l6_1) (.cons (.ret (.con .non)) .nil)))))⟩
def f7 : Fd := ⟨2, 2, false, false, true, (.cons (.iff (.cmp .eq (.idx (.var 1) (.con (.int (0)))) (.con (.str "nought"))) (.cons (.ret (.tup (.cons (.idx (.var 1) (.con (.int (1)))) (.cons (.con (.int (0))) .nil)))) .nil) .nil) (.cons (.ret (.ite (.cmp .eq (.idx (.var 1) (.con (.int (0)))) (.con (.str "whole"))) (.tup (.cons (.idx (.var 1) (.con (.int (1)))) (.cons (.bi .len (.cons (.var 0) .nil)) .nil))) (.idx (.var 1) (.con (.int (1)))))) .nil))⟩
def c8_0 : CE := (.cmp .eq (.idx (.var 4) (.bin .add (.var 7) (.con (.int (1))))) (.idx (.var 5) (.var 7)))
def l8_1 : CSs := (.cons (.asg [5] (.idx (.var 0) (.bin .mod (.bin .add (.var 3) (.con (.int (1)))) (.var 1)))) (.cons (.asg [6] (.lc [7] [7] (.var 7) (.rng1 (.var 1)) c8_0)) (.cons (.app (.var 2) (.ite (.cmp .gt (.bi .len (.cons (.var 6) .nil)) (.con (.int (0)))) (.idx (.var 6) (.con (.int (0)))) (.var 1))) .nil)))
def f8 : Fd := ⟨1, 8, false, false, true, (.cons (.par [1, 2] (.cons (.bi .len (.cons (.var 0) .nil)) (.cons (.box (.lst .nil)) .nil))) (.cons (.loop [3, 4] (.enum (.var 0)) l8_1) (.cons (.ret (.bi .tuple (.cons (.var 2) .nil))) .nil)))⟩
def f9 : Fd := ⟨1, 2, false, false, true, (.cons (.asg [1] (.call 6 [.inl 0] (.cons (.var 0) .nil) .nil)) (.cons (.iff (.cmp .isnot (.var 1) (.con .non)) (.cons (.rais 0 (.cons (.idx (.var 1) (.con (.int (0)))) (.cons (.idx (.var 1) (.con (.int (1)))) .nil))) .nil) .nil) (.cons (.ret (.idx (.idx (.var 0) (.con (.int (0)))) (.neg (.con (.int (1)))))) .nil)))⟩
def f10 : Fd := ⟨3, 3, false, false, true, (.cons (.iff (.not (.var 0)) (.cons (.rais 1 (.cons (.var 1) (.cons (.var 2) .nil))) .nil) .nil) .nil)⟩
def f11 : Fd := ⟨1, 1, false, false, true, (.cons (.ret (.call 2 [.inl 0] (.cons (.var 0) .nil) .nil)) .nil)⟩
def f12 : Fd := ⟨1, 1, false, false, true, (.cons (.ret (.cmp .is (.call 6 [.inl 0] (.cons (.var 0) .nil) .nil) (.con .non))) .nil)⟩
def f13 : Fd := ⟨1, 2, false, false, true, (.cons (.expr (.call 10 [.inl 0, .inl 1, .inr (.int (-1))] (.cons (.call 3 [.inl 0] (.cons (.var 0) .nil) .nil) (.cons (.con (.str "table")) .nil)) .nil)) (.cons (.asg [1] (.call 6 [.inl 0] (.cons (.var 0) .nil) .nil)) (.cons (.iff (.cmp .isnot (.var 1) (.con .non)) (.cons (.rais 2 (.cons (.call 7 [.inl 0, .inl 1] (.cons (.var 0) (.cons (.var 1) .nil)) .nil) .nil)) .nil) .nil) (.cons (.ret (.call 8 [.inl 0] (.cons (.var 0) .nil) .nil)) .nil))))⟩
def f14 : Fd := ⟨1, 1, true, false, false, (.cons (.ret (.dic [.inr "cells", .inr "at", .inr "left", .inr "count"] (.cons (.bi .list (.cons (.slc (.var 0) (.con .non) (.asInt (.con (.int (62))))) .nil)) (.cons (.con (.int (0))) (.cons (.con (.int (0))) (.cons (.con (.int (0))) .nil)))))) .nil)⟩
def f15 : Fd := ⟨2, 6, false, false, false, (.cons (.setI (.var 0) (.con (.str "count")) (.bin .add (.idx (.var 0) (.con (.str "count"))) (.con (.int (1))))) (.cons (.iff (.cmp .gt (.idx (.var 0) (.con (.str "left"))) (.con (.int (0)))) (.cons (.asg [5] (.bin .mod (.bi .int (.cons (.idx (.var 0) (.con (.str "left"))) .nil)) (.var 1))) (.cons (.setI (.var 0) (.con (.str "left")) (.bin .fdiv (.idx (.var 0) (.con (.str "left"))) (.var 1))) (.cons (.ret (.var 5)) .nil))) .nil) (.cons (.asg [2] (.idx (.var 0) (.con (.str "at")))) (.cons (.setI (.var 0) (.con (.str "at")) (.bin .add (.var 2) (.con (.int (1))))) (.cons (.asg [3] (.ite (.cmp .ne (.idx (.var 0) (.con (.str "cells"))) (.lst .nil)) (.idx (.idx (.var 0) (.con (.str "cells"))) (.bin .mod (.bi .int (.cons (.var 2) .nil)) (.bi .len (.cons (.idx (.var 0) (.con (.str "cells"))) .nil)))) (.con (.int (881))))) (.cons (.iff (.and (.cmp .ge (.var 3) (.bin .pow (.con (.int (10))) (.con (.int (18))))) (.cmp .lt (.var 2) (.bi .len (.cons (.idx (.var 0) (.con (.str "cells"))) .nil)))) (.cons (.setI (.var 0) (.con (.str "left")) (.bin .fdiv (.var 3) (.var 1))) (.cons (.ret (.bin .mod (.bi .int (.cons (.var 3) .nil)) (.var 1))) .nil)) .nil) (.cons (.asg [4] (.bin .mod (.bi .int (.cons (.bin .add (.bin .add (.bin .mod (.bi .int (.cons (.var 3) .nil)) (.con (.int (1000001423)))) (.bin .mul (.con (.int (65003))) (.idx (.var 0) (.con (.str "count"))))) (.con (.int (661)))) .nil)) (.con (.int (2147480897))))) (.cons (.asg [4] (.bin .mod (.bi .int (.cons (.bin .add (.bin .add (.bin .mul (.var 4) (.var 4)) (.bin .mul (.con (.int (13500031))) (.idx (.var 0) (.con (.str "count"))))) (.con (.int (661)))) .nil)) (.con (.int (2147480893))))) (.cons (.ret (.bin .mod (.bi .int (.cons (.bin .fdiv (.bin .mod (.bi .int (.cons (.bin .add (.bin .mul (.var 4) (.var 4)) (.bin .mul (.con (.int (617))) (.var 4))) .nil)) (.con (.int (2147480863)))) (.con (.int (32)))) .nil)) (.var 1))) .nil)))))))))⟩
def f16 : Fd := ⟨2, 2, false, false, false, (.cons (.ret (.idx (.var 1) (.call 15 [.inl 0, .inl 1] (.cons (.var 0) (.cons (.bi .len (.cons (.var 1) .nil)) .nil)) .nil))) .nil)⟩
def l17_0 : CSs := (.cons (.asg [5] (.call 15 [.inl 0, .inl 1] (.cons (.var 0) (.cons (.bi .len (.cons (.var 3) .nil)) .nil)) .nil)) (.cons (.app (.var 4) (.idx (.var 3) (.var 5))) (.cons (.asg [3] (.bin .add (.slc (.var 3) (.con .non) (.asInt (.var 5))) (.slc (.var 3) (.asInt (.bin .add (.var 5) (.con (.int (1))))) (.con .non)))) .nil)))
def f17 : Fd := ⟨2, 6, true, false, false, (.cons (.par [3, 4] (.cons (.lr1 (.var 1)) (.cons (.box (.lst .nil)) .nil))) (.cons (.loop [2] (.rng1 (.var 1)) l17_0) (.cons (.ret (.var 4)) .nil)))⟩
def e18_0 : CE := (.bin .mod (.bi .int (.cons (.bin .add (.bin .add (.var 7) (.con (.int (1)))) (.call 15 [.inl 0, .inl 1] (.cons (.var 0) (.cons (.con (.int (2))) .nil)) .nil)) .nil)) (.var 2))
def e18_1 : CE := (.bin .mod (.bi .int (.cons (.bin .sub (.idx (.var 4) (.var 7)) (.var 7)) .nil)) (.var 2))
def e18_2 : CE := (.ite (.cmp .gt (.var 8) (.con (.int (0)))) (.var 8) (.bin .mul (.var 2) (.call 15 [.inl 0, .inl 1] (.cons (.var 0) (.cons (.con (.int (2))) .nil)) .nil)))
def f18 : Fd := ⟨2, 9, false, false, false, (.cons (.asg [2] (.bin .add (.con (.int (1))) (.call 15 [.inl 0, .inl 1] (.cons (.var 0) (.cons (.var 1) .nil)) .nil))) (.cons (.asg [4, 5] (.tup (.cons (.call 17 [.inl 0, .inl 1] (.cons (.var 0) (.cons (.var 2) .nil)) .nil) (.cons (.call 15 [.inl 0, .inl 1] (.cons (.var 0) (.cons (.con (.int (5))) .nil)) .nil) .nil)))) (.cons (.iff (.cmp .eq (.var 5) (.con (.int (0)))) (.cons (.asg [4] (.lc [7] [7] e18_0 (.rng1 (.var 2)) (.con (.bl true)))) (.cons (.asg [4] (.ite (.cmp .eq (.bi .lenset (.cons (.var 4) .nil)) (.var 2)) (.var 4) (.lr1 (.var 2)))) .nil)) .nil) (.cons (.iff (.cmp .eq (.var 5) (.con (.int (1)))) (.cons (.asg [6] (.call 15 [.inl 0, .inl 1] (.cons (.var 0) (.cons (.bin .add (.var 2) (.con (.int (1)))) .nil)) .nil)) (.cons (.ret (.bin .mul (.tup (.cons (.var 6) .nil)) (.var 2))) .nil)) .nil) (.cons (.asg [3] (.lc [7] [7] e18_1 (.rng1 (.var 2)) (.con (.bl true)))) (.cons (.ret (.bi .tuple (.cons (.lc [8] [8] e18_2 (.var 3) (.con (.bl true))) .nil))) .nil))))))⟩
def f19 : Fd := ⟨4, 4, false, false, true, (.cons (.ret (.cmp .lt (.bin .add (.var 3) (.idx (.var 0) (.bin .mod (.bi .int (.cons (.bin .add (.var 1) (.var 3)) .nil)) (.bi .len (.cons (.var 0) .nil))))) (.var 2))) .nil)⟩
def c20_0 : CE := (.call 19 [.inl 0, .inl 1, .inl 2, .inl 3] (.cons (.var 0) (.cons (.var 1) (.cons (.var 2) (.cons (.var 3) .nil)))) .nil)
def f20 : Fd := ⟨3, 4, false, false, true, (.cons (.ret (.bin .sub (.var 2) (.bi .len (.cons (.lc [3] [3] (.var 3) (.rng1 (.var 2)) c20_0) .nil)))) .nil)⟩
def e21_0 : CE := (.call 20 [.inl 0, .inl 1, .inl 2] (.cons (.var 0) (.cons (.var 2) (.cons (.var 3) .nil))) .nil)
def e21_1 : CE := (.bi .tuple (.cons (.lc [3] [3] e21_0 (.rng1 (.bin .add (.var 1) (.con (.int (1))))) (.con (.bl true))) .nil))
def f21 : Fd := ⟨1, 4, false, false, true, (.cons (.asg [1] (.bi .len (.cons (.var 0) .nil))) (.cons (.ret (.bi .tuple (.cons (.lc [2] [2] e21_1 (.rng1 (.var 1)) (.con (.bl true))) .nil))) .nil))⟩
def f22 : Fd := ⟨1, 3, false, true, false, (.cons (.tryS (.cons (.ret (.tup (.cons (.con (.str "got")) (.cons .act .nil)))) .nil) [0, 1, 2] (some 1) (.cons (.asg [2] (.lst (.cons (.exi 1 [1, 2]) (.cons (.exi 1 [0]) (.cons (.exi 1 []) .nil))))) (.cons (.iff (.not (.exi 1 [0, 1, 2])) (.cons (.ret (.tup (.cons (.con (.str "other")) .nil))) .nil) .nil) (.cons (.iff (.and (.exi 1 [1]) (.cmp .eq (.var 2) (.lst (.cons (.con (.bl true)) (.cons (.con (.bl false)) (.cons (.con (.bl false)) .nil)))))) (.cons (.ret (.tup (.cons (.con (.str "not")) (.cons (.exf 1 [(0 , 0), (1 , 0)]) (.cons (.exf 1 [(0 , 1), (1 , 1)]) .nil))))) .nil) .nil) (.cons (.iff (.and (.exi 1 [2]) (.cmp .eq (.var 2) (.lst (.cons (.con (.bl true)) (.cons (.con (.bl false)) (.cons (.con (.bl false)) .nil)))))) (.cons (.ret (.tup (.cons (.con (.str "unheld")) (.cons (.exf 1 [(2 , 0)]) .nil)))) .nil) .nil) (.cons (.iff (.and (.exi 1 [0]) (.cmp .eq (.var 2) (.lst (.cons (.con (.bl false)) (.cons (.con (.bl true)) (.cons (.con (.bl false)) .nil)))))) (.cons (.ret (.tup (.cons (.con (.str "paper")) (.cons (.exf 1 [(0 , 0), (1 , 0)]) (.cons (.exf 1 [(0 , 1), (1 , 1)]) .nil))))) .nil) .nil) (.cons (.ret (.tup (.cons (.con (.str "other")) .nil))) .nil))))))) .nil)⟩
def l23_0 : CSs := (.cons (.iff (.cmp .ne (.idx (.idx (.var 0) (.var 2)) (.con (.int (0)))) (.con (.int (0)))) (.cons (.ret (.tup (.cons (.tup (.cons (.con (.str "nought")) (.cons (.var 2) .nil))) (.cons (.tup (.cons (.var 2) (.cons (.con (.int (0))) .nil))) .nil)))) .nil) .nil) .nil)
def l23_1 : CSs := (.cons (.iff (.cmp .ne (.idx (.idx (.var 0) (.var 2)) (.var 1)) (.idx (.idx (.var 0) (.con (.int (0)))) (.var 1))) (.cons (.ret (.tup (.cons (.tup (.cons (.con (.str "whole")) (.cons (.var 2) .nil))) (.cons (.tup (.cons (.var 2) (.cons (.var 1) .nil))) .nil)))) .nil) .nil) .nil)
def l23_2 : CSs := (.cons (.iff (.cmp .nmem (.bin .sub (.idx (.var 4) (.var 3)) (.idx (.var 4) (.bin .sub (.var 3) (.con (.int (1)))))) (.tup (.cons (.con (.int (0))) (.cons (.con (.int (1))) .nil)))) (.cons (.ret (.tup (.cons (.tup (.cons (.con (.str "ahead")) (.cons (.tup (.cons (.var 2) (.cons (.var 3) .nil))) .nil))) (.cons (.tup (.cons (.var 2) (.cons (.var 3) .nil))) .nil)))) .nil) .nil) (.cons (.iff (.cmp .gt (.var 3) (.con (.int (1)))) (.cons (.asg [6] (.bin .add (.idx (.var 4) (.bin .sub (.var 3) (.con (.int (1))))) (.idx (.var 5) (.bin .sub (.var 3) (.con (.int (1))))))) (.cons (.iff (.cmp .gt (.bin .add (.idx (.var 4) (.var 3)) (.idx (.var 5) (.bin .sub (.var 3) (.con (.int (2)))))) (.var 6)) (.cons (.ret (.tup (.cons (.tup (.cons (.con (.str "square")) (.cons (.tup (.cons (.var 2) (.cons (.var 3) .nil))) .nil))) (.cons (.tup (.cons (.var 2) (.cons (.var 3) .nil))) .nil)))) .nil) .nil) .nil)) .nil) .nil))
def l23_3 : CSs := (.cons (.par [4, 5] (.cons (.idx (.var 0) (.var 2)) (.cons (.idx (.var 0) (.bin .mod (.bi .int (.cons (.bin .add (.var 2) (.con (.int (1)))) .nil)) (.var 1))) .nil))) (.cons (.loop [3] (.rng2 (.con (.int (1))) (.bin .add (.var 1) (.con (.int (1))))) l23_2) .nil))
def f23 : Fd := ⟨1, 7, false, false, true, (.cons (.asg [1] (.bi .len (.cons (.var 0) .nil))) (.cons (.loop [2] (.rng1 (.var 1)) l23_0) (.cons (.loop [2] (.rng1 (.var 1)) l23_1) (.cons (.loop [2] (.rng1 (.var 1)) l23_3) (.cons (.ret (.con .non)) .nil)))))⟩
def f24 : Fd := ⟨1, 4, false, false, true, (.cons (.asg [1] (.call 23 [.inl 0] (.cons (.var 0) .nil) .nil)) (.cons (.asg [2] (.box (.lst (.cons (.lam 22 (.call 9 [.inl 0] (.cons (.var 0) .nil) .nil)) .nil)))) (.cons (.app (.var 2) (.lam 22 (.call 13 [.inl 0] (.cons (.var 0) .nil) .nil))) (.cons (.app (.var 2) (.call 12 [.inl 0] (.cons (.var 0) .nil) .nil)) (.cons (.iff (.cmp .isnot (.var 1) (.con .non)) (.cons (.ret (.cmp .eq (.bi .repr (.cons (.var 2) .nil)) (.bi .repr (.cons (.lst (.cons (.bin .add (.tup (.cons (.con (.str "paper")) .nil)) (.idx (.var 1) (.con (.int (0))))) (.cons (.tup (.cons (.con (.str "unheld")) (.cons (.idx (.var 1) (.con (.int (1)))) .nil))) (.cons (.con (.bl false)) .nil)))) .nil)))) .nil) .nil) (.cons (.iff (.or (.cmp .ne (.bi .repr (.cons (.lst (.cons (.idx (.var 2) (.con (.int (0)))) (.cons (.idx (.var 2) (.con (.int (2)))) .nil))) .nil)) (.bi .repr (.cons (.lst (.cons (.tup (.cons (.con (.str "got")) (.cons (.idx (.idx (.var 0) (.con (.int (0)))) (.neg (.con (.int (1))))) .nil))) (.cons (.con (.bl true)) .nil))) .nil))) (.cmp .ne (.idx (.idx (.var 2) (.con (.int (1)))) (.con (.int (0)))) (.con (.str "got")))) (.cons (.ret (.con (.bl false))) .nil) .nil) (.cons (.asg [3] (.idx (.idx (.var 2) (.con (.int (1)))) (.con (.int (1))))) (.cons (.ret (.and (.cmp .eq (.bi .repr (.cons (.call 21 [.inl 0] (.cons (.var 3) .nil) .nil) .nil)) (.bi .repr (.cons (.var 0) .nil))) (.cmp .eq (.bi .repr (.cons (.call 11 [.inl 0] (.cons (.var 3) .nil) .nil) .nil)) (.bi .repr (.cons (.var 0) .nil))))) .nil))))))))⟩
def e25_0 : CE := (.box (.bi .list (.cons (.var 8) .nil)))
def l25_1 : CSs := (.cons (.par [9, 10] (.cons (.call 15 [.inl 0, .inl 1] (.cons (.var 0) (.cons (.var 4) .nil)) .nil) (.cons (.call 15 [.inl 0, .inl 1] (.cons (.var 0) (.cons (.bin .add (.var 4) (.con (.int (1)))) .nil)) .nil) .nil))) (.cons (.setI (.idx (.var 2) (.var 9)) (.var 10) (.bin .add (.idx (.idx (.var 2) (.var 9)) (.var 10)) (.call 16 [.inl 0, .inl 1] (.cons (.var 0) (.cons (.lst (.cons (.con (.int (1))) (.cons (.neg (.con (.int (1)))) (.cons (.con (.int (1))) (.cons (.con (.int (2))) (.cons (.bin .pow (.con (.int (10))) (.con (.int (50)))) .nil)))))) .nil)) .nil))) .nil))
def l25_2 : CSs := (.cons (.setI (.idx (.var 2) (.var 9)) (.var 7) (.bin .add (.idx (.idx (.var 2) (.var 9)) (.var 7)) (.con (.int (1))))) .nil)
def e25_3 : CE := (.bi .tuple (.cons (.var 8) .nil))
def f25 : Fd := ⟨2, 11, false, false, false, (.cons (.par [4, 5] (.cons (.bi .len (.cons (.var 1) .nil)) (.cons (.call 15 [.inl 0, .inl 1] (.cons (.var 0) (.cons (.con (.int (8))) .nil)) .nil) .nil))) (.cons (.iff (.cmp .eq (.var 5) (.con (.int (0)))) (.cons (.asg [6] (.call 15 [.inl 0, .inl 1] (.cons (.var 0) (.cons (.var 4) .nil)) .nil)) (.cons (.ret (.bin .add (.slc (.var 1) (.asInt (.var 6)) (.con .non)) (.slc (.var 1) (.con .non) (.asInt (.var 6))))) .nil)) .nil) (.cons (.iff (.cmp .eq (.var 5) (.con (.int (1)))) (.cons (.ret (.rev (.var 1))) .nil) .nil) (.cons (.asg [2] (.lc [8] [8] e25_0 (.var 1) (.con (.bl true)))) (.cons (.loop [3] (.rng1 (.bin .add (.con (.int (1))) (.call 15 [.inl 0, .inl 1] (.cons (.var 0) (.cons (.con (.int (3))) .nil)) .nil))) l25_1) (.cons (.iff (.cmp .eq (.var 5) (.con (.int (2)))) (.cons (.par [9, 10] (.cons (.call 15 [.inl 0, .inl 1] (.cons (.var 0) (.cons (.var 4) .nil)) .nil) (.cons (.bin .add (.con (.int (1))) (.call 15 [.inl 0, .inl 1] (.cons (.var 0) (.cons (.var 4) .nil)) .nil)) .nil))) (.cons (.loop [7] (.rng2 (.var 10) (.bin .add (.var 4) (.con (.int (1))))) l25_2) .nil)) .nil) (.cons (.ret (.bi .tuple (.cons (.lc [8] [8] e25_3 (.var 2) (.con (.bl true))) .nil))) .nil)))))))⟩
def l26_0 : CSs := (.cons (.app (.var 5) (.bin .add (.idx (.var 5) (.neg (.con (.int (1))))) (.call 16 [.inl 0, .inl 1] (.cons (.var 0) (.cons (.lst (.cons (.con (.int (0))) (.cons (.con (.int (1))) (.cons (.con (.int (0))) (.cons (.con (.int (1))) (.cons (.con (.int (0))) (.cons (.con (.int (1))) (.cons (.con (.int (2))) (.cons (.neg (.con (.int (1)))) .nil))))))))) .nil)) .nil))) .nil)
def l26_1 : CSs := (.cons (.asg [5] (.box (.lst (.cons (.ite (.cmp .gt (.call 15 [.inl 0, .inl 1] (.cons (.var 0) (.cons (.con (.int (12))) .nil)) .nil) (.con (.int (0)))) (.con (.int (0))) (.con (.int (1)))) .nil)))) (.cons (.loop [6] (.rng1 (.var 2)) l26_0) (.cons (.setI (.var 5) (.neg (.con (.int (1)))) (.ite (.cmp .gt (.call 15 [.inl 0, .inl 1] (.cons (.var 0) (.cons (.con (.int (6))) .nil)) .nil) (.con (.int (0)))) (.var 3) (.idx (.var 5) (.neg (.con (.int (1))))))) (.cons (.app (.var 4) (.bi .tuple (.cons (.var 5) .nil))) .nil))))
def f26 : Fd := ⟨1, 7, false, false, false, (.cons (.par [2, 3, 4] (.cons (.bin .add (.con (.int (1))) (.call 15 [.inl 0, .inl 1] (.cons (.var 0) (.cons (.con (.int (3))) .nil)) .nil)) (.cons (.call 15 [.inl 0, .inl 1] (.cons (.var 0) (.cons (.con (.int (3))) .nil)) .nil) (.cons (.box (.lst .nil)) .nil)))) (.cons (.loop [1] (.rng1 (.var 2)) l26_1) (.cons (.ret (.bi .tuple (.cons (.var 4) .nil))) .nil)))⟩
def l27_0 : CSs := (.cons (.iff (.not (.call 24 [.inl 0] (.cons (.call 25 [.inl 0, .inl 1] (.cons (.var 1) (.cons (.var 3) .nil)) .nil) .nil) .nil)) (.cons (.ret (.con (.bl false))) .nil) .nil) .nil)
def l27_1 : CSs := (.cons (.asg [3] (.call 21 [.inl 0] (.cons (.call 18 [.inl 0, .inl 1] (.cons (.var 1) (.cons (.con (.int (7))) .nil)) .nil) .nil) .nil)) (.cons (.iff (.not (.call 24 [.inl 0] (.cons (.var 3) .nil) .nil)) (.cons (.ret (.con (.bl false))) .nil) .nil) (.cons (.loop [4] (.rng1 (.con (.int (6)))) l27_0) .nil)))
def c27_2 : CE := (.not (.call 24 [.inl 0] (.cons (.call 26 [.inl 0] (.cons (.var 1) .nil) .nil) .nil) .nil))
def f27 : Fd := ⟨1, 5, false, false, false, (.cons (.asg [1] (.call 14 [.inl 0] (.cons (.var 0) .nil) .nil)) (.cons (.loop [2] (.rng1 (.con (.int (2)))) l27_1) (.cons (.ret (.cmp .eq (.lc [2] [2] (.var 2) (.rng1 (.con (.int (12)))) c27_2) (.lst .nil))) .nil)))⟩
def F : List Fd := [f0, f1, f2, f3, f4, f5, f6, f7, f8, f9, f10, f11, f12, f13, f14, f15, f16, f17, f18, f19, f20, f21, f22, f23, f24, f25, f26, f27]
theorem F0 : F[0]? = some f0 := rfl
theorem F1 : F[1]? = some f1 := rfl
theorem F2 : F[2]? = some f2 := rfl
theorem F3 : F[3]? = some f3 := rfl
theorem F4 : F[4]? = some f4 := rfl
theorem F5 : F[5]? = some f5 := rfl
theorem F6 : F[6]? = some f6 := rfl
theorem F7 : F[7]? = some f7 := rfl
theorem F8 : F[8]? = some f8 := rfl
theorem F9 : F[9]? = some f9 := rfl
theorem F10 : F[10]? = some f10 := rfl
theorem F11 : F[11]? = some f11 := rfl
theorem F12 : F[12]? = some f12 := rfl
theorem F13 : F[13]? = some f13 := rfl
theorem F14 : F[14]? = some f14 := rfl
theorem F15 : F[15]? = some f15 := rfl
theorem F16 : F[16]? = some f16 := rfl
theorem F17 : F[17]? = some f17 := rfl
theorem F18 : F[18]? = some f18 := rfl
theorem F19 : F[19]? = some f19 := rfl
theorem F20 : F[20]? = some f20 := rfl
theorem F21 : F[21]? = some f21 := rfl
theorem F22 : F[22]? = some f22 := rfl
theorem F23 : F[23]? = some f23 := rfl
theorem F24 : F[24]? = some f24 := rfl
theorem F25 : F[25]? = some f25 := rfl
theorem F26 : F[26]? = some f26 := rfl
theorem F27 : F[27]? = some f27 := rfl
end K14

set_option Elab.async false
set_option linter.all false
set_option maxRecDepth 100000
set_option maxHeartbeats 0
namespace K14
open T5 PySem
theorem F_eq : ds.map (Df.fd gt) = F := by kernel_rfl
end K14

set_option Elab.async false
set_option linter.all false
set_option maxRecDepth 100000
set_option maxHeartbeats 2000000
/-! T5: plain lemmas on the evaluator. -/
namespace T5
open PySem

/-! ### data that repr shows -/
mutual
def smD : D → Bool
  | .non => true
  | .bl _ => true
  | .int i => decide (i.natAbs < 400)
  | .str x => (PyData.str x).canLay0 && (PyData.str x).showable && (PyData.str x).leavesShort 2000
  | .tup ds => smL ds
  | .lst ds => smL ds
  | _ => false
def smL : List D → Bool
  | [] => true
  | d :: r => smD d && smL r
end
mutual
def dpD : D → Nat
  | .tup ds => dpL ds + 1
  | .lst ds => dpL ds + 1
  | _ => 0
def dpL : List D → Nat
  | [] => 0
  | d :: r => max (dpD d) (dpL r)
end
mutual
def bkD : D → Nat
  | .str x => x.cps.size
  | .tup ds => bkL ds
  | .lst ds => bkL ds
  | _ => 0
def bkL : List D → Nat
  | [] => 0
  | d :: r => bkD d + 1 + bkL r
end
theorem small_pos : ∀ n : Nat, n < 400 → ((PyData.int (n : Int)).showable && (PyData.int (n : Int)).leavesShort 2000) = true := by decide +kernel
theorem small_neg : ∀ n : Nat, n < 400 → ((PyData.int (-(n : Int))).showable && (PyData.int (-(n : Int))).leavesShort 2000) = true := by decide +kernel
theorem small_int {i : Int} (h : i.natAbs < 400) : ((PyData.int i).showable && (PyData.int i).leavesShort 2000) = true := by
  rcases Int.natAbs_eq i with e | e
  · rw [e]
    exact small_pos _ h
  · rw [e]
    exact small_neg _ h
mutual
theorem smD_ok : ∀ d : D, smD d = true → ∃ p, toP d = some p ∧ p.canLay0 = true ∧ p.showable = true ∧ p.leavesShort 2000 = true ∧ p.depth = dpD d ∧ p.bulk = bkD d
  | .non, _ => ⟨.none, rfl, rfl, rfl, rfl, rfl, rfl⟩
  | .bl b, _ => ⟨.bool b, rfl, rfl, rfl, rfl, rfl, rfl⟩
  | .int i, h => by
    have h1 := Bool.and_eq_true_iff.mp (small_int (of_decide_eq_true (show decide (i.natAbs < 400) = true from h)))
    exact ⟨.int i, rfl, rfl, h1.1, h1.2, rfl, rfl⟩
  | .tup ds, h => by
    obtain ⟨ps, h1, h2, h3, h4, h5, h6⟩ := smL_ok ds h
    refine ⟨.tuple ps, ?_, h2, h3, h4, ?_, h6⟩
    · show (toPs ds).map PyData.tuple = _
      rw [h1]
      rfl
    · show PyData.depthAll ps + 1 = dpL ds + 1
      rw [h5]
  | .lst ds, h => by
    obtain ⟨ps, h1, h2, h3, h4, h5, h6⟩ := smL_ok ds h
    refine ⟨.list ps, ?_, h2, h3, h4, ?_, h6⟩
    · show (toPs ds).map PyData.list = _
      rw [h1]
      rfl
    · show PyData.depthAll ps + 1 = dpL ds + 1
      rw [h5]
  | .str x, h => by
    have h := Bool.and_eq_true_iff.mp (show ((PyData.str x).canLay0 && (PyData.str x).showable && (PyData.str x).leavesShort 2000) = true from h)
    exact ⟨.str x, rfl, (Bool.and_eq_true_iff.mp h.1).1, (Bool.and_eq_true_iff.mp h.1).2, h.2, rfl, rfl⟩
  | .rep _, h => by cases h
  | .scr _, h => by cases h
  | .kt _, h => by cases h
  | .loc _, h => by cases h
  | .fn _, h => by cases h
  | .ty _, h => by cases h
theorem smL_ok : ∀ ds : List D, smL ds = true → ∃ ps, toPs ds = some ps ∧ PyData.canLayAll0 ps = true ∧ PyData.showableAll ps = true ∧ PyData.leavesShortAll 2000 ps = true ∧ PyData.depthAll ps = dpL ds ∧ PyData.bulkAll ps = bkL ds
  | [], _ => ⟨[], rfl, rfl, rfl, rfl, rfl, rfl⟩
  | d :: r, h => by
    obtain ⟨h1, h2⟩ := Bool.and_eq_true_iff.mp (show (smD d && smL r) = true from h)
    obtain ⟨p, a1, a2, a3, a4, a5, a6⟩ := smD_ok d h1
    obtain ⟨ps, b1, b2, b3, b4, b5, b6⟩ := smL_ok r h2
    refine ⟨p :: ps, ?_, ?_, ?_, ?_, ?_, ?_⟩
    · show ((toP d).bind fun p => (toPs r).map fun ps => p :: ps) = _
      rw [a1, b1]
      rfl
    · show (p.canLay0 && PyData.canLayAll0 ps) = true
      rw [a2, b2]
      rfl
    · show (p.showable && PyData.showableAll ps) = true
      rw [a3, b3]
      rfl
    · show (p.leavesShort 2000 && PyData.leavesShortAll 2000 ps) = true
      rw [a4, b4]
      rfl
    · show max p.depth (PyData.depthAll ps) = max (dpD d) (dpL r)
      rw [a5, b5]
    · show p.bulk + 1 + PyData.bulkAll ps = bkD d + 1 + bkL r
      rw [a6, b6]
end
theorem repD_ok {d : D} (h : smD d = true) (h1 : dpD d ≤ 64) (h2 : bkD d ≤ 5000) : repD d = some (.rep d) := by
  obtain ⟨p, a1, a2, a3, a4, a5, a6⟩ := smD_ok d h
  unfold repD
  rw [a1]
  show (if (SeqAt.shaped p && p.showable && p.leavesShort 2000 && Nat.ble p.bulk 5000) = true then some (D.rep d) else none) = _
  have e1 : SeqAt.shaped p = true := by
    unfold SeqAt.shaped
    rw [a2, a5]
    exact decide_eq_true h1
  have e2 : Nat.ble p.bulk 5000 = true := by
    rw [a6]
    exact Nat.ble_eq.mpr h2
  rw [e1, a3, a4, e2]
  rfl
mutual
theorem eqD_refl : ∀ d : D, eqD d d = true
  | .non => rfl
  | .bl b => by show (b == b) = true; simp
  | .int i => by show (i == i) = true; simp
  | .str x => by show decide (x = x) = true; simp
  | .rep d => eqD_refl d
  | .tup ds => eqL_refl ds
  | .lst ds => eqL_refl ds
  | .scr ds => eqL_refl ds
  | .kt ds => eqL_refl ds
  | .loc n => by show (n == n) = true; simp
  | .fn n => by show (n == n) = true; simp
  | .ty n => by show (n == n) = true; simp
  | .pin n => by show (n == n) = true; simp
theorem eqL_refl : ∀ ds : List D, eqL ds ds = true
  | [] => rfl
  | d :: r => by show (eqD d d && eqL r r) = true; rw [eqD_refl d, eqL_refl r]; rfl
end
theorem eqq_rep (d : D) : eqq (.rep d) (.rep d) = some true := by
  show (if eqD d d = true then some true else none) = _
  rw [eqD_refl]
  rfl
/-- a list of plain data against [] -/
theorem eqq_nil {ds : List D} (h : smL ds = true) (h1 : dpL ds ≤ 63) : eqq (.lst ds) (.lst []) = some ds.isEmpty := by
  obtain ⟨ps, a1, a2, a3, a4, a5, a6⟩ := smL_ok ds h
  show ((toP (.lst ds)).bind fun p => (toP (.lst [])).bind fun q => if (SeqAt.shaped p && SeqAt.shaped q) = true then some (PyData.eqv p q) else none) = _
  have e : toP (.lst ds) = some (.list ps) := by
    show (toPs ds).map PyData.list = _
    rw [a1]
    rfl
  have es : SeqAt.shaped (.list ps) = true := by
    unfold SeqAt.shaped
    show (PyData.canLayAll0 ps && decide (PyData.depthAll ps + 1 ≤ 64)) = true
    rw [a2, a5]
    exact decide_eq_true (by omega)
  rw [e]
  show (if (SeqAt.shaped (.list ps) && SeqAt.shaped (.list [])) = true then some (PyData.eqv (.list ps) (.list [])) else none) = _
  rw [es, show SeqAt.shaped (.list []) = true from rfl]
  cases ds with
  | nil =>
    cases a1
    rfl
  | cons d r =>
    cases ps with
    | nil =>
      have : toPs (d :: r) = ((toP d).bind fun p => (toPs r).map fun ps => p :: ps) := rfl
      rw [this] at a1
      cases q1 : toP d with
      | none => rw [q1] at a1; cases a1
      | some p =>
        cases q2 : toPs r with
        | none => rw [q1, q2] at a1; cases a1
        | some t => rw [q1, q2] at a1; cases a1
    | cons p t => rfl

/-! ### loops -/
theorem lcL_pure {f : D → Sto → R (Option D)} {g : D → Option D} {s : Sto} : ∀ {xs acc : List D}, (∀ x ∈ xs, f x s = .ok (g x) s) → acc.length + xs.length ≤ cap → lcL f xs acc s = .ok (acc.reverse ++ xs.filterMap g) s
  | [], acc, _, _ => by
    unfold lcL
    simp
  | x :: r, acc, h, hl => by
    unfold lcL
    rw [h x (List.mem_cons_self ..)]
    simp only [List.length_cons] at hl
    show (match g x with
      | some d => if Nat.blt acc.length cap then lcL f r (d :: acc) s else .bad
      | none => lcL f r acc s) = _
    cases hg : g x with
    | none =>
      simp only
      rw [lcL_pure (fun y hy => h y (List.mem_cons_of_mem _ hy)) (by omega), List.filterMap_cons, hg]
    | some d =>
      simp only
      rw [if_pos (by exact Nat.ble_eq.mpr (by omega)), lcL_pure (fun y hy => h y (List.mem_cons_of_mem _ hy)) (by simp only [List.length_cons]; omega), List.filterMap_cons, hg]
      simp
/-- turns that draw -/
theorem lcL_inv {f : D → Sto → R (Option D)} {I : Sto → Prop} {Pd : D → Prop} : ∀ {xs acc : List D} {s : Sto}, I s → (∀ x ∈ xs, ∀ s, I s → ∃ d s', f x s = .ok (some d) s' ∧ Pd d ∧ I s') → acc.length + xs.length ≤ cap →
    ∃ ds s', lcL f xs acc s = .ok (acc.reverse ++ ds) s' ∧ ds.length = xs.length ∧ (∀ d ∈ ds, Pd d) ∧ I s'
  | [], acc, s, hI, _, _ => ⟨[], s, by unfold lcL; simp, rfl, fun d h => (by cases h), hI⟩
  | x :: r, acc, s, hI, h, hl => by
    obtain ⟨d, s1, h1, h2, h3⟩ := h x (List.mem_cons_self ..) s hI
    simp only [List.length_cons] at hl
    obtain ⟨ds, s2, k1, k2, k3, k4⟩ := lcL_inv (acc := d :: acc) h3 (fun y hy => h y (List.mem_cons_of_mem _ hy)) (by simp only [List.length_cons]; omega)
    refine ⟨d :: ds, s2, ?_, by simp [k2], fun e he => ?_, k4⟩
    · unfold lcL
      rw [h1]
      show (if Nat.blt acc.length cap = true then lcL f r (d :: acc) s1 else .bad) = _
      rw [if_pos (by exact Nat.ble_eq.mpr (by omega)), k1]
      simp
    · rcases List.mem_cons.mp he with rfl | he
      · exact h2
      · exact k3 e he
theorem forL_acc {f : D → Env → Sto → SR} {g : D → List D} {I : List D → Env → Sto → Prop} : ∀ {xs acc : List D} {env : Env} {s : Sto}, (∀ x ∈ xs, ∀ acc env s, I acc env s → ∃ env' s', f x env s = .nx env' s' ∧ I (acc ++ g x) env' s') → I acc env s →
    ∃ env' s', forL f xs env s = .nx env' s' ∧ I (acc ++ xs.flatMap g) env' s'
  | [], acc, env, s, _, hI => ⟨env, s, rfl, by simpa using hI⟩
  | x :: r, acc, env, s, h, hI => by
    obtain ⟨env1, s1, h1, h2⟩ := h x (List.mem_cons_self ..) acc env s hI
    obtain ⟨env2, s2, k1, k2⟩ := forL_acc (fun y hy => h y (List.mem_cons_of_mem _ hy)) h2
    refine ⟨env2, s2, ?_, ?_⟩
    · unfold forL
      rw [h1]
      exact k1
    · rw [List.flatMap_cons, ← List.append_assoc]
      exact k2
theorem forL_inv {f : D → Env → Sto → SR} {I : Nat → Env → Sto → Prop} : ∀ {xs : List D} {j : Nat} {env : Env} {s : Sto}, (∀ (i : Nat) (x : D), xs[i]? = some x → ∀ env s, I (j + i) env s → ∃ env' s', f x env s = .nx env' s' ∧ I (j + i + 1) env' s') → I j env s →
    ∃ env' s', forL f xs env s = .nx env' s' ∧ I (j + xs.length) env' s'
  | [], j, env, s, _, hI => ⟨env, s, rfl, by simpa using hI⟩
  | x :: r, j, env, s, h, hI => by
    obtain ⟨env1, s1, h1, h2⟩ := h 0 x rfl env s hI
    obtain ⟨env2, s2, k1, k2⟩ := forL_inv (j := j + 1) (fun i y hy env s hi => by
      have := h (i + 1) y (by simpa using hy) env s (by rw [show j + (i + 1) = j + 1 + i by omega]; exact hi)
      rw [show j + (i + 1) = j + 1 + i by omega] at this
      exact this) h2
    refine ⟨env2, s2, ?_, ?_⟩
    · unfold forL
      rw [h1]
      exact k1
    · rw [List.length_cons, show j + (r.length + 1) = j + 1 + r.length by omega]
      exact k2
/-! ### defs -/
theorem run_at {F : List Fd} {k i : Nat} {f : Fd} {ds : List D} {th : Thk} {s : Sto} (hF : F[i]? = some f) (ha : f.act = false) (hs : f.shut = false) (hl : ds.length = f.par) : run F (k + 1) i ds th s = endF f.keep s.length (evSs (run F k) f.body (ds.map some ++ List.replicate (f.slots - f.par) none) s) := by
  unfold run
  rw [hF]
  simp only
  rw [if_neg (by rw [ha]; simp), if_neg (by rw [hs]; simp), if_pos (by rw [hl]; exact Nat.beq_refl _)]
/-- a sealed def, run at any store -/
theorem run_sh {F : List Fd} {k i : Nat} {f : Fd} {ds : List D} {d : D} {th : Thk} {s : Sto} (hF : F[i]? = some f) (ha : f.act = false) (hs : f.shut = true) (h : run F (k + 1) i ds noT [] = .ok d []) : run F (k + 1) i ds th s = .ok d s := by
  unfold run at h ⊢
  rw [hF] at h ⊢
  simp only at h ⊢
  rw [if_neg (by rw [ha]; simp), if_pos (by rw [hs])] at h ⊢
  by_cases hc : (Nat.beq ds.length f.par && cleanL 0 ds) = true
  · rw [if_pos hc] at h ⊢
    generalize endF false 0 _ = r at h ⊢
    unfold sealR at h ⊢
    split at h
    · cases h; rfl
    · cases h
    · cases h
  · rw [if_neg hc] at h
    cases h
/-- a clean store -/
def Cl (s : Sto) : Prop := cleanS s.length s = true
theorem fz_ok' {s e : Sto} {d : D} (h : Cl s) (hd : clean s.length d = true) : fz s.length (s ++ e) d = .ok d s := by
  unfold fz
  rw [List.take_left, if_pos (show cleanS s.length s = true from h)]
  cases d with
  | loc m =>
    simp only
    rw [if_pos (show Nat.blt m s.length = true from hd)]
  | _ =>
    simp only
    rw [if_pos hd]
theorem fz_same {s : Sto} {d : D} (h : Cl s) (hd : clean s.length d = true) : fz s.length s d = .ok d s := by
  have := fz_ok' (e := []) h hd
  rwa [List.append_nil] at this
theorem fz_lst {s : Sto} {ds : List D} (h : Cl s) (hd : cleanL s.length ds = true) : fz s.length (s ++ [.lst ds]) (.loc s.length) = .ok (.lst ds) s := by
  unfold fz
  rw [List.take_left, if_pos (show cleanS s.length s = true from h)]
  simp only
  rw [if_neg (by simp [Nat.blt]), List.getElem?_append_right (Nat.le_refl _), Nat.sub_self]
  simp only [List.getElem?_cons_zero]
  rw [if_pos hd]
theorem clean_ints (n : Nat) : ∀ t : List Int, cleanL n (t.map D.int) = true
  | [] => rfl
  | _ :: r => clean_ints n r
theorem smL_ints : ∀ t : List Int, (∀ i ∈ t, i.natAbs < 400) → smL (t.map D.int) = true
  | [], _ => rfl
  | i :: r, h => by
    show (decide (i.natAbs < 400) && smL (r.map D.int)) = true
    rw [smL_ints r fun j hj => h j (List.mem_cons_of_mem _ hj), decide_eq_true (h i (List.mem_cons_self ..))]
    rfl
theorem bkL_ints : ∀ t : List Int, bkL (t.map D.int) = t.length
  | [] => rfl
  | i :: r => by
    show 0 + 1 + bkL (r.map D.int) = r.length + 1
    rw [bkL_ints r]
    omega
theorem dpL_ints : ∀ t : List Int, dpL (t.map D.int) = 0
  | [] => rfl
  | i :: r => by
    show max 0 (dpL (r.map D.int)) = 0
    rw [dpL_ints r]
    rfl
theorem sumD_ints : ∀ t : List Int, sumD (t.map D.int) = some t.sum
  | [] => rfl
  | i :: r => by
    show (sumD (r.map D.int)).map (i + ·) = _
    rw [sumD_ints r]
    rfl
theorem intsOf_ints : ∀ t : List Int, intsOf (t.map D.int) = some t
  | [] => rfl
  | i :: r => by
    show (intsOf (r.map D.int)).map (i :: ·) = _
    rw [intsOf_ints r]
    rfl
theorem ixN_nat {n j : Nat} (h : j < n) : L2.ixN n (j : Int) = some j := by
  unfold L2.ixN
  rw [if_pos (by omega), if_pos (by omega)]
  rfl
theorem ixD_ints {t : List Int} {j : Nat} (h : j < t.length) : ixD (t.map D.int) (j : Int) = some (.int (t.getD j 0)) := by
  unfold ixD
  rw [ixN_nat (by simpa using h)]
  simp [List.getElem?_map, List.getElem?_eq_getElem h, List.getD_eq_getElem?_getD]
end T5
namespace T5
open PySem
section
variable {α β : Type} {a : α} {s : Sto} {env : Env}
theorem ok_bind {f : α → Sto → R β} : (R.ok a s).bind f = f a s := id rfl
theorem ok_thn {f : α → Sto → SR} : (R.ok a s).thn env f = f a s := id rfl
theorem nx_seq {f : Env → Sto → SR} : (SR.nx env s).seq f = f env s := id rfl
theorem rt_seq {d : D} {f : Env → Sto → SR} : (SR.rt d s).seq f = SR.rt d s := id rfl
theorem ok_calm : (R.ok a s).calm = R.ok a s := id rfl
theorem lift_some : lift (some a) s = R.ok a s := id rfl
theorem get0 {x : D} {l : List D} : (x :: l)[0]? = some x := id rfl
theorem rd_int {i : Int} : rd s (.int i) = .int i := id rfl
theorem rd_bl {b : Bool} : rd s (.bl b) = .bl b := id rfl
theorem rd_tup {l : List D} : rd s (.tup l) = .tup l := id rfl
theorem rd_lst {l : List D} : rd s (.lst l) = .lst l := id rfl
theorem rd_rep {d : D} : rd s (.rep d) = .rep d := id rfl
theorem rd_scr {l : List D} : rd s (.scr l) = .scr l := id rfl
theorem seqO_lst {l : List D} : seqOf (.lst l) = some l := id rfl
theorem seqO_tup {l : List D} : seqOf (.tup l) = some l := id rfl
theorem setTg1 {i : Nat} {d : D} : setTg env [i] d = some (env.set i (some d)) := id rfl
theorem bAdd {i j : Int} : binD .add (.int i) (.int j) = some (.int (i + j)) := id rfl
theorem bSub {i j : Int} : binD .sub (.int i) (.int j) = some (.int (i - j)) := id rfl
theorem bMod {i j : Int} (h : 0 < j) : binD .mod (.int i) (.int j) = some (.int (i % j)) := by
  show (if decide (0 < j) = true then some (D.int (i % j)) else none) = _
  rw [decide_eq_true h]
  rfl
theorem bDiv {i j : Int} (h : 0 < j) (h2 : j < 1073741824) : binD .fdiv (.int i) (.int j) = some (.int (i / j)) := by
  show (if (decide (0 < j) && decide (j < 1073741824)) = true then some (D.int (i / j)) else none) = _
  rw [decide_eq_true h, decide_eq_true h2]
  rfl
theorem bMul {i j : Int} (h : -(2 ^ 64) < i ∧ i < 2 ^ 64 ∨ -(2 ^ 64) < j ∧ j < 2 ^ 64) : binD .mul (.int i) (.int j) = some (.int (i * j)) := by
  show (if (big64 i || big64 j) = true then some (D.int (i * j)) else none) = _
  unfold big64
  rcases h with ⟨h1, h2⟩ | ⟨h1, h2⟩
  · rw [decide_eq_true h1, decide_eq_true h2]
    rfl
  · rw [decide_eq_true h1, decide_eq_true h2]
    simp
theorem cLt {i j : Int} : cmpD .lt (.int i) (.int j) = some (decide (i < j)) := id rfl
theorem cLe {i j : Int} : cmpD .le (.int i) (.int j) = some (decide (i ≤ j)) := id rfl
theorem cGt {i j : Int} : cmpD .gt (.int i) (.int j) = some (decide (j < i)) := id rfl
theorem cGe {i j : Int} : cmpD .ge (.int i) (.int j) = some (decide (j ≤ i)) := id rfl
theorem cEq {i j : Int} : cmpD .eq (.int i) (.int j) = some (i == j) := id rfl
theorem cNe {i j : Int} : cmpD .ne (.int i) (.int j) = some (!(i == j)) := id rfl
theorem lenT {l : List D} : biD .len [.tup l] = some (.int l.length) := id rfl
theorem lenL {l : List D} : biD .len [.lst l] = some (.int l.length) := id rfl
theorem bInt {i : Int} : biD .int [.int i] = some (.int i) := id rfl
theorem getT {l : List D} {i : D} : T5.getD s (.tup l) i = idxD (.tup l) i := id rfl
theorem getLs {l : List D} {i : D} : T5.getD s (.lst l) i = idxD (.lst l) i := id rfl
theorem idT {l : List D} {i : Int} : idxD (.tup l) (.int i) = ixD l i := id rfl
theorem idL {l : List D} {i : Int} : idxD (.lst l) (.int i) = ixD l i := id rfl
theorem endRt {b : Bool} {n : Nat} {d : D} : endF b n (.rt d s) = if b then .ok d s else fz n s d := id rfl
theorem omap {x : α} {f : α → β} : Option.map f (some x) = some (f x) := id rfl
end
end T5
namespace T5
open PySem
theorem end_int {s : Sto} {i : Int} (h : Cl s) : endF false s.length (.rt (.int i) s) = .ok (.int i) s := fz_same (d := .int i) h rfl
theorem end_bl {s : Sto} {b : Bool} (h : Cl s) : endF false s.length (.rt (.bl b) s) = .ok (.bl b) s := fz_same (d := .bl b) h rfl
theorem end_ext {s e : Sto} {d : D} (h : Cl s) (hd : clean s.length d = true) : endF false s.length (.rt d (s ++ e)) = .ok d s := fz_ok' h hd
theorem end_sm {s : Sto} {d : D} (h : Cl s) (hd : clean s.length d = true) : endF false s.length (.rt d s) = .ok d s := fz_same h hd
end T5
namespace T5
open PySem
/-- a loop that gathers, no more than c a turn -/
theorem forL_gat {f : D → Env → Sto → SR} {g : D → List D} {I : List D → Env → Sto → Prop} {c M : Nat} : ∀ {xs acc : List D} {env : Env} {s : Sto}, (∀ x ∈ xs, ∀ acc env s, acc.length + c ≤ M → I acc env s → ∃ env' s', f x env s = .nx env' s' ∧ I (acc ++ g x) env' s') → (∀ x ∈ xs, (g x).length ≤ c) →
    acc.length + c * xs.length ≤ M → I acc env s → ∃ env' s', forL f xs env s = .nx env' s' ∧ I (acc ++ xs.flatMap g) env' s'
  | [], acc, env, s, _, _, _, hI => ⟨env, s, rfl, by simpa using hI⟩
  | x :: r, acc, env, s, h, hg, hl, hI => by
    have e : c * (x :: r).length = c * r.length + c := by rw [List.length_cons, Nat.mul_succ]
    rw [e] at hl
    obtain ⟨env1, s1, h1, h2⟩ := h x (List.mem_cons_self ..) acc env s (by omega) hI
    have := hg x (List.mem_cons_self ..)
    obtain ⟨env2, s2, k1, k2⟩ := forL_gat (fun y hy => h y (List.mem_cons_of_mem _ hy)) (fun y hy => hg y (List.mem_cons_of_mem _ hy)) (by rw [List.length_append]; omega) h2
    refine ⟨env2, s2, ?_, ?_⟩
    · unfold forL
      rw [h1]
      exact k1
    · rw [List.flatMap_cons, ← List.append_assoc]
      exact k2
mutual
theorem clean_mono {n m : Nat} (h : n ≤ m) : ∀ d : D, clean n d = true → clean m d = true
  | .non, _ => rfl
  | .bl _, _ => rfl
  | .int _, _ => rfl
  | .str _, _ => rfl
  | .rep d, e => clean_mono h d e
  | .tup ds, e => cleanL_mono h ds e
  | .lst ds, e => cleanL_mono h ds e
  | .scr ds, e => cleanL_mono h ds e
  | .kt ds, e => cleanL_mono h ds e
  | .loc k, e => by
    have : k < n := Nat.ble_eq.mp e
    exact Nat.ble_eq.mpr (by omega)
  | .fn _, _ => rfl
  | .ty _, _ => rfl
  | .pin _, _ => rfl
theorem cleanL_mono {n m : Nat} (h : n ≤ m) : ∀ ds : List D, cleanL n ds = true → cleanL m ds = true
  | [], _ => rfl
  | d :: r, e => by
    obtain ⟨e1, e2⟩ := Bool.and_eq_true_iff.mp (show (clean n d && cleanL n r) = true from e)
    show (clean m d && cleanL m r) = true
    rw [clean_mono h d e1, cleanL_mono h r e2]
    rfl
end
theorem cleanKv_mono {n m : Nat} (h : n ≤ m) : ∀ l : List (L2.Key × D), cleanKv n l = true → cleanKv m l = true
  | [], _ => rfl
  | p :: r, e => by
    obtain ⟨e1, e2⟩ := Bool.and_eq_true_iff.mp (show (clean n p.2 && cleanKv n r) = true from e)
    show (clean m p.2 && cleanKv m r) = true
    rw [clean_mono h _ e1, cleanKv_mono h r e2]
    rfl
theorem cleanO_mono {n m : Nat} (h : n ≤ m) : ∀ o : SO, cleanO n o = true → cleanO m o = true
  | .lst ds, e => cleanL_mono h ds e
  | .dic l, e => cleanKv_mono h l e
theorem cleanS_mono {n m : Nat} (h : n ≤ m) : ∀ l : List SO, cleanS n l = true → cleanS m l = true
  | [], _ => rfl
  | p :: r, e => by
    obtain ⟨e1, e2⟩ := Bool.and_eq_true_iff.mp (show (cleanO n p && cleanS n r) = true from e)
    show (cleanO m p && cleanS m r) = true
    rw [cleanO_mono h _ e1, cleanS_mono h r e2]
    rfl
theorem cleanS_app {n : Nat} : ∀ {a b : List SO}, cleanS n a = true → cleanS n b = true → cleanS n (a ++ b) = true
  | [], _, _, h => h
  | p :: r, b, e, h => by
    obtain ⟨e1, e2⟩ := Bool.and_eq_true_iff.mp (show (cleanO n p && cleanS n r) = true from e)
    show (cleanO n p && cleanS n (r ++ b)) = true
    rw [e1, cleanS_app e2 h]
    rfl
theorem Cl.lst {s : Sto} {ds : List D} (h : Cl s) (hd : cleanL s.length ds = true) : Cl (s ++ [.lst ds]) := by
  unfold Cl
  rw [List.length_append, List.length_singleton]
  refine cleanS_app (cleanS_mono (by omega) s h) ?_
  show (cleanL (s.length + 1) ds && true) = true
  rw [cleanL_mono (by omega) ds hd]
  rfl
theorem clean_prs (n : Nat) : ∀ ps : List (Int × Int), cleanL n (ps.map ofP) = true
  | [] => rfl
  | _ :: r => clean_prs n r
theorem get_end {s : Sto} {o : SO} : (s ++ [o])[s.length]? = some o := by
  rw [List.getElem?_append_right (Nat.le_refl _), Nat.sub_self]
  rfl
theorem isLL_end {s : Sto} {ds : List D} : isLL (s ++ [.lst ds]) (.loc s.length) = true := by
  unfold isLL
  simp only
  rw [get_end]
theorem rd_end {s : Sto} {ds : List D} : rd (s ++ [.lst ds]) (.loc s.length) = .lst ds := by
  unfold rd
  simp only
  rw [get_end]
theorem set_end {s : Sto} {o o' : SO} : (s ++ [o]).set s.length o' = s ++ [o'] := by
  induction s with
  | nil => rfl
  | cons a r ih => exact congrArg _ ih
theorem app_end {s : Sto} {ds : List D} {v : D} (h : ds.length < cap) : appD (s ++ [.lst ds]) (.loc s.length) v = some (s ++ [.lst (ds ++ [v])]) := by
  unfold appD
  simp only
  rw [get_end]
  simp only
  rw [if_pos (show Nat.blt ds.length cap = true from Nat.ble_eq.mpr h), set_end]
theorem rt_thn {α : Type} {env : Env} {s : Sto} {a : α} {f : α → Sto → SR} : (R.ok a s).thn env f = f a s := id rfl
theorem tupL {l : List D} : biD .tuple [.lst l] = some (.tup l) := id rfl
theorem par2 {env : Env} {i j : Nat} {a b : D} : setAll env [i, j] [a, b] = some ((env.set i (some a)).set j (some b)) := id rfl
theorem par3 {env : Env} {i j k : Nat} {a b c : D} : setAll env [i, j, k] [a, b, c] = some (((env.set i (some a)).set j (some b)).set k (some c)) := id rfl
end T5
namespace T5
theorem cap0 : Nat.ble 0 cap = true := Nat.ble_eq.mpr (by unfold cap; omega)
theorem cap1 : Nat.ble 1 cap = true := Nat.ble_eq.mpr (by unfold cap; omega)
theorem cap2 : Nat.ble 2 cap = true := Nat.ble_eq.mpr (by unfold cap; omega)
theorem cap3 : Nat.ble 3 cap = true := Nat.ble_eq.mpr (by unfold cap; omega)
end T5

set_option Elab.async false
set_option linter.all false
set_option maxRecDepth 100000
set_option maxHeartbeats 2000000
/-! T5: the laws' feed. -/
namespace T5
open PySem
theorem toPs_ints : ∀ t : List Int, toPs (t.map D.int) = some (t.map PyData.int)
  | [] => rfl
  | i :: r => by
    show ((toP (.int i)).bind fun p => (toPs (r.map D.int)).map fun ps => p :: ps) = _
    rw [toPs_ints r]
    rfl
theorem lay_ints : ∀ t : List Int, PyData.canLayAll0 (t.map PyData.int) = true
  | [] => rfl
  | i :: r => by
    show (true && PyData.canLayAll0 (r.map PyData.int)) = true
    rw [lay_ints r]
    rfl
theorem dep_ints : ∀ t : List Int, PyData.depthAll (t.map PyData.int) = 0
  | [] => rfl
  | i :: r => by
    show max 0 (PyData.depthAll (r.map PyData.int)) = 0
    rw [dep_ints r]
    rfl
theorem eqq_nilI (t : List Int) : eqq (.lst (t.map .int)) (.lst []) = some t.isEmpty := by
  show ((toP (.lst (t.map .int))).bind fun p => (toP (.lst [])).bind fun q => if (SeqAt.shaped p && SeqAt.shaped q) = true then some (PyData.eqv p q) else none) = _
  have e : toP (.lst (t.map .int)) = some (.list (t.map PyData.int)) := by
    show (toPs (t.map .int)).map PyData.list = _
    rw [toPs_ints]
    rfl
  have es : SeqAt.shaped (.list (t.map PyData.int)) = true := by
    unfold SeqAt.shaped
    show (PyData.canLayAll0 (t.map PyData.int) && decide (PyData.depthAll (t.map PyData.int) + 1 ≤ 64)) = true
    rw [lay_ints, dep_ints]
    rfl
  rw [e]
  show (if (SeqAt.shaped (.list (t.map PyData.int)) && SeqAt.shaped (.list [])) = true then some (PyData.eqv (.list (t.map PyData.int)) (.list [])) else none) = _
  rw [es, show SeqAt.shaped (.list []) = true from rfl]
  cases t <;> rfl
theorem neNil (t : List Int) : cmpD .ne (.lst (t.map .int)) (.lst []) = some (!t.isEmpty) := by
  show (eqq (.lst (t.map .int)) (.lst [])).map (! ·) = _
  rw [eqq_nilI]
  rfl
/-- the feed: cells, at, left, count -/
def fe (cells : List Int) (a l c : Int) : SO := .dic [(.inr "cells", .lst (cells.map .int)), (.inr "at", .int a), (.inr "left", .int l), (.inr "count", .int c)]
theorem k1 : decide ((Sum.inr ("cells" : Str) : L2.Key) = Sum.inr ("at" : Str)) = false := by decide +kernel
theorem k2 : decide ((Sum.inr ("cells" : Str) : L2.Key) = Sum.inr ("left" : Str)) = false := by decide +kernel
theorem k3 : decide ((Sum.inr ("cells" : Str) : L2.Key) = Sum.inr ("count" : Str)) = false := by decide +kernel
theorem k4 : decide ((Sum.inr ("at" : Str) : L2.Key) = Sum.inr ("left" : Str)) = false := by decide +kernel
theorem k5 : decide ((Sum.inr ("at" : Str) : L2.Key) = Sum.inr ("count" : Str)) = false := by decide +kernel
theorem k6 : decide ((Sum.inr ("left" : Str) : L2.Key) = Sum.inr ("count" : Str)) = false := by decide +kernel
theorem k7 {x : L2.Key} : decide (x = x) = true := decide_eq_true rfl
section
variable {cells : List Int} {a l c v : Int} {r : Sto}
theorem fe_cells : T5.getD (fe cells a l c :: r) (.loc 0) (.str "cells") = some (.lst (cells.map .int)) := by
  show look (Sum.inr ("cells" : Str)) [(.inr "cells", .lst (cells.map .int)), (.inr "at", .int a), (.inr "left", .int l), (.inr "count", .int c)] = _
  simp only [look, k7, decide_true, if_true]
theorem fe_at : T5.getD (fe cells a l c :: r) (.loc 0) (.str "at") = some (.int a) := by
  show look (Sum.inr ("at" : Str)) [(.inr "cells", .lst (cells.map .int)), (.inr "at", .int a), (.inr "left", .int l), (.inr "count", .int c)] = _
  simp only [look, k1, k7, decide_true, if_true, Bool.false_eq_true, if_false]
theorem fe_left : T5.getD (fe cells a l c :: r) (.loc 0) (.str "left") = some (.int l) := by
  show look (Sum.inr ("left" : Str)) [(.inr "cells", .lst (cells.map .int)), (.inr "at", .int a), (.inr "left", .int l), (.inr "count", .int c)] = _
  simp only [look, k2, k4, k7, decide_true, if_true, Bool.false_eq_true, if_false]
theorem fe_count : T5.getD (fe cells a l c :: r) (.loc 0) (.str "count") = some (.int c) := by
  show look (Sum.inr ("count" : Str)) [(.inr "cells", .lst (cells.map .int)), (.inr "at", .int a), (.inr "left", .int l), (.inr "count", .int c)] = _
  simp only [look, k3, k5, k6, k7, decide_true, if_true, Bool.false_eq_true, if_false]
theorem four : Nat.blt 4 cap = true := Nat.ble_eq.mpr (by unfold cap; omega)
theorem set_at : T5.setD (fe cells a l c :: r) (.loc 0) (.str "at") (.int v) = some (fe cells v l c :: r) := by
  show (if Nat.blt 4 cap = true then some ((fe cells a l c :: r).set 0 (.dic (put (Sum.inr ("at" : Str)) (.int v) [(.inr "cells", .lst (cells.map .int)), (.inr "at", .int a), (.inr "left", .int l), (.inr "count", .int c)]))) else none) = _
  rw [if_pos four]
  simp only [put, k1, k7, decide_true, if_true, Bool.false_eq_true, if_false]
  rfl
theorem set_left : T5.setD (fe cells a l c :: r) (.loc 0) (.str "left") (.int v) = some (fe cells a v c :: r) := by
  show (if Nat.blt 4 cap = true then some ((fe cells a l c :: r).set 0 (.dic (put (Sum.inr ("left" : Str)) (.int v) [(.inr "cells", .lst (cells.map .int)), (.inr "at", .int a), (.inr "left", .int l), (.inr "count", .int c)]))) else none) = _
  rw [if_pos four]
  simp only [put, k2, k4, k7, decide_true, if_true, Bool.false_eq_true, if_false]
  rfl
theorem set_count : T5.setD (fe cells a l c :: r) (.loc 0) (.str "count") (.int v) = some (fe cells a l v :: r) := by
  show (if Nat.blt 4 cap = true then some ((fe cells a l c :: r).set 0 (.dic (put (Sum.inr ("count" : Str)) (.int v) [(.inr "cells", .lst (cells.map .int)), (.inr "at", .int a), (.inr "left", .int l), (.inr "count", .int c)]))) else none) = _
  rw [if_pos four]
  simp only [put, k3, k5, k6, k7, decide_true, if_true, Bool.false_eq_true, if_false]
  rfl
theorem cl_fe (h : cleanS (r.length + 1) r = true) : Cl (fe cells a l c :: r) := by
  unfold Cl
  show ((cleanL (r.length + 1) (cells.map .int) && true) && cleanS (r.length + 1) r) = true
  rw [clean_ints, h]
  rfl
theorem fe_new {xs : List Int} : List.foldl (fun m (p : L2.Key × D) => put p.1 p.2 m) [] (([Sum.inr ("cells" : Str), Sum.inr ("at" : Str), Sum.inr ("left" : Str), Sum.inr ("count" : Str)] : List L2.Key).zip [D.lst (xs.map .int), .int 0, .int 0, .int 0]) = [(.inr "cells", .lst (xs.map .int)), (.inr "at", .int 0), (.inr "left", .int 0), (.inr "count", .int 0)] := by
  simp only [List.zip_cons_cons, List.zip_nil_right, List.foldl_cons, List.foldl_nil, put, k1, k2, k3, k4, k5, k6, Bool.false_eq_true, if_false]
end
theorem pow18 : binD .pow (.int 10) (.int 18) = some (.int 1000000000000000000) := by
  show (if (decide ((0 : Int) ≤ 18) && decide ((18 : Int) ≤ 1000000) && big64 10) = true then some (D.int (10 ^ (18 : Int).toNat)) else none) = _
  rw [if_pos (by decide +kernel)]
  rfl
theorem cut_ints (t : List Int) (lo hi : Option Int) : ∃ u : List Int, cutD (t.map .int) lo hi = u.map .int := by
  unfold cutD
  rw [← List.map_drop, ← List.map_take]
  exact ⟨_, rfl⟩
end T5

set_option Elab.async false
set_option linter.all false
set_option maxRecDepth 100000
set_option maxHeartbeats 2000000
/-! T5: walking lemmas: sealed defs, statements one by one, comprehensions, loops. -/
namespace T5
open PySem
/-! ### sealed defs -/
section
variable {F : List Fd} {k i : Nat} {f : Fd} {ds : List D} {d : D} {th : Thk} {s e : Sto}
theorem run_seal (hF : F[i]? = some f) (ha : f.act = false) (hs : f.shut = true) (hl : ds.length = f.par) (hc : cleanL 0 ds = true) : run F (k + 1) i ds th s = sealR s (endF false 0 (evSs (run F k) f.body (ds.map some ++ List.replicate (f.slots - f.par) none) [])) := by
  rw [run, hF]
  simp only
  rw [if_neg (by rw [ha]; simp), if_pos hs, if_pos (by rw [hl, hc, Nat.beq_refl]; rfl)]
theorem seal_rt (hd : clean 0 d = true) : sealR s (endF false 0 (.rt d e)) = .ok d s := by
  have h : endF false 0 (.rt d e) = .ok d [] := by
    show fz 0 e d = _
    unfold fz
    rw [List.take_zero]
    rw [if_pos (by rfl)]
    cases d with
    | loc m => cases hd
    | _ =>
      simp only
      rw [if_pos hd]
  rw [h]
  rfl
theorem seal_nx {env : Env} : sealR s (endF false 0 (.nx env e)) = .ok .non s := by
  have h : endF false 0 (.nx env e) = .ok .non [] := by
    show fz 0 e .non = _
    unfold fz
    rw [List.take_zero, if_pos (by rfl)]
    rfl
  rw [h]
  rfl
theorem seal_err {c : Nat} {es : List D} {env : Env} (hd : cleanL 0 es = true) : sealR s (endF false 0 (.err c es env e)) = .err c es s := by
  have h : endF false 0 (.err c es env e) = .err c es [] := by
    show (if (cleanS 0 (e.take 0) && cleanL 0 es) = true then R.err c es (e.take 0) else .bad) = _
    rw [List.take_zero, hd]
    rfl
  rw [h]
  rfl
/-- a list made within is handed out frozen -/
theorem seal_lst {ds : List D} {n : Nat} (he : e[n]? = some (.lst ds)) (hd : cleanL 0 ds = true) : sealR s (endF false 0 (.rt (.loc n) e)) = .ok (.lst ds) s := by
  have h : endF false 0 (.rt (.loc n) e) = .ok (.lst ds) [] := by
    show fz 0 e (.loc n) = _
    unfold fz
    rw [List.take_zero, if_pos (by rfl)]
    simp only
    rw [if_neg (by simp [Nat.blt]), he]
    simp only
    rw [if_pos hd]
  rw [h]
  rfl
end
/-! ### statements, one by one -/
section
variable {cl : Calls} {env env1 : Env} {s s1 : Sto} {e c : CE} {cs t u b : CSs} {d : D}
theorem w_nil : evSs cl .nil env s = .nx env s := by rw [evSs]
theorem w_asg {i : Nat} (h : evE cl e env s = .ok d s1) : evSs cl (.cons (.asg [i] e) cs) env s = evSs cl cs (env.set i (some d)) s1 := by
  rw [evSs, evS, h]
  rfl
theorem w_asg2 {i j : Nat} {x y : D} (h : evE cl e env s = .ok (.tup [x, y]) s1) : evSs cl (.cons (.asg [i, j] e) cs) env s = evSs cl cs ((env.set i (some x)).set j (some y)) s1 := by
  rw [evSs, evS, h]
  rfl
theorem w_par {is : List Nat} {es : CEs} {ds : List D} (h : evEs cl es env s = .ok ds s1) (h2 : setAll env is ds = some env1) : evSs cl (.cons (.par is es) cs) env s = evSs cl cs env1 s1 := by
  rw [evSs, evS, h, ok_thn, h2]
  rfl
theorem w_expr (h : evE cl e env s = .ok d s1) : evSs cl (.cons (.expr e) cs) env s = evSs cl cs env s1 := by
  rw [evSs, evS, h]
  rfl
theorem w_expr_err {n : Nat} {ds : List D} (h : evE cl e env s = .err n ds s1) : evSs cl (.cons (.expr e) cs) env s = .err n ds env s1 := by
  rw [evSs, evS, h]
  rfl
theorem w_ret (h : evE cl e env s = .ok d s1) : evSs cl (.cons (.ret e) cs) env s = .rt d s1 := by
  rw [evSs, evS, h]
  rfl
theorem w_ret_err {n : Nat} {ds : List D} (h : evE cl e env s = .err n ds s1) : evSs cl (.cons (.ret e) cs) env s = .err n ds env s1 := by
  rw [evSs, evS, h]
  rfl
theorem w_rais {n : Nat} {es : CEs} {ds : List D} (h : evEs cl es env s = .ok ds s1) : evSs cl (.cons (.rais n es) cs) env s = .err n ds env s1 := by
  rw [evSs, evS, h]
  rfl
theorem w_if_t (h : evE cl c env s = .ok (.bl true) s1) : evSs cl (.cons (.iff c t u) cs) env s = (evSs cl t env s1).seq fun env1 s1 => evSs cl cs env1 s1 := by
  rw [evSs, evS, h]
  rfl
theorem w_if_f (h : evE cl c env s = .ok (.bl false) s1) : evSs cl (.cons (.iff c t u) cs) env s = (evSs cl u env s1).seq fun env1 s1 => evSs cl cs env1 s1 := by
  rw [evSs, evS, h]
  rfl
/-- if without else, not taken -/
theorem w_skip (h : evE cl c env s = .ok (.bl false) s1) : evSs cl (.cons (.iff c t .nil) cs) env s = evSs cl cs env s1 := by
  rw [w_if_f h, w_nil]
  rfl
/-- if whose branch returns -/
theorem w_if_rt {s2 : Sto} (h : evE cl c env s = .ok (.bl true) s1) (h2 : evSs cl t env s1 = .rt d s2) : evSs cl (.cons (.iff c t u) cs) env s = .rt d s2 := by
  rw [w_if_t h, h2]
  rfl
theorem w_if_nx {s2 : Sto} (h : evE cl c env s = .ok (.bl true) s1) (h2 : evSs cl t env s1 = .nx env1 s2) : evSs cl (.cons (.iff c t u) cs) env s = evSs cl cs env1 s2 := by
  rw [w_if_t h, h2]
  rfl
theorem w_setI {a i : CE} {x y v : D} {s2 s3 s4 : Sto} (h1 : evE cl e env s = .ok v s1) (h2 : evE cl a env s1 = .ok x s2) (h3 : evE cl i env s2 = .ok y s3) (h4 : setD s3 x y v = some s4) : evSs cl (.cons (.setI a i e) cs) env s = evSs cl cs env s4 := by
  rw [evSs, evS, h1, ok_thn, h2, ok_thn, h3, ok_thn, h4]
  rfl
theorem w_app {a : CE} {x v : D} {s2 s3 : Sto} (h1 : evE cl a env s = .ok x s1) (h2 : isLL s1 x = true) (h3 : evE cl e env s1 = .ok v s2) (h4 : appD s2 x v = some s3) : evSs cl (.cons (.app a e) cs) env s = evSs cl cs env s3 := by
  rw [evSs, evS, h1, ok_thn, if_pos h2, h3, ok_thn, h4]
  rfl
theorem w_swp {a i b j : CE} {v1 v2 x y x2 y2 : D} {s2 s3 s4 s5 s6 s7 : Sto} (h1 : evE cl e env s = .ok (.tup [v1, v2]) s1) (h2 : evE cl a env s1 = .ok x s2) (h3 : evE cl i env s2 = .ok y s3) (h4 : setL s3 x y v1 = some s4)
    (h5 : evE cl b env s4 = .ok x2 s5) (h6 : evE cl j env s5 = .ok y2 s6) (h7 : setL s6 x2 y2 v2 = some s7) : evSs cl (.cons (.swp e a i b j) cs) env s = evSs cl cs env s7 := by
  rw [evSs, evS, h1, ok_thn]
  simp only
  rw [h2, ok_thn, h3, ok_thn, h4]
  simp only
  rw [h5, ok_thn, h6, ok_thn, h7]
  rfl
/-- a loop, by an invariant over its turns -/
theorem w_loop {tg : List Nat} {it : CE} {x : D} {xs : List D} {I : Nat → Env → Sto → Prop} {P : SR → Prop} (h : evE cl it env s = .ok x s1) (hx : seqOf x = some xs) (h0 : I 0 env s1)
    (turn : ∀ (i : Nat) (y : D), xs[i]? = some y → ∀ env s, I i env s → ∃ env2 env' s', setTg env tg y = some env2 ∧ evSs cl b env2 s = .nx env' s' ∧ I (i + 1) env' s')
    (done : ∀ env s, I xs.length env s → P (evSs cl cs env s)) : P (evSs cl (.cons (.loop tg it b) cs) env s) := by
  rw [evSs, evS, h, ok_thn, hx]
  simp only
  obtain ⟨env', s', h1, h2⟩ := forL_inv (f := fun y env1 s2 => (match setTg env1 tg y with
      | some env2 => evSs cl b env2 s2
      | none => .bad)) (xs := xs) (j := 0) (I := I) (env := env) (s := s1) (fun i y hy env s hi => by
    rw [Nat.zero_add] at hi ⊢
    obtain ⟨env2, env', s', k1, k2, k3⟩ := turn i y hy env s hi
    refine ⟨env', s', ?_, k3⟩
    rw [k1]
    exact k2) h0
  rw [Nat.zero_add] at h2
  have key : ∀ r : SR, r = .nx env' s' → P (r.seq fun env1 s1 => evSs cl cs env1 s1) := fun r hr => by
    rw [hr, nx_seq]
    exact done env' s' h2
  exact key _ h1
/-- a comprehension without a test, of pure terms -/
theorem w_lc {own tg : List Nat} {it : CE} {x : D} {xs : List D} {g : D → D} (h : evE cl it env s = .ok x s1) (hx : seqOf x = some xs) (hl : xs.length ≤ cap)
    (turn : ∀ y ∈ xs, ∃ env2, setTg (wipeE env own) tg y = some env2 ∧ evE cl e env2 s1 = .ok (g y) s1) : evE cl (.lc own tg e it (.con (.bl true))) env s = .ok (.lst (xs.map g)) s1 := by
  rw [evE, h, ok_bind, hx]
  simp only
  refine congrArg (fun z : R (List D) => z.calm.bind fun ds s5 => R.ok (D.lst ds) s5) (a₂ := R.ok (xs.map g) s1) ?_
  rw [lcL_pure (g := fun y => some (g y)) (fun y hy => ?_) (by simpa using hl)]
  · congr 1
    simp [List.filterMap_eq_map']
  · obtain ⟨env2, k1, k2⟩ := turn y hy
    rw [k1]
    simp only
    rw [evE, ok_bind]
    simp only
    rw [k2]
    rfl
/-- a comprehension with a test -/
theorem w_lcf {own tg : List Nat} {it : CE} {x : D} {xs : List D} {p : D → Bool} {g : D → D} (h : evE cl it env s = .ok x s1) (hx : seqOf x = some xs) (hl : xs.length ≤ cap)
    (turn : ∀ y ∈ xs, ∃ env2, setTg (wipeE env own) tg y = some env2 ∧ evE cl c env2 s1 = .ok (.bl (p y)) s1 ∧ (p y = true → evE cl e env2 s1 = .ok (g y) s1)) : evE cl (.lc own tg e it c) env s = .ok (.lst ((xs.filter p).map g)) s1 := by
  rw [evE, h, ok_bind, hx]
  simp only
  refine congrArg (fun z : R (List D) => z.calm.bind fun ds s5 => R.ok (D.lst ds) s5) (a₂ := R.ok ((xs.filter p).map g) s1) ?_
  rw [lcL_pure (g := fun y => if p y then some (g y) else none) (fun y hy => ?_) (by simpa using hl)]
  · congr 1
    rw [List.reverse_nil, List.nil_append]
    clear turn hx hl
    induction xs with
    | nil => rfl
    | cons y r ih =>
      cases q : p y
      · simp [List.filterMap_cons, List.filter_cons, q, ih]
      · simp [List.filterMap_cons, List.filter_cons, q, ih]
  · obtain ⟨env2, k1, k2, k3⟩ := turn y hy
    rw [k1]
    simp only
    rw [k2, ok_bind]
    cases q : p y
    · simp only [Bool.false_eq_true, if_false]
    · simp only [if_true]
      rw [k3 q]
      rfl
end
/-! ### small facts -/
theorem okRn {n : Nat} (h : n ≤ 100000) : okR (n : Int) = true := by
  unfold okR
  rw [decide_eq_true (by omega), decide_eq_true (by omega)]
  rfl
theorem lrn {n : Nat} (h : n ≤ 100000) : (decide ((n : Int) ≤ 100000) && decide ((-100000 : Int) ≤ (n : Int))) = true := by
  rw [decide_eq_true (by omega), decide_eq_true (by omega)]
  rfl
theorem range_map {n : Nat} : rangeD 0 n = (List.range n).map fun (i : Nat) => D.int (i : Int) := by
  unfold rangeD
  simp only [Int.zero_add]
theorem rangeD_len {a : Int} {n : Nat} : (rangeD a n).length = n := by
  unfold rangeD
  simp
theorem mem_range0 {n : Nat} {y : D} (h : y ∈ rangeD 0 n) : ∃ i : Nat, i < n ∧ y = .int (i : Int) := by
  rw [range_map] at h
  obtain ⟨i, hi, rfl⟩ := List.mem_map.mp h
  exact ⟨i, List.mem_range.mp hi, rfl⟩
theorem range0_at {n i : Nat} {y : D} (h : (rangeD 0 n)[i]? = some y) : i < n ∧ y = .int (i : Int) := by
  rw [range_map, List.getElem?_map] at h
  cases hi : (List.range n)[i]? with
  | none => rw [hi] at h; cases h
  | some j =>
    rw [hi] at h
    obtain ⟨q, e⟩ := List.getElem?_eq_some_iff.mp hi
    rw [List.getElem_range] at e
    subst e
    cases h
    exact ⟨by simpa using q, rfl⟩
theorem cut_take {w : List Int} {v : Nat} (h : v ≤ w.length) : cutD (w.map .int) none (some (v : Int)) = (w.take v).map .int := by
  unfold cutD
  rw [HT.sIx_nat, List.length_map, Nat.min_eq_left h]
  simp [HT.sIx]
theorem cut_drop {w : List Int} {v : Nat} (h : v ≤ w.length) : cutD (w.map .int) (some (v : Int)) none = (w.drop v).map .int := by
  unfold cutD
  rw [HT.sIx_nat, List.length_map, Nat.min_eq_left h]
  simp only [HT.sIx]
  rw [← List.map_drop, List.take_of_length_le (by simp)]
theorem setTg2 {env : Env} {i j : Nat} {a b : D} : setTg env [i, j] (.tup [a, b]) = some ((env.set i (some a)).set j (some b)) := id rfl
theorem partN : partD .non = some none := id rfl
theorem partI {i : Int} : partD (.int i) = some (some i) := id rfl
theorem slcL {l h : Option Int} {ds : List D} : slcD l h (.lst ds) = some (.lst (cutD ds l h)) := id rfl
theorem slcT {l h : Option Int} {ds : List D} : slcD l h (.tup ds) = some (.tup (cutD ds l h)) := id rfl
theorem addL {a b : List D} (h : a.length + b.length ≤ cap) : binD .add (.lst a) (.lst b) = some (.lst (a ++ b)) := by
  show (if Nat.ble (a.length + b.length) cap = true then some (D.lst (a ++ b)) else none) = _
  rw [if_pos (Nat.ble_eq.mpr h)]
theorem prs_ofP : ∀ ps : List (Int × Int), prs (ps.map ofP) = some ps
  | [] => rfl
  | p :: r => by
    show (prs (r.map ofP)).map ((p.1, p.2) :: ·) = _
    rw [prs_ofP r]
    rfl
theorem srt_ofP (ps : List (Int × Int)) : srtD (ps.map ofP) = some (.lst ((srtP ps).map ofP)) := by
  cases ps with
  | nil => rfl
  | cons p r =>
    show (match intsOf ((p :: r).map ofP) with
      | some ns => some (D.lst ((srtI ns).map ofI))
      | none => (match prs ((p :: r).map ofP) with
        | some ps => some (D.lst ((srtP ps).map ofP))
        | none => _)) = _
    rw [show intsOf ((p :: r).map ofP) = none from rfl, prs_ofP]
theorem sorted_ofP (ps : List (Int × Int)) : biD .sorted [.lst (ps.map ofP)] = some (.lst ((srtP ps).map ofP)) := srt_ofP ps
theorem clean_ofP : ∀ ps : List (Int × Int), cleanL 0 (ps.map ofP) = true
  | [] => rfl
  | _ :: r => clean_ofP r
/-! ### over range(n) -/
section
variable {cl : Calls} {env : Env} {s s1 : Sto} {e c it : CE} {cs b : CSs}
theorem w_lcr {own : List Nat} {y n : Nat} {g : Nat → D} (h : evE cl it env s = .ok (.lst (rangeD 0 n)) s1) (hl : n ≤ cap)
    (turn : ∀ i : Nat, i < n → evE cl e ((wipeE env own).set y (some (.int (i : Int)))) s1 = .ok (g i) s1) : evE cl (.lc own [y] e it (.con (.bl true))) env s = .ok (.lst ((List.range n).map g)) s1 := by
  have q := w_lc (own := own) (tg := [y]) (e := e) (g := fun d => match d with | .int i => g i.toNat | _ => .non) h seqO_lst (by rw [rangeD_len]; exact hl) fun d hd => by
    obtain ⟨i, hi, rfl⟩ := mem_range0 hd
    exact ⟨_, setTg1, turn i hi⟩
  rw [q, range_map, List.map_map]
  rfl
theorem w_lcrf {own : List Nat} {y n : Nat} {p : Nat → Bool} {g : Nat → D} (h : evE cl it env s = .ok (.lst (rangeD 0 n)) s1) (hl : n ≤ cap)
    (turn : ∀ i : Nat, i < n → evE cl c ((wipeE env own).set y (some (.int (i : Int)))) s1 = .ok (.bl (p i)) s1 ∧ (p i = true → evE cl e ((wipeE env own).set y (some (.int (i : Int)))) s1 = .ok (g i) s1)) : evE cl (.lc own [y] e it c) env s = .ok (.lst (((List.range n).filter p).map g)) s1 := by
  have q := w_lcf (own := own) (tg := [y]) (e := e) (p := fun d => match d with | .int i => p i.toNat | _ => false) (g := fun d => match d with | .int i => g i.toNat | _ => .non) h seqO_lst (by rw [rangeD_len]; exact hl) fun d hd => by
    obtain ⟨i, hi, rfl⟩ := mem_range0 hd
    exact ⟨_, setTg1, (turn i hi).1, (turn i hi).2⟩
  rw [q, range_map, List.filter_map, List.map_map]
  rfl
theorem w_loopr {y n : Nat} {I : Nat → Env → Sto → Prop} {P : SR → Prop} (h : evE cl it env s = .ok (.lst (rangeD 0 n)) s1) (h0 : I 0 env s1)
    (turn : ∀ i : Nat, i < n → ∀ env s, I i env s → ∃ env' s', evSs cl b (env.set y (some (.int (i : Int)))) s = .nx env' s' ∧ I (i + 1) env' s')
    (done : ∀ env s, I n env s → P (evSs cl cs env s)) : P (evSs cl (.cons (.loop [y] it b) cs) env s) := by
  refine w_loop (I := I) h seqO_lst h0 (fun i d hd env s hi => ?_) fun env s hi => ?_
  · obtain ⟨hi', rfl⟩ := range0_at hd
    obtain ⟨env', s', k1, k2⟩ := turn i hi' env s hi
    exact ⟨_, env', s', setTg1, k1, k2⟩
  · rw [rangeD_len] at hi
    exact done env s hi
theorem w_call1 {f : Nat} {d : D} {r : R D} (h : evE cl e env s = .ok d s1) (h2 : cl f [d] noT s1 = r) : evE cl (.call f [.inl 0] (.cons e .nil) .nil) env s = r := by
  rw [evE, evEs, h]
  simp only [evEs, ok_bind]
  exact h2
theorem w_call2 {f : Nat} {e2 : CE} {d d2 : D} {s2 : Sto} {r : R D} (h : evE cl e env s = .ok d s1) (h1 : evE cl e2 env s1 = .ok d2 s2) (h2 : cl f [d, d2] noT s2 = r) : evE cl (.call f [.inl 0, .inl 1] (.cons e (.cons e2 .nil)) .nil) env s = r := by
  rw [evE, evEs, h]
  simp only [evEs, ok_bind, h1]
  exact h2
theorem bi1 {b : Bi} {d : D} (h : evE cl e env s = .ok d s1) : evE cl (.bi b (.cons e .nil)) env s = lift (biD b [rd s1 d]) s1 := by
  rw [evE, evEs, h]
  simp only [evEs, ok_bind, List.map_cons, List.map_nil]
end
theorem set_ix {t : List Int} {k : Nat} {r : Sto} {x : Int} {n : Nat} (hk : k < t.length) (hn : r[n]? = some (.lst (t.map .int))) : setD r (.loc n) (.int (k : Int)) (.int x) = some (r.set n (.lst ((t.set k x).map .int))) := by
  unfold setD
  simp only
  rw [hn]
  simp only
  rw [List.length_map, ixN_nat hk]
  simp only [Option.map_some, List.map_set]
end T5

set_option Elab.async false
set_option linter.all false
set_option maxRecDepth 100000
set_option maxHeartbeats 2000000
/-! T5: walking lemmas for tuples of whole numbers; sealed defs in one step. -/
namespace T5
open PySem
abbrev I (t : List Int) : D := .tup (t.map .int)
theorem ccI (t : List Int) (n : Nat := 0) : clean n (I t) = true := clean_ints n t
theorem cc1 {d : D} (h : clean 0 d = true) : cleanL 0 [d] = true := by
  show (clean 0 d && true) = true
  rw [h]
  rfl
theorem c2 {d e : D} (h : clean 0 d = true) (h2 : clean 0 e = true) : cleanL 0 [d, e] = true := by
  show (clean 0 d && (clean 0 e && true)) = true
  rw [h, h2]
  rfl
theorem c3 {d e f : D} (h : clean 0 d = true) (h2 : clean 0 e = true) (h3 : clean 0 f = true) : cleanL 0 [d, e, f] = true := by
  show (clean 0 d && (clean 0 e && (clean 0 f && true))) = true
  rw [h, h2, h3]
  rfl
theorem listT {l : List D} : biD .list [.tup l] = some (.lst l) := id rfl
theorem rd0 {l : List D} {r : Sto} : rd (SO.lst l :: r) (.loc 0) = .lst l := id rfl
section
variable {F : List Fd} {k i : Nat} {f : Fd} {ds : List D} {d : D} {th : Thk} {s e : Sto}
theorem sld {env0 : Env} (hF : F[i]? = some f) (ha : f.act = false) (hs : f.shut = true) (hl : ds.length = f.par) (hc : cleanL 0 ds = true) (hE : ds.map some ++ List.replicate (f.slots - f.par) none = env0) (h : evSs (run F k) f.body env0 [] = .rt d e) (hd : clean 0 d = true) : run F (k + 1) i ds th s = .ok d s := by
  rw [run_seal hF ha hs hl hc, hE, h]
  exact seal_rt hd
theorem sldn {env0 env : Env} (hF : F[i]? = some f) (ha : f.act = false) (hs : f.shut = true) (hl : ds.length = f.par) (hc : cleanL 0 ds = true) (hE : ds.map some ++ List.replicate (f.slots - f.par) none = env0) (h : evSs (run F k) f.body env0 [] = .nx env e) : run F (k + 1) i ds th s = .ok .non s := by
  rw [run_seal hF ha hs hl hc, hE, h]
  exact seal_nx
theorem slde {c : Nat} {es : List D} {env0 env : Env} (hF : F[i]? = some f) (ha : f.act = false) (hs : f.shut = true) (hl : ds.length = f.par) (hc : cleanL 0 ds = true) (hE : ds.map some ++ List.replicate (f.slots - f.par) none = env0) (h : evSs (run F k) f.body env0 [] = .err c es env e) (hd : cleanL 0 es = true) : run F (k + 1) i ds th s = .err c es s := by
  rw [run_seal hF ha hs hl hc, hE, h]
  exact seal_err hd
end
/-! ### enumerate -/
theorem enum_at : ∀ (ds : List D) (j i : Nat), (enumL j ds)[i]? = (ds[i]?).map fun d => .tup [.int ((j + i : Nat) : Int), d]
  | [], j, i => by simp [enumL]
  | d :: r, j, 0 => by simp [enumL]
  | d :: r, j, i + 1 => by
    show (enumL (j + 1) r)[i]? = _
    rw [enum_at r (j + 1) i, List.getElem?_cons_succ, show j + 1 + i = j + (i + 1) by omega]
theorem enum_len : ∀ (ds : List D) (j : Nat), (enumL j ds).length = ds.length
  | [], _ => rfl
  | d :: r, j => by
    show (enumL (j + 1) r).length + 1 = _
    rw [enum_len r (j + 1)]
    rfl
theorem enum_ints (t : List Int) : enumL 0 (t.map .int) = (List.range t.length).map fun (i : Nat) => D.tup [.int (i : Int), .int (t.getD i 0)] := by
  refine List.ext_getElem? fun i => ?_
  rw [enum_at, List.getElem?_map, List.getElem?_map]
  by_cases h : i < t.length
  · rw [List.getElem?_eq_getElem h, List.getElem?_range h]
    simp only [Option.map_some, Nat.zero_add]
    rw [List.getD_eq_getElem?_getD, List.getElem?_eq_getElem h]
    rfl
  · rw [List.getElem?_eq_none (by omega), List.getElem?_eq_none (by simpa using h)]
    rfl
section
variable {cl : Calls} {env : Env} {s s1 : Sto} {e c it : CE} {cs b : CSs}
theorem w_lce {own : List Nat} {y z : Nat} {t : List Int} {g : Nat → D} (h : evE cl it env s = .ok (.lst (enumL 0 (t.map .int))) s1) (hl : t.length ≤ cap)
    (turn : ∀ i : Nat, i < t.length → evE cl e (((wipeE env own).set y (some (.int (i : Int)))).set z (some (.int (t.getD i 0)))) s1 = .ok (g i) s1) : evE cl (.lc own [y, z] e it (.con (.bl true))) env s = .ok (.lst ((List.range t.length).map g)) s1 := by
  have q := w_lc (own := own) (tg := [y, z]) (e := e) (g := fun d => match d with | .tup [.int i, _] => g i.toNat | _ => .non) h seqO_lst (by rw [enum_len, List.length_map]; exact hl) fun d hd => by
    rw [enum_ints] at hd
    obtain ⟨i, hi, rfl⟩ := List.mem_map.mp hd
    exact ⟨_, setTg2, turn i (List.mem_range.mp hi)⟩
  rw [q, enum_ints, List.map_map]
  rfl
theorem w_loope {y z : Nat} {t : List Int} {I : Nat → Env → Sto → Prop} {P : SR → Prop} (h : evE cl it env s = .ok (.lst (enumL 0 (t.map .int))) s1) (h0 : I 0 env s1)
    (turn : ∀ i : Nat, i < t.length → ∀ env s, I i env s → ∃ env' s', evSs cl b ((env.set y (some (.int (i : Int)))).set z (some (.int (t.getD i 0)))) s = .nx env' s' ∧ I (i + 1) env' s')
    (done : ∀ env s, I t.length env s → P (evSs cl cs env s)) : P (evSs cl (.cons (.loop [y, z] it b) cs) env s) := by
  refine w_loop (I := I) h seqO_lst h0 (fun i d hd env s hi => ?_) fun env s hi => ?_
  · rw [enum_ints, List.getElem?_map] at hd
    cases hq : (List.range t.length)[i]? with
    | none => rw [hq] at hd; cases hd
    | some j =>
      rw [hq] at hd
      obtain ⟨q, e⟩ := List.getElem?_eq_some_iff.mp hq
      rw [List.getElem_range] at e
      subst e
      cases hd
      obtain ⟨env', s', k1, k2⟩ := turn i (by simpa using q) env s hi
      exact ⟨_, env', s', setTg2, k1, k2⟩
  · rw [enum_len, List.length_map] at hi
    exact done env s hi
/-! ### range(a, b) -/
theorem mem_rangeA {a : Int} {n : Nat} {y : D} (h : y ∈ rangeD a n) : ∃ i : Nat, i < n ∧ y = .int (a + (i : Int)) := by
  unfold rangeD at h
  obtain ⟨i, hi, rfl⟩ := List.mem_map.mp h
  exact ⟨i, List.mem_range.mp hi, rfl⟩
theorem rangeA_at {a : Int} {n i : Nat} {y : D} (h : (rangeD a n)[i]? = some y) : i < n ∧ y = .int (a + (i : Int)) := by
  unfold rangeD at h
  rw [List.getElem?_map] at h
  cases hi : (List.range n)[i]? with
  | none => rw [hi] at h; cases h
  | some j =>
    rw [hi] at h
    obtain ⟨q, e⟩ := List.getElem?_eq_some_iff.mp hi
    rw [List.getElem_range] at e
    subst e
    cases h
    exact ⟨by simpa using q, rfl⟩
theorem w_lca {own : List Nat} {y n : Nat} {a : Int} {g : Int → D} (h : evE cl it env s = .ok (.lst (rangeD a n)) s1) (hl : n ≤ cap)
    (turn : ∀ i : Nat, i < n → evE cl e ((wipeE env own).set y (some (.int (a + (i : Int))))) s1 = .ok (g (a + (i : Int))) s1) : evE cl (.lc own [y] e it (.con (.bl true))) env s = .ok (.lst ((List.range n).map fun (i : Nat) => g (a + (i : Int)))) s1 := by
  have q := w_lc (own := own) (tg := [y]) (e := e) (g := fun d => match d with | .int i => g i | _ => .non) h seqO_lst (by rw [rangeD_len]; exact hl) fun d hd => by
    obtain ⟨i, hi, rfl⟩ := mem_rangeA hd
    exact ⟨_, setTg1, turn i hi⟩
  rw [q]
  unfold rangeD
  rw [List.map_map]
  rfl
/-- the numbers themselves that pass a test -/
theorem w_lcaf {own : List Nat} {y n : Nat} {a : Int} {p : Int → Bool} (h : evE cl it env s = .ok (.lst (rangeD a n)) s1) (hl : n ≤ cap) (he : ∀ (d : D), evE cl e ((wipeE env own).set y (some d)) s1 = .ok d s1)
    (turn : ∀ i : Nat, i < n → evE cl c ((wipeE env own).set y (some (.int (a + (i : Int))))) s1 = .ok (.bl (p (a + (i : Int)))) s1) : evE cl (.lc own [y] e it c) env s = .ok (.lst ((((List.range n).map fun (i : Nat) => a + (i : Int)).filter p).map .int)) s1 := by
  have q := w_lcf (own := own) (tg := [y]) (e := e) (p := fun d => match d with | .int i => p i | _ => false) (g := fun d => d) h seqO_lst (by rw [rangeD_len]; exact hl) fun d hd => by
    obtain ⟨i, hi, rfl⟩ := mem_rangeA hd
    exact ⟨_, setTg1, turn i hi, fun _ => he _⟩
  rw [q]
  congr 2
  unfold rangeD
  rw [List.filter_map, List.filter_map, List.map_map, List.map_map]
  rfl
theorem w_loopa {y n : Nat} {a : Int} {I : Nat → Env → Sto → Prop} {P : SR → Prop} (h : evE cl it env s = .ok (.lst (rangeD a n)) s1) (h0 : I 0 env s1)
    (turn : ∀ i : Nat, i < n → ∀ env s, I i env s → ∃ env' s', evSs cl b (env.set y (some (.int (a + (i : Int))))) s = .nx env' s' ∧ I (i + 1) env' s')
    (done : ∀ env s, I n env s → P (evSs cl cs env s)) : P (evSs cl (.cons (.loop [y] it b) cs) env s) := by
  refine w_loop (I := I) h seqO_lst h0 (fun i d hd env s hi => ?_) fun env s hi => ?_
  · obtain ⟨hi', rfl⟩ := rangeA_at hd
    obtain ⟨env', s', k1, k2⟩ := turn i hi' env s hi
    exact ⟨_, env', s', setTg1, k1, k2⟩
  · rw [rangeD_len] at hi
    exact done env s hi
/-! ### loops that may return -/
theorem forL_ex {f : D → Env → Sto → SR} {I : Nat → Env → Sto → Prop} {P : SR → Prop} : ∀ {xs : List D} {j : Nat} {env : Env} {s : Sto}, (∀ (i : Nat) (x : D), xs[i]? = some x → ∀ env s, I (j + i) env s → (∃ env' s', f x env s = .nx env' s' ∧ I (j + i + 1) env' s') ∨ ∃ d s', f x env s = .rt d s' ∧ P (.rt d s')) → I j env s →
    (∃ env' s', forL f xs env s = .nx env' s' ∧ I (j + xs.length) env' s') ∨ ∃ d s', forL f xs env s = .rt d s' ∧ P (.rt d s')
  | [], j, env, s, _, hI => .inl ⟨env, s, rfl, by simpa using hI⟩
  | x :: r, j, env, s, h, hI => by
    rcases h 0 x rfl env s hI with ⟨env1, s1, h1, h2⟩ | ⟨d, s1, h1, h2⟩
    · rcases forL_ex (j := j + 1) (P := P) (fun i y hy env s hi => by
        have := h (i + 1) y (by simpa using hy) env s (by rw [show j + (i + 1) = j + 1 + i by omega]; exact hi)
        rw [show j + (i + 1) = j + 1 + i by omega] at this
        exact this) h2 with ⟨env2, s2, k1, k2⟩ | ⟨d, s2, k1, k2⟩
      · refine .inl ⟨env2, s2, ?_, ?_⟩
        · unfold forL
          rw [h1]
          exact k1
        · rw [List.length_cons, show j + (r.length + 1) = j + 1 + r.length by omega]
          exact k2
      · refine .inr ⟨d, s2, ?_, k2⟩
        unfold forL
        rw [h1]
        exact k1
    · refine .inr ⟨d, s1, ?_, h2⟩
      unfold forL
      rw [h1]
theorem w_loopx {tg : List Nat} {x : D} {xs : List D} {I : Nat → Env → Sto → Prop} {P : SR → Prop} (h : evE cl it env s = .ok x s1) (hx : seqOf x = some xs) (h0 : I 0 env s1)
    (turn : ∀ (i : Nat) (y : D), xs[i]? = some y → ∀ env s, I i env s → ∃ env2, setTg env tg y = some env2 ∧ ((∃ env' s', evSs cl b env2 s = .nx env' s' ∧ I (i + 1) env' s') ∨ ∃ d s', evSs cl b env2 s = .rt d s' ∧ P (.rt d s')))
    (done : ∀ env s, I xs.length env s → P (evSs cl cs env s)) : P (evSs cl (.cons (.loop tg it b) cs) env s) := by
  rw [evSs, evS, h, ok_thn, hx]
  simp only
  have key : ∀ r : SR, ((∃ env' s', r = .nx env' s' ∧ I xs.length env' s') ∨ ∃ d s', r = .rt d s' ∧ P (.rt d s')) → P (r.seq fun env1 s1 => evSs cl cs env1 s1) := fun r hr => by
    rcases hr with ⟨env', s', rfl, h2⟩ | ⟨d, s', rfl, h2⟩
    · exact done env' s' h2
    · exact h2
  refine key _ ?_
  have := forL_ex (f := fun y env1 s2 => (match setTg env1 tg y with
      | some env2 => evSs cl b env2 s2
      | none => .bad)) (xs := xs) (j := 0) (I := I) (P := P) (env := env) (s := s1) (fun i y hy env s hi => by
    rw [Nat.zero_add] at hi ⊢
    obtain ⟨env2, k1, k2⟩ := turn i y hy env s hi
    rw [k1]
    exact k2) h0
  rw [Nat.zero_add] at this
  exact this
end
/-! ### texts of data that repr shows -/
theorem rep_ts : ∀ ts : List (List Int), (∀ t ∈ ts, t.length ≤ 100 ∧ ∀ i ∈ t, i.natAbs < 400) → smL (ts.map I) = true ∧ dpL (ts.map I) ≤ 1 ∧ bkL (ts.map I) ≤ 101 * ts.length
  | [], _ => ⟨rfl, Nat.zero_le _, Nat.zero_le _⟩
  | t :: r, h => by
    obtain ⟨a, b, c⟩ := rep_ts r fun x hx => h x (List.mem_cons_of_mem _ hx)
    obtain ⟨h1, h2⟩ := h t (List.mem_cons_self ..)
    refine ⟨?_, ?_, ?_⟩
    · show (smL (t.map .int) && smL (r.map I)) = true
      rw [smL_ints t h2, a]
      rfl
    · show max (dpL (t.map .int) + 1) (dpL (r.map I)) ≤ 1
      rw [dpL_ints]
      omega
    · show bkL (t.map .int) + 1 + bkL (r.map I) ≤ 101 * (r.length + 1)
      rw [bkL_ints]
      omega
theorem clean_ts : ∀ ts : List (List Int), cleanL 0 (ts.map I) = true
  | [] => rfl
  | t :: r => by
    show (cleanL 0 (t.map .int) && cleanL 0 (r.map I)) = true
    rw [clean_ints, clean_ts r]
    rfl
theorem pfI (n : Nat) : ∀ t : List Int, pfL n (t.map D.int) = true
  | [] => rfl
  | _ :: r => pfI n r
end T5

set_option Elab.async false
set_option linter.all false
set_option maxRecDepth 100000
set_option maxHeartbeats 2000000
/-! Tables of whole numbers: which hold, and the throws of one that holds. -/
namespace TabM
abbrev Tab := List (List Int)
def at' (m : Tab) (i j : Nat) : Int := (m.getD i []).getD j 0
structure Sq (m : Tab) : Prop where
  pos : 0 < m.length
  row : ∀ i, i < m.length → (m.getD i []).length = m.length + 1
def inR (t : List Int) (s L k : Nat) : Bool := decide ((k : Int) + t.getD ((s + k) % t.length) 0 < (L : Int))
def cnt (t : List Int) (s L : Nat) : Nat := ((List.range L).filter fun k => inR t s L k).length
def rk (t : List Int) (s L : Nat) : Int := (L : Int) - (cnt t s L : Int)
def tbl (t : List Int) : Tab := (List.range t.length).map fun s => (List.range (t.length + 1)).map fun L => rk t s L
def hitL (m : Tab) (i : Nat) : List Nat := (List.range m.length).filter fun l => decide (at' m i (l + 1) = at' m ((i + 1) % m.length) l)
def thr1 (m : Tab) (i : Nat) : Int := if 0 < (hitL m i).length then ((hitL m i).getD 0 0 : Int) else (m.length : Int)
def thr (m : Tab) : List Int := (List.range m.length).map (thr1 m)
structure Holds (m : Tab) : Prop where
  z : ∀ i, i < m.length → at' m i 0 = 0
  w : ∀ i, i < m.length → at' m i m.length = at' m 0 m.length
  a : ∀ i, i < m.length → ∀ l, 1 ≤ l → l ≤ m.length → at' m i l - at' m i (l - 1) = 0 ∨ at' m i l - at' m i (l - 1) = 1
  q : ∀ i, i < m.length → ∀ l, 2 ≤ l → l ≤ m.length → at' m i l + at' m ((i + 1) % m.length) (l - 2) ≤ at' m i (l - 1) + at' m ((i + 1) % m.length) (l - 1)
section
variable {m : Tab}
def d (m : Tab) (i l : Nat) : Int := at' m i l - at' m ((i + 1) % m.length) (l - 1)
theorem Holds.mono (H : Holds m) {i : Nat} (hi : i < m.length) {l j : Nat} (h1 : 1 ≤ l) (h2 : l + j ≤ m.length) : d m i (l + j) ≤ d m i l := by
  induction j with
  | zero => exact Int.le_refl _
  | succ j ih =>
    have h := H.q i hi (l + (j + 1)) (by omega) h2
    have e := ih (by omega)
    unfold d at e ⊢
    rw [show l + (j + 1) - 2 = l + j - 1 by omega] at h
    rw [show l + (j + 1) - 1 = l + j by omega] at h ⊢
    omega
theorem Holds.d01 (H : Holds m) {i : Nat} (hi : i < m.length) {l : Nat} (h1 : 1 ≤ l) (h2 : l ≤ m.length) : d m i l = 0 ∨ d m i l = 1 := by
  have hn : 0 < m.length := by omega
  have hi' : (i + 1) % m.length < m.length := Nat.mod_lt _ hn
  have u := H.mono hi (l := 1) (j := l - 1) (by omega) (by omega)
  rw [show 1 + (l - 1) = l by omega] at u
  have v := H.mono hi (l := l) (j := m.length - l) h1 (by omega)
  rw [show l + (m.length - l) = m.length by omega] at v
  have a1 := H.a i hi 1 (by omega) (by omega)
  have a2 := H.a ((i + 1) % m.length) hi' m.length (by omega) (by omega)
  have w1 := H.w i hi
  have w2 := H.w _ hi'
  have z1 := H.z i hi
  have z2 := H.z _ hi'
  have e1 : d m i 1 = at' m i 1 - at' m ((i + 1) % m.length) 0 := rfl
  have e2 : d m i m.length = at' m i m.length - at' m ((i + 1) % m.length) (m.length - 1) := rfl
  rw [show (1 : Nat) - 1 = 0 from rfl] at a1
  omega
theorem Holds.thr_lt (H : Holds m) {i : Nat} (hi : i < m.length) {l : Nat} (h1 : 1 ≤ l) (h2 : l ≤ m.length) : thr1 m i < (l : Int) ↔ d m i l = 0 := by
  have mem : ∀ {j : Nat}, j ∈ hitL m i → j < m.length ∧ d m i (j + 1) = 0 := fun hj => by
    obtain ⟨x, y⟩ := List.mem_filter.mp hj
    have y := of_decide_eq_true y
    refine ⟨List.mem_range.mp x, ?_⟩
    unfold d
    rw [Nat.add_sub_cancel]
    omega
  constructor
  · intro h
    unfold thr1 at h
    split at h
    · rename_i hp
      obtain ⟨x, y⟩ := mem (j := (hitL m i).getD 0 0) (by
        rw [List.getD_eq_getElem?_getD, List.getElem?_eq_getElem hp]
        exact List.getElem_mem hp)
      have hl : (hitL m i).getD 0 0 + 1 ≤ l := by omega
      have := H.mono hi (l := (hitL m i).getD 0 0 + 1) (j := l - ((hitL m i).getD 0 0 + 1)) (by omega) (by omega)
      rw [show (hitL m i).getD 0 0 + 1 + (l - ((hitL m i).getD 0 0 + 1)) = l by omega] at this
      have := H.d01 hi h1 h2
      omega
    · omega
  · intro h
    have hin : l - 1 ∈ hitL m i := by
      refine List.mem_filter.mpr ⟨List.mem_range.mpr (by omega), decide_eq_true ?_⟩
      unfold d at h
      rw [show l - 1 + 1 = l by omega]
      omega
    have hp : 0 < (hitL m i).length := List.length_pos_of_mem hin
    unfold thr1
    rw [if_pos hp]
    have hs : List.Pairwise (· < ·) (hitL m i) := List.Pairwise.filter _ List.pairwise_lt_range
    cases hh : hitL m i with
    | nil => rw [hh] at hp; cases hp
    | cons x r =>
      rw [hh] at hin hs
      show ((x : Nat) : Int) < (l : Int)
      rcases List.mem_cons.mp hin with e | e
      · omega
      · have := (List.pairwise_cons.mp hs).1 _ e
        omega
theorem thr_len : (thr m).length = m.length := by
  unfold thr
  rw [List.length_map, List.length_range]
theorem thr_at {i : Nat} (hi : i < m.length) : (thr m).getD i 0 = thr1 m i := by
  unfold thr
  rw [List.getD_eq_getElem?_getD, List.getElem?_map, List.getElem?_range hi]
  rfl
theorem cnt_succ {t : List Int} {s L : Nat} : cnt t s (L + 1) = (if inR t s (L + 1) 0 = true then 1 else 0) + cnt t (s + 1) L := by
  unfold cnt
  rw [List.range_succ_eq_map, List.filter_cons, List.filter_map]
  have e : ((List.range L).filter ((fun k => inR t s (L + 1) k) ∘ Nat.succ)) = (List.range L).filter fun k => inR t (s + 1) L k := by
    refine List.filter_congr fun k hk => ?_
    show inR t s (L + 1) (k + 1) = inR t (s + 1) L k
    unfold inR
    rw [show s + (k + 1) = s + 1 + k by omega, Bool.eq_iff_iff, decide_eq_true_eq, decide_eq_true_eq]
    omega
  rw [e]
  split <;> simp <;> omega
theorem Holds.cnt (H : Holds m) (hn : 0 < m.length) : ∀ (L s : Nat), L ≤ m.length → (TabM.cnt (thr m) s L : Int) = (L : Int) - at' m (s % m.length) L
  | 0, s, _ => by
    rw [H.z _ (Nat.mod_lt _ hn)]
    rfl
  | L + 1, s, h => by
    have ih := H.cnt hn L (s + 1) (by omega)
    rw [cnt_succ]
    have hi : s % m.length < m.length := Nat.mod_lt _ hn
    have hd := H.d01 hi (l := L + 1) (by omega) h
    have hb : inR (thr m) s (L + 1) 0 = decide (d m (s % m.length) (L + 1) = 0) := by
      unfold inR
      rw [Nat.add_zero, thr_len, thr_at hi, Bool.eq_iff_iff, decide_eq_true_eq, decide_eq_true_eq, ← H.thr_lt hi (by omega) h]
      omega
    rw [hb]
    have em : (s % m.length + 1) % m.length = (s + 1) % m.length := Nat.mod_add_mod ..
    have ed : d m (s % m.length) (L + 1) = at' m (s % m.length) (L + 1) - at' m ((s + 1) % m.length) L := by
      unfold d
      rw [em, Nat.add_sub_cancel]
    rcases hd with hd | hd
    · rw [hd] at ed
      rw [hd]
      simp only [decide_true, if_true]
      omega
    · rw [hd] at ed
      rw [hd]
      simp only [show decide ((1 : Int) = 0) = false from rfl, Bool.false_eq_true, if_false]
      omega
theorem Holds.rk (H : Holds m) {s L : Nat} (hs : s < m.length) (hL : L ≤ m.length) : TabM.rk (thr m) s L = at' m s L := by
  have := H.cnt (by omega) L s hL
  rw [Nat.mod_eq_of_lt hs] at this
  unfold TabM.rk
  omega
theorem Holds.tbl (H : Holds m) (S : Sq m) : TabM.tbl (thr m) = m := by
  unfold TabM.tbl
  rw [thr_len]
  refine List.ext_getElem? fun i => ?_
  rw [List.getElem?_map]
  by_cases hi : i < m.length
  · rw [List.getElem?_range hi, List.getElem?_eq_getElem hi]
    refine congrArg some ?_
    have hr := S.row i hi
    have e : m.getD i [] = m[i] := by rw [List.getD_eq_getElem?_getD, List.getElem?_eq_getElem hi]; rfl
    rw [e] at hr
    refine List.ext_getElem? fun j => ?_
    rw [List.getElem?_map]
    by_cases hj : j < m.length + 1
    · rw [List.getElem?_range hj, List.getElem?_eq_getElem (by omega)]
      refine congrArg some ?_
      show TabM.rk (thr m) i j = m[i][j]
      rw [H.rk (s := i) (L := j) hi (by omega)]
      unfold at'
      rw [e, List.getD_eq_getElem?_getD, List.getElem?_eq_getElem (by omega)]
      rfl
    · rw [List.getElem?_eq_none (by simpa using hj), List.getElem?_eq_none (by omega)]
      rfl
  · rw [List.getElem?_eq_none (by simpa using hi), List.getElem?_eq_none (by omega)]
    rfl
theorem Holds.bnd (H : Holds m) {i : Nat} (hi : i < m.length) : ∀ l, l ≤ m.length → 0 ≤ at' m i l ∧ at' m i l ≤ (l : Int)
  | 0, _ => by
    rw [H.z i hi]
    exact ⟨Int.le_refl _, Int.le_refl _⟩
  | l + 1, h => by
    have ih := H.bnd hi l (by omega)
    have := H.a i hi (l + 1) (by omega) h
    rw [Nat.add_sub_cancel] at this
    omega
end
end TabM

set_option Elab.async false
set_option linter.all false
set_option maxRecDepth 100000
set_option maxHeartbeats 2000000
/-! T5: loops that look for the first one; tables. -/
namespace T5
open PySem TabM
theorem ix_of {ds : List D} {j : Nat} (h : j < ds.length) : ixD ds (j : Int) = some ds[j] := by
  have e : L2.ixN ds.length (j : Int) = some j := by
    unfold L2.ixN
    rw [if_pos (by omega), if_pos (by omega)]
    congr 1
  unfold ixD
  rw [e]
  exact List.getElem?_eq_getElem h
theorem ix_last {t : List Int} (h : 0 < t.length) : ixD (t.map D.int) (-1) = some (.int (t.getD (t.length - 1) 0)) := by
  have e : L2.ixN (t.map D.int).length (-1) = some (t.length - 1) := by
    unfold L2.ixN
    rw [List.length_map]
    rw [if_neg (by omega), if_pos (by omega)]
    congr 1
    omega
  unfold ixD
  rw [e]
  show (t.map D.int)[t.length - 1]? = _
  rw [List.getElem?_map, List.getElem?_eq_getElem (by omega), List.getD_eq_getElem?_getD, List.getElem?_eq_getElem (by omega)]
  rfl
theorem nmem2 {x a b : Int} : cmpD .nmem (.int x) (.tup [.int a, .int b]) = some (!(decide (x = a) || decide (x = b))) := by
  show some (!(L2.inV (.int x) [.int a, .int b])) = _
  congr 2
  have h : ∀ a : Int, (a == x) = decide (x = a) := fun a => by
    rw [Bool.eq_iff_iff, beq_iff_eq, decide_eq_true_eq]
    exact ⟨fun z => z.symm, fun z => z.symm⟩
  unfold L2.inV
  simp only [L2.eqV, List.any_cons, List.any_nil, Bool.or_false, h]
/-- a table -/
abbrev Tt (m : Tab) : D := .tup (m.map I)
theorem clTt (n : Nat) : ∀ m : Tab, cleanL n (m.map I) = true
  | [] => rfl
  | r :: m => by
    show (clean n (I r) && cleanL n (m.map I)) = true
    rw [ccI r n, clTt n m]
    rfl
theorem ix_row {m : Tab} {i : Nat} (h : i < m.length) : ixD (m.map I) (i : Int) = some (I (m.getD i [])) := by
  rw [ix_of (by rw [List.length_map]; exact h), List.getElem_map, List.getD_eq_getElem?_getD, List.getElem?_eq_getElem h]
  rfl
theorem fs_none {α : Type} {h : Nat → Option α} : ∀ {n : Nat}, (∀ i, i < n → h i = none) → (List.range n).findSome? h = none := fun hh => by
  rw [List.findSome?_eq_none_iff]
  exact fun i hi => hh i (List.mem_range.mp hi)
theorem fs_some {α : Type} {h : Nat → Option α} {n i : Nat} {d : α} (hi : i < n) (hj : (List.range i).findSome? h = none) (hd : h i = some d) : (List.range n).findSome? h = some d := by
  have e : List.range n = List.range i ++ (i :: (List.range (n - i - 1)).map fun j => i + 1 + j) := by
    have e1 : n = i + (1 + (n - i - 1)) := by omega
    rw [show List.range n = List.range (i + (1 + (n - i - 1))) by rw [← e1], List.range_add]
    congr 1
    rw [show 1 + (n - i - 1) = (n - i - 1) + 1 by omega, List.range_succ_eq_map, List.map_cons, List.map_map]
    congr 1
    refine List.map_congr_left fun j _ => ?_
    show i + (j + 1) = _
    omega
  rw [e, List.findSome?_append, hj, List.findSome?_cons, hd]
  rfl
theorem fs_succ {α : Type} {h : Nat → Option α} {i : Nat} (hj : (List.range i).findSome? h = none) (hd : h i = none) : (List.range (i + 1)).findSome? h = none := by
  rw [List.range_succ, List.findSome?_append, hj, List.findSome?_cons, hd]
  rfl
section
variable {cl : Calls} {env : Env} {s s1 : Sto} {e c it : CE} {cs b : CSs}
/-- a loop that returns at the first one -/
theorem w_fs {h : Nat → Option D} {tg : List Nat} {x : D} {xs : List D} {n : Nat} {I : Env → Prop} {P : SR → Prop} (hi : evE cl it env s = .ok x s1) (hx : seqOf x = some xs) (hl : xs.length = n) (h0 : I env)
    (turn : ∀ (i : Nat) (y : D), xs[i]? = some y → ∀ env, I env → ∃ env2, setTg env tg y = some env2 ∧ ((∃ d, h i = some d ∧ evSs cl b env2 s1 = .rt d s1) ∨ (h i = none ∧ ∃ env', evSs cl b env2 s1 = .nx env' s1 ∧ I env')))
    (hit : ∀ d, (List.range n).findSome? h = some d → P (.rt d s1))
    (done : (List.range n).findSome? h = none → ∀ env, I env → P (evSs cl cs env s1)) : P (evSs cl (.cons (.loop tg it b) cs) env s) := by
  refine w_loopx (I := fun j env s => s = s1 ∧ I env ∧ (List.range j).findSome? h = none) (P := P) hi hx ⟨rfl, h0, rfl⟩ (fun i y hy env s ⟨q1, q2, q3⟩ => ?_) fun env s ⟨q1, q2, q3⟩ => ?_
  · subst q1
    obtain ⟨env2, k1, k2⟩ := turn i y hy env q2
    refine ⟨env2, k1, ?_⟩
    rcases k2 with ⟨d, k2, k3⟩ | ⟨k2, env', k3, k4⟩
    · refine .inr ⟨d, s, k3, hit d (fs_some ?_ q3 k2)⟩
      rw [← hl]
      exact (List.getElem?_eq_some_iff.mp hy).1
    · exact .inl ⟨env', s, k3, rfl, k4, fs_succ q3 k2⟩
  · subst q1
    rw [hl] at q3
    exact done q3 env q2
end
end T5

set_option Elab.async false
set_option linter.all false
set_option maxRecDepth 100000
set_option maxHeartbeats 4000000
/-! T5: K14, ranks and tables. -/
namespace K14
open T5 PySem TabM
theorem w_bin {cl : Calls} {env : T5.Env} {s s1 s2 : Sto} {op : BOp} {a b : CE} {x y : D} (ha : evE cl a env s = .ok x s1) (hb : evE cl b env s1 = .ok y s2) : evE cl (.bin op a b) env s = lift (binD op (rd s2 x) (rd s2 y)) s2 := by
  rw [evE, ha, ok_bind, hb, ok_bind]
theorem w_len {cl : Calls} {env : T5.Env} {s s1 : Sto} {a : CE} {l : List D} (ha : evE cl a env s = .ok (.lst l) s1) : evE cl (.bi .len (.cons a .nil)) env s = .ok (.int (l.length : Int)) s1 := by
  rw [bi1 ha]
  rfl
theorem w_tupl {cl : Calls} {env : T5.Env} {s s1 : Sto} {a : CE} {l : List D} (ha : evE cl a env s = .ok (.lst l) s1) : evE cl (.bi .tuple (.cons a .nil)) env s = .ok (.tup l) s1 := by
  rw [bi1 ha]
  rfl
section
variable {k : Nat} {t : List Int} {m : Tab} {th : Thk} {s : Sto}
theorem e0 {z : Int} : T5.run F (k + 1) 0 [.int z] th s = .ok (.bl true) s := sld (env0 := [some (.int z)]) F0 rfl rfl rfl rfl rfl (e := []) rfl rfl
theorem castMod {a b n : Nat} : ((a : Int) + (b : Int)) % (n : Int) = (((a + b) % n : Nat) : Int) := by
  rw [Int.natCast_emod, Int.natCast_add]
theorem e1 {a L : Nat} (hn : 0 < t.length) (hL : L ≤ 1000) : T5.run F (k + 1) 1 [I t, .int (a : Int), .int (L : Int)] th s = .ok (.int (rk t a L)) s := by
  refine sld (env0 := [some (I t), some (.int (a : Int)), some (.int (L : Int)), none, none]) F1 rfl rfl rfl (c3 (ccI t) rfl rfl) rfl (e := []) ?_ rfl
  generalize T5.run F k = cl
  refine (w_asg (d := .int (t.length : Int)) (s1 := []) (by simp only [evSs, evS, evE, evEs, ok_bind, ok_thn, nx_seq, rt_seq, ok_calm, lift_some, rd_int, rd_bl, rd_tup, rd_lst, rd_rep, rd_scr, seqO_lst, seqO_tup, setTg1, bAdd, bSub, cLt, cLe, cGt, cGe, cEq, cNe, cmpS, lenT, lenL, bInt, getT, getLs, idT, idL, omap, List.map_cons, List.map_nil, List.replicate, List.cons_append, List.nil_append, List.append_nil, List.getElem?_cons_zero, List.getElem?_cons_succ, List.set_cons_zero, List.set_cons_succ, List.length_map, List.length_cons, List.length_nil, wipeE, if_true, arr, Option.bind_some, List.reverse_nil, tupL, par2, par3, Nat.zero_add, Nat.reduceAdd, cap0, cap1, cap2, cap3])).trans ?_
  refine w_ret ?_
  have h := w_lcrf (cl := cl) (own := [4]) (y := 4) (n := L) (e := .var 4) (it := .rng1 (.var 2)) (c := c1_0) (env := [some (I t), some (.int (a : Int)), some (.int (L : Int)), some (.int (t.length : Int)), none]) (s := []) (s1 := []) (p := fun i => inR t a L i) (g := fun i => .int (i : Int)) (by simp only [evSs, evS, evE, evEs, ok_bind, ok_thn, nx_seq, rt_seq, ok_calm, lift_some, rd_int, rd_bl, rd_tup, rd_lst, rd_rep, rd_scr, seqO_lst, seqO_tup, setTg1, bAdd, bSub, cLt, cLe, cGt, cGe, cEq, cNe, cmpS, lenT, lenL, bInt, getT, getLs, idT, idL, omap, List.map_cons, List.map_nil, List.replicate, List.cons_append, List.nil_append, List.append_nil, List.getElem?_cons_zero, List.getElem?_cons_succ, List.set_cons_zero, List.set_cons_succ, List.length_map, List.length_cons, List.length_nil, wipeE, if_true, arr, Option.bind_some, List.reverse_nil, tupL, par2, par3, Nat.zero_add, Nat.reduceAdd, cap0, cap1, cap2, cap3, okRn (n := L) (by omega)]; rfl) (by unfold cap; omega) (fun i hi => ⟨by
    have m1 : binD .mod (.int ((a : Int) + (i : Int))) (.int (t.length : Int)) = some (.int (((a + i) % t.length : Nat) : Int)) := by
      rw [bMod (by omega), castMod]
    unfold c1_0
    simp only [evSs, evS, evE, evEs, ok_bind, ok_thn, nx_seq, rt_seq, ok_calm, lift_some, rd_int, rd_bl, rd_tup, rd_lst, rd_rep, rd_scr, seqO_lst, seqO_tup, setTg1, bAdd, bSub, cLt, cLe, cGt, cGe, cEq, cNe, cmpS, lenT, lenL, bInt, getT, getLs, idT, idL, omap, List.map_cons, List.map_nil, List.replicate, List.cons_append, List.nil_append, List.append_nil, List.getElem?_cons_zero, List.getElem?_cons_succ, List.set_cons_zero, List.set_cons_succ, List.length_map, List.length_cons, List.length_nil, wipeE, if_true, arr, Option.bind_some, List.reverse_nil, tupL, par2, par3, Nat.zero_add, Nat.reduceAdd, cap0, cap1, cap2, cap3, m1, ixD_ints (show (a + i) % t.length < t.length from Nat.mod_lt _ hn)]
    rfl, fun _ => by simp only [evSs, evS, evE, evEs, ok_bind, ok_thn, nx_seq, rt_seq, ok_calm, lift_some, rd_int, rd_bl, rd_tup, rd_lst, rd_rep, rd_scr, seqO_lst, seqO_tup, setTg1, bAdd, bSub, cLt, cLe, cGt, cGe, cEq, cNe, cmpS, lenT, lenL, bInt, getT, getLs, idT, idL, omap, List.map_cons, List.map_nil, List.replicate, List.cons_append, List.nil_append, List.append_nil, List.getElem?_cons_zero, List.getElem?_cons_succ, List.set_cons_zero, List.set_cons_succ, List.length_map, List.length_cons, List.length_nil, wipeE, if_true, arr, Option.bind_some, List.reverse_nil, tupL, par2, par3, Nat.zero_add, Nat.reduceAdd, cap0, cap1, cap2, cap3]⟩)
  simp only [List.set_cons_zero, List.set_cons_succ] at h ⊢
  rw [w_bin (x := .int (L : Int)) (s1 := []) (by simp only [evSs, evS, evE, evEs, ok_bind, ok_thn, nx_seq, rt_seq, ok_calm, lift_some, rd_int, rd_bl, rd_tup, rd_lst, rd_rep, rd_scr, seqO_lst, seqO_tup, setTg1, bAdd, bSub, cLt, cLe, cGt, cGe, cEq, cNe, cmpS, lenT, lenL, bInt, getT, getLs, idT, idL, omap, List.map_cons, List.map_nil, List.replicate, List.cons_append, List.nil_append, List.append_nil, List.getElem?_cons_zero, List.getElem?_cons_succ, List.set_cons_zero, List.set_cons_succ, List.length_map, List.length_cons, List.length_nil, wipeE, if_true, arr, Option.bind_some, List.reverse_nil, tupL, par2, par3, Nat.zero_add, Nat.reduceAdd, cap0, cap1, cap2, cap3]) (w_len h)]
  simp only [evSs, evS, evE, evEs, ok_bind, ok_thn, nx_seq, rt_seq, ok_calm, lift_some, rd_int, rd_bl, rd_tup, rd_lst, rd_rep, rd_scr, seqO_lst, seqO_tup, setTg1, bAdd, bSub, cLt, cLe, cGt, cGe, cEq, cNe, cmpS, lenT, lenL, bInt, getT, getLs, idT, idL, omap, List.map_cons, List.map_nil, List.replicate, List.cons_append, List.nil_append, List.append_nil, List.getElem?_cons_zero, List.getElem?_cons_succ, List.set_cons_zero, List.set_cons_succ, List.length_map, List.length_cons, List.length_nil, wipeE, if_true, arr, Option.bind_some, List.reverse_nil, tupL, par2, par3, Nat.zero_add, Nat.reduceAdd, cap0, cap1, cap2, cap3]
  rfl
/-- a table as a list of lists -/
theorem tt_tbl : Tt (tbl t) = .tup ((List.range t.length).map fun a => .tup ((List.range (t.length + 1)).map fun L => .int (rk t a L))) := by
  unfold tbl
  show D.tup _ = _
  rw [List.map_map]
  congr 1
  refine List.map_congr_left fun a _ => ?_
  show I _ = _
  show D.tup _ = _
  rw [List.map_map]
  rfl
theorem e2 (hn : 0 < t.length) (hl : t.length ≤ 100) : T5.run F (k + 2) 2 [I t] th s = .ok (Tt (tbl t)) s := by
  have h1 : ∀ (a L : Nat), L ≤ t.length → T5.run F (k + 1) 1 [I t, .int (a : Int), .int (L : Int)] noT [] = .ok (.int (rk t a L)) [] := fun a L h => e1 hn (by omega)
  refine sld (env0 := [some (I t), none, none, none]) F2 rfl rfl rfl (cc1 (ccI t)) rfl (e := []) ?_ (clTt 0 _)
  generalize T5.run F (k + 1) = cl at h1 ⊢
  refine (w_asg (d := .int (t.length : Int)) (s1 := []) (by simp only [evSs, evS, evE, evEs, ok_bind, ok_thn, nx_seq, rt_seq, ok_calm, lift_some, rd_int, rd_bl, rd_tup, rd_lst, rd_rep, rd_scr, seqO_lst, seqO_tup, setTg1, bAdd, bSub, cLt, cLe, cGt, cGe, cEq, cNe, cmpS, lenT, lenL, bInt, getT, getLs, idT, idL, omap, List.map_cons, List.map_nil, List.replicate, List.cons_append, List.nil_append, List.append_nil, List.getElem?_cons_zero, List.getElem?_cons_succ, List.set_cons_zero, List.set_cons_succ, List.length_map, List.length_cons, List.length_nil, wipeE, if_true, arr, Option.bind_some, List.reverse_nil, tupL, par2, par3, Nat.zero_add, Nat.reduceAdd, cap0, cap1, cap2, cap3])).trans ?_
  refine w_ret ?_
  simp only [List.set_cons_zero, List.set_cons_succ]
  rw [tt_tbl]
  have en : (t.length : Int) + 1 = ((t.length + 1 : Nat) : Int) := by omega
  refine w_tupl (w_lcr (by simp only [evSs, evS, evE, evEs, ok_bind, ok_thn, nx_seq, rt_seq, ok_calm, lift_some, rd_int, rd_bl, rd_tup, rd_lst, rd_rep, rd_scr, seqO_lst, seqO_tup, setTg1, bAdd, bSub, cLt, cLe, cGt, cGe, cEq, cNe, cmpS, lenT, lenL, bInt, getT, getLs, idT, idL, omap, List.map_cons, List.map_nil, List.replicate, List.cons_append, List.nil_append, List.append_nil, List.getElem?_cons_zero, List.getElem?_cons_succ, List.set_cons_zero, List.set_cons_succ, List.length_map, List.length_cons, List.length_nil, wipeE, if_true, arr, Option.bind_some, List.reverse_nil, tupL, par2, par3, Nat.zero_add, Nat.reduceAdd, cap0, cap1, cap2, cap3, okRn (n := t.length) (by omega)]; rfl) (by unfold cap; omega) fun a ha => ?_)
  unfold e2_1
  refine w_tupl (w_lcr (by simp only [evSs, evS, evE, evEs, ok_bind, ok_thn, nx_seq, rt_seq, ok_calm, lift_some, rd_int, rd_bl, rd_tup, rd_lst, rd_rep, rd_scr, seqO_lst, seqO_tup, setTg1, bAdd, bSub, cLt, cLe, cGt, cGe, cEq, cNe, cmpS, lenT, lenL, bInt, getT, getLs, idT, idL, omap, List.map_cons, List.map_nil, List.replicate, List.cons_append, List.nil_append, List.append_nil, List.getElem?_cons_zero, List.getElem?_cons_succ, List.set_cons_zero, List.set_cons_succ, List.length_map, List.length_cons, List.length_nil, wipeE, if_true, arr, Option.bind_some, List.reverse_nil, tupL, par2, par3, Nat.zero_add, Nat.reduceAdd, cap0, cap1, cap2, cap3, en, okRn (n := t.length + 1) (by omega)]; rfl) (by unfold cap; omega) fun L hL => ?_)
  unfold e2_0
  simp only [evSs, evS, evE, evEs, ok_bind, ok_thn, nx_seq, rt_seq, ok_calm, lift_some, rd_int, rd_bl, rd_tup, rd_lst, rd_rep, rd_scr, seqO_lst, seqO_tup, setTg1, bAdd, bSub, cLt, cLe, cGt, cGe, cEq, cNe, cmpS, lenT, lenL, bInt, getT, getLs, idT, idL, omap, List.map_cons, List.map_nil, List.replicate, List.cons_append, List.nil_append, List.append_nil, List.getElem?_cons_zero, List.getElem?_cons_succ, List.set_cons_zero, List.set_cons_succ, List.length_map, List.length_cons, List.length_nil, wipeE, if_true, arr, Option.bind_some, List.reverse_nil, tupL, par2, par3, Nat.zero_add, Nat.reduceAdd, cap0, cap1, cap2, cap3, h1 a L (by omega)]
theorem e11 (hn : 0 < t.length) (hl : t.length ≤ 100) : T5.run F (k + 3) 11 [I t] th s = .ok (Tt (tbl t)) s := by
  have h1 : T5.run F (k + 2) 2 [I t] noT [] = .ok (Tt (tbl t)) [] := e2 hn hl
  refine sld (env0 := [some (I t)]) F11 rfl rfl rfl (cc1 (ccI t)) rfl (e := []) ?_ (clTt 0 _)
  generalize T5.run F (k + 2) = cl at h1 ⊢
  exact w_ret (by simp only [evSs, evS, evE, evEs, ok_bind, ok_thn, nx_seq, rt_seq, ok_calm, lift_some, rd_int, rd_bl, rd_tup, rd_lst, rd_rep, rd_scr, seqO_lst, seqO_tup, setTg1, bAdd, bSub, cLt, cLe, cGt, cGe, cEq, cNe, cmpS, lenT, lenL, bInt, getT, getLs, idT, idL, omap, List.map_cons, List.map_nil, List.replicate, List.cons_append, List.nil_append, List.append_nil, List.getElem?_cons_zero, List.getElem?_cons_succ, List.set_cons_zero, List.set_cons_succ, List.length_map, List.length_cons, List.length_nil, wipeE, if_true, arr, Option.bind_some, List.reverse_nil, tupL, par2, par3, Nat.zero_add, Nat.reduceAdd, cap0, cap1, cap2, cap3, h1])
theorem e19 {a L i : Nat} (hn : 0 < t.length) : T5.run F (k + 1) 19 [I t, .int (a : Int), .int (L : Int), .int (i : Int)] th s = .ok (.bl (inR t a L i)) s := by
  refine sld (env0 := [some (I t), some (.int (a : Int)), some (.int (L : Int)), some (.int (i : Int))]) F19 rfl rfl rfl (by
    show (clean 0 (I t) && true) = true
    rw [ccI]
    rfl) rfl (e := []) ?_ rfl
  generalize T5.run F k = cl
  have m1 : binD .mod (.int ((a : Int) + (i : Int))) (.int (t.length : Int)) = some (.int (((a + i) % t.length : Nat) : Int)) := by
    rw [bMod (by omega), castMod]
  refine w_ret ?_
  simp only [evSs, evS, evE, evEs, ok_bind, ok_thn, nx_seq, rt_seq, ok_calm, lift_some, rd_int, rd_bl, rd_tup, rd_lst, rd_rep, rd_scr, seqO_lst, seqO_tup, setTg1, bAdd, bSub, cLt, cLe, cGt, cGe, cEq, cNe, cmpS, lenT, lenL, bInt, getT, getLs, idT, idL, omap, List.map_cons, List.map_nil, List.replicate, List.cons_append, List.nil_append, List.append_nil, List.getElem?_cons_zero, List.getElem?_cons_succ, List.set_cons_zero, List.set_cons_succ, List.length_map, List.length_cons, List.length_nil, wipeE, if_true, arr, Option.bind_some, List.reverse_nil, tupL, par2, par3, Nat.zero_add, Nat.reduceAdd, cap0, cap1, cap2, cap3, m1, ixD_ints (show (a + i) % t.length < t.length from Nat.mod_lt _ hn)]
  rfl
theorem e20 {a L : Nat} (hn : 0 < t.length) (hL : L ≤ 1000) : T5.run F (k + 2) 20 [I t, .int (a : Int), .int (L : Int)] th s = .ok (.int (rk t a L)) s := by
  have h1 : ∀ i : Nat, T5.run F (k + 1) 19 [I t, .int (a : Int), .int (L : Int), .int (i : Int)] noT [] = .ok (.bl (inR t a L i)) [] := fun i => e19 hn
  refine sld (env0 := [some (I t), some (.int (a : Int)), some (.int (L : Int)), none]) F20 rfl rfl rfl (c3 (ccI t) rfl rfl) rfl (e := []) ?_ rfl
  generalize T5.run F (k + 1) = cl at h1 ⊢
  refine w_ret ?_
  have h := w_lcrf (cl := cl) (own := [3]) (y := 3) (n := L) (e := .var 3) (it := .rng1 (.var 2)) (c := c20_0) (env := [some (I t), some (.int (a : Int)), some (.int (L : Int)), none]) (s := []) (s1 := []) (p := fun i => inR t a L i) (g := fun i => .int (i : Int)) (by simp only [evSs, evS, evE, evEs, ok_bind, ok_thn, nx_seq, rt_seq, ok_calm, lift_some, rd_int, rd_bl, rd_tup, rd_lst, rd_rep, rd_scr, seqO_lst, seqO_tup, setTg1, bAdd, bSub, cLt, cLe, cGt, cGe, cEq, cNe, cmpS, lenT, lenL, bInt, getT, getLs, idT, idL, omap, List.map_cons, List.map_nil, List.replicate, List.cons_append, List.nil_append, List.append_nil, List.getElem?_cons_zero, List.getElem?_cons_succ, List.set_cons_zero, List.set_cons_succ, List.length_map, List.length_cons, List.length_nil, wipeE, if_true, arr, Option.bind_some, List.reverse_nil, tupL, par2, par3, Nat.zero_add, Nat.reduceAdd, cap0, cap1, cap2, cap3, okRn (n := L) (by omega)]; rfl) (by unfold cap; omega) (fun i hi => ⟨by
    unfold c20_0
    simp only [evSs, evS, evE, evEs, ok_bind, ok_thn, nx_seq, rt_seq, ok_calm, lift_some, rd_int, rd_bl, rd_tup, rd_lst, rd_rep, rd_scr, seqO_lst, seqO_tup, setTg1, bAdd, bSub, cLt, cLe, cGt, cGe, cEq, cNe, cmpS, lenT, lenL, bInt, getT, getLs, idT, idL, omap, List.map_cons, List.map_nil, List.replicate, List.cons_append, List.nil_append, List.append_nil, List.getElem?_cons_zero, List.getElem?_cons_succ, List.set_cons_zero, List.set_cons_succ, List.length_map, List.length_cons, List.length_nil, wipeE, if_true, arr, Option.bind_some, List.reverse_nil, tupL, par2, par3, Nat.zero_add, Nat.reduceAdd, cap0, cap1, cap2, cap3, h1], fun _ => by simp only [evSs, evS, evE, evEs, ok_bind, ok_thn, nx_seq, rt_seq, ok_calm, lift_some, rd_int, rd_bl, rd_tup, rd_lst, rd_rep, rd_scr, seqO_lst, seqO_tup, setTg1, bAdd, bSub, cLt, cLe, cGt, cGe, cEq, cNe, cmpS, lenT, lenL, bInt, getT, getLs, idT, idL, omap, List.map_cons, List.map_nil, List.replicate, List.cons_append, List.nil_append, List.append_nil, List.getElem?_cons_zero, List.getElem?_cons_succ, List.set_cons_zero, List.set_cons_succ, List.length_map, List.length_cons, List.length_nil, wipeE, if_true, arr, Option.bind_some, List.reverse_nil, tupL, par2, par3, Nat.zero_add, Nat.reduceAdd, cap0, cap1, cap2, cap3]⟩)
  rw [w_bin (x := .int (L : Int)) (s1 := []) (by simp only [evSs, evS, evE, evEs, ok_bind, ok_thn, nx_seq, rt_seq, ok_calm, lift_some, rd_int, rd_bl, rd_tup, rd_lst, rd_rep, rd_scr, seqO_lst, seqO_tup, setTg1, bAdd, bSub, cLt, cLe, cGt, cGe, cEq, cNe, cmpS, lenT, lenL, bInt, getT, getLs, idT, idL, omap, List.map_cons, List.map_nil, List.replicate, List.cons_append, List.nil_append, List.append_nil, List.getElem?_cons_zero, List.getElem?_cons_succ, List.set_cons_zero, List.set_cons_succ, List.length_map, List.length_cons, List.length_nil, wipeE, if_true, arr, Option.bind_some, List.reverse_nil, tupL, par2, par3, Nat.zero_add, Nat.reduceAdd, cap0, cap1, cap2, cap3]) (w_len h)]
  simp only [evSs, evS, evE, evEs, ok_bind, ok_thn, nx_seq, rt_seq, ok_calm, lift_some, rd_int, rd_bl, rd_tup, rd_lst, rd_rep, rd_scr, seqO_lst, seqO_tup, setTg1, bAdd, bSub, cLt, cLe, cGt, cGe, cEq, cNe, cmpS, lenT, lenL, bInt, getT, getLs, idT, idL, omap, List.map_cons, List.map_nil, List.replicate, List.cons_append, List.nil_append, List.append_nil, List.getElem?_cons_zero, List.getElem?_cons_succ, List.set_cons_zero, List.set_cons_succ, List.length_map, List.length_cons, List.length_nil, wipeE, if_true, arr, Option.bind_some, List.reverse_nil, tupL, par2, par3, Nat.zero_add, Nat.reduceAdd, cap0, cap1, cap2, cap3]
  rfl
theorem e21 (hn : 0 < t.length) (hl : t.length ≤ 100) : T5.run F (k + 3) 21 [I t] th s = .ok (Tt (tbl t)) s := by
  have h1 : ∀ (a L : Nat), L ≤ t.length → T5.run F (k + 2) 20 [I t, .int (a : Int), .int (L : Int)] noT [] = .ok (.int (rk t a L)) [] := fun a L h => e20 hn (by omega)
  refine sld (env0 := [some (I t), none, none, none]) F21 rfl rfl rfl (cc1 (ccI t)) rfl (e := []) ?_ (clTt 0 _)
  generalize T5.run F (k + 2) = cl at h1 ⊢
  refine (w_asg (d := .int (t.length : Int)) (s1 := []) (by simp only [evSs, evS, evE, evEs, ok_bind, ok_thn, nx_seq, rt_seq, ok_calm, lift_some, rd_int, rd_bl, rd_tup, rd_lst, rd_rep, rd_scr, seqO_lst, seqO_tup, setTg1, bAdd, bSub, cLt, cLe, cGt, cGe, cEq, cNe, cmpS, lenT, lenL, bInt, getT, getLs, idT, idL, omap, List.map_cons, List.map_nil, List.replicate, List.cons_append, List.nil_append, List.append_nil, List.getElem?_cons_zero, List.getElem?_cons_succ, List.set_cons_zero, List.set_cons_succ, List.length_map, List.length_cons, List.length_nil, wipeE, if_true, arr, Option.bind_some, List.reverse_nil, tupL, par2, par3, Nat.zero_add, Nat.reduceAdd, cap0, cap1, cap2, cap3])).trans ?_
  refine w_ret ?_
  simp only [List.set_cons_zero, List.set_cons_succ]
  rw [tt_tbl]
  have en : (t.length : Int) + 1 = ((t.length + 1 : Nat) : Int) := by omega
  refine w_tupl (w_lcr (by simp only [evSs, evS, evE, evEs, ok_bind, ok_thn, nx_seq, rt_seq, ok_calm, lift_some, rd_int, rd_bl, rd_tup, rd_lst, rd_rep, rd_scr, seqO_lst, seqO_tup, setTg1, bAdd, bSub, cLt, cLe, cGt, cGe, cEq, cNe, cmpS, lenT, lenL, bInt, getT, getLs, idT, idL, omap, List.map_cons, List.map_nil, List.replicate, List.cons_append, List.nil_append, List.append_nil, List.getElem?_cons_zero, List.getElem?_cons_succ, List.set_cons_zero, List.set_cons_succ, List.length_map, List.length_cons, List.length_nil, wipeE, if_true, arr, Option.bind_some, List.reverse_nil, tupL, par2, par3, Nat.zero_add, Nat.reduceAdd, cap0, cap1, cap2, cap3, okRn (n := t.length) (by omega)]; rfl) (by unfold cap; omega) fun a ha => ?_)
  unfold e21_1
  refine w_tupl (w_lcr (by simp only [evSs, evS, evE, evEs, ok_bind, ok_thn, nx_seq, rt_seq, ok_calm, lift_some, rd_int, rd_bl, rd_tup, rd_lst, rd_rep, rd_scr, seqO_lst, seqO_tup, setTg1, bAdd, bSub, cLt, cLe, cGt, cGe, cEq, cNe, cmpS, lenT, lenL, bInt, getT, getLs, idT, idL, omap, List.map_cons, List.map_nil, List.replicate, List.cons_append, List.nil_append, List.append_nil, List.getElem?_cons_zero, List.getElem?_cons_succ, List.set_cons_zero, List.set_cons_succ, List.length_map, List.length_cons, List.length_nil, wipeE, if_true, arr, Option.bind_some, List.reverse_nil, tupL, par2, par3, Nat.zero_add, Nat.reduceAdd, cap0, cap1, cap2, cap3, en, okRn (n := t.length + 1) (by omega)]; rfl) (by unfold cap; omega) fun L hL => ?_)
  unfold e21_0
  simp only [evSs, evS, evE, evEs, ok_bind, ok_thn, nx_seq, rt_seq, ok_calm, lift_some, rd_int, rd_bl, rd_tup, rd_lst, rd_rep, rd_scr, seqO_lst, seqO_tup, setTg1, bAdd, bSub, cLt, cLe, cGt, cGe, cEq, cNe, cmpS, lenT, lenL, bInt, getT, getLs, idT, idL, omap, List.map_cons, List.map_nil, List.replicate, List.cons_append, List.nil_append, List.append_nil, List.getElem?_cons_zero, List.getElem?_cons_succ, List.set_cons_zero, List.set_cons_succ, List.length_map, List.length_cons, List.length_nil, wipeE, if_true, arr, Option.bind_some, List.reverse_nil, tupL, par2, par3, Nat.zero_add, Nat.reduceAdd, cap0, cap1, cap2, cap3, h1 a L (by omega)]
end
end K14

set_option Elab.async false
set_option linter.all false
set_option maxRecDepth 100000
set_option maxHeartbeats 4000000
/-! T5: K14, the first fault of a table. -/
namespace K14
open T5 PySem TabM
def h0 (m : Tab) (i : Nat) : Option D := if at' m i 0 == 0 then none else some (.tup [.str "nought", .int (i : Int)])
def h1 (m : Tab) (i : Nat) : Option D := if at' m i m.length == at' m 0 m.length then none else some (.tup [.str "whole", .int (i : Int)])
def bad (m : Tab) (i l : Nat) : Option D :=
  if decide (at' m i l - at' m i (l - 1) = 0) || decide (at' m i l - at' m i (l - 1) = 1) then
    (if decide (1 < l) && decide (at' m i (l - 1) + at' m ((i + 1) % m.length) (l - 1) < at' m i l + at' m ((i + 1) % m.length) (l - 2)) then some (.str "square") else none)
  else some (.str "ahead")
def h3 (m : Tab) (i l : Nat) : Option D := (bad m i (l + 1)).map fun w => .tup [w, .tup [.int (i : Int), .int ((l + 1 : Nat) : Int)]]
def h2 (m : Tab) (i : Nat) : Option D := (List.range m.length).findSome? (h3 m i)
def fl0 (m : Tab) : Option D := (List.range m.length).findSome? (h0 m)
def fl1 (m : Tab) : Option D := (List.range m.length).findSome? (h1 m)
def fl2 (m : Tab) : Option D := (List.range m.length).findSome? (h2 m)
def endf (m : Tab) : Option D := match fl0 m with
  | some d => some d
  | none => fl1 m
def flt (m : Tab) : Option D := match endf m with
  | some d => some d
  | none => fl2 m
def oD : Option D → D
  | some d => d
  | none => .non
inductive IsF (n : Nat) : D → Prop
  | a (i : Nat) (h : i < n) : IsF n (.tup [.str "nought", .int (i : Int)])
  | b (i : Nat) (h : i < n) : IsF n (.tup [.str "whole", .int (i : Int)])
  | c (i l : Nat) (h : i < n) (h2 : l ≤ n) : IsF n (.tup [.str "ahead", .tup [.int (i : Int), .int (l : Int)]])
  | d (i l : Nat) (h : i < n) (h2 : l ≤ n) : IsF n (.tup [.str "square", .tup [.int (i : Int), .int (l : Int)]])
theorem IsF.cl {n : Nat} {d : D} (h : IsF n d) (j : Nat) : clean j d = true := by
  cases h <;> rfl
theorem fs_ex {α : Type} {h : Nat → Option α} {n : Nat} {d : α} (e : (List.range n).findSome? h = some d) : ∃ i, i < n ∧ h i = some d := by
  obtain ⟨i, hi, hd⟩ := List.exists_of_findSome?_eq_some e
  exact ⟨i, List.mem_range.mp hi, hd⟩
section
variable {k : Nat} {t : List Int} {m : Tab} {th : Thk} {s : Sto} {d : D}
theorem is0 (h : fl0 m = some d) : IsF m.length d := by
  obtain ⟨i, hi, e⟩ := fs_ex h
  unfold h0 at e
  split at e
  · cases e
  · cases e
    exact .a i hi
theorem is1 (h : fl1 m = some d) : IsF m.length d := by
  obtain ⟨i, hi, e⟩ := fs_ex h
  unfold h1 at e
  split at e
  · cases e
  · cases e
    exact .b i hi
theorem is3 {i l : Nat} (hi : i < m.length) (hl : l < m.length) (h : h3 m i l = some d) : IsF m.length d := by
  unfold h3 bad at h
  split at h
  · split at h
    · cases h
      exact .d i (l + 1) hi (by omega)
    · cases h
  · cases h
    exact .c i (l + 1) hi (by omega)
theorem is2 (h : fl2 m = some d) : IsF m.length d := by
  obtain ⟨i, hi, e⟩ := fs_ex h
  obtain ⟨l, hl, e⟩ := fs_ex e
  exact is3 hi hl e
theorem isE (h : endf m = some d) : IsF m.length d := by
  unfold endf at h
  cases h0 : fl0 m with
  | some x => rw [h0] at h; cases h; exact is0 h0
  | none => rw [h0] at h; exact is1 h
theorem isF (h : flt m = some d) : IsF m.length d := by
  unfold flt at h
  cases h0 : endf m with
  | some x => rw [h0] at h; cases h; exact isE h0
  | none => rw [h0] at h; exact is2 h
/-- no fault: it holds -/
theorem fs_all {α : Type} {h : Nat → Option α} {n : Nat} (e : (List.range n).findSome? h = none) : ∀ i, i < n → h i = none := fun i hi => by
  rw [List.findSome?_eq_none_iff] at e
  exact e i (List.mem_range.mpr hi)
theorem holds_of (h : flt m = none) : Holds m := by
  unfold flt at h
  cases he : endf m with
  | some x => rw [he] at h; cases h
  | none =>
    rw [he] at h
    unfold endf at he
    cases h0' : fl0 m with
    | some x => rw [h0'] at he; cases he
    | none =>
      rw [h0'] at he
      have b : ∀ i, i < m.length → ∀ l, 1 ≤ l → l ≤ m.length → bad m i l = none := fun i hi l h1 h2 => by
        have := fs_all (fs_all h i hi) (l - 1) (by omega)
        unfold h3 at this
        rw [show l - 1 + 1 = l by omega] at this
        cases hb : bad m i l with
        | none => rfl
        | some x => rw [hb] at this; cases this
      refine ⟨fun i hi => ?_, fun i hi => ?_, fun i hi l h1 h2 => ?_, fun i hi l h1 h2 => ?_⟩
      · have := fs_all h0' i hi
        unfold h0 at this
        split at this
        · rename_i q
          exact beq_iff_eq.mp q
        · cases this
      · have := fs_all he i hi
        unfold K14.h1 at this
        split at this
        · rename_i q
          exact beq_iff_eq.mp q
        · cases this
      · have := b i hi l h1 h2
        unfold bad at this
        split at this
        · rename_i q
          simpa using q
        · cases this
      · have := b i hi l (by omega) h2
        unfold bad at this
        split at this
        · split at this
          · cases this
          · rename_i q
            rw [decide_eq_true (show 1 < l by omega), Bool.true_and, decide_eq_true_eq] at q
            omega
        · cases this
/-! ### the program -/
theorem bls_true : ∀ n : Nat, blsOf (List.replicate n (.bl true)) = some (List.replicate n true)
  | 0 => rfl
  | n + 1 => by
    show (blsOf (List.replicate n (.bl true))).map (true :: ·) = _
    rw [bls_true n]
    rfl
theorem w_all {cl : Calls} {env : T5.Env} {s s1 : Sto} {a : CE} {n : Nat} (ha : evE cl a env s = .ok (.lst (List.replicate n (.bl true))) s1) : evE cl (.bi .all (.cons a .nil)) env s = .ok (.bl true) s1 := by
  rw [bi1 ha]
  show lift ((blsOf (List.replicate n (.bl true))).map fun bs => D.bl (bs.all id)) s1 = _
  rw [bls_true]
  have : (List.replicate n true).all id = true := by
    rw [List.all_eq_true]
    intro x hx
    rw [List.eq_of_mem_replicate hx]
    rfl
  show R.ok (D.bl _) s1 = _
  rw [this]
theorem isT {l : List D} : biD .isi [.tup l, .ty "tuple"] = some (.bl true) := id rfl
theorem rdTy {s : Sto} {x : String} : rd s (.ty x) = .ty x := by cases s <;> rfl
theorem e3 (S : Sq m) (hl : m.length ≤ 100) : T5.run F (k + 2) 3 [Tt m] th s = .ok (.bl true) s := by
  have hn := S.pos
  have z : ∀ z : Int, T5.run F (k + 1) 0 [.int z] noT [] = .ok (.bl true) [] := fun z => e0
  refine sld (env0 := [some (Tt m), none, none]) F3 rfl rfl rfl (cc1 (clTt 0 m)) rfl (e := []) ?_ rfl
  generalize T5.run F (k + 1) = cl at z ⊢
  have nz : ((m.length : Int) == 0) = false := beq_eq_false_iff_ne.mpr (by omega)
  refine (w_skip (s1 := []) (by simp only [evSs, evS, evE, evEs, ok_bind, ok_thn, nx_seq, rt_seq, ok_calm, lift_some, rd_int, rd_bl, rd_tup, rd_lst, rd_rep, rd_scr, seqO_lst, seqO_tup, setTg1, bAdd, bSub, cLt, cLe, cGt, cGe, cEq, cNe, cmpS, lenT, lenL, bInt, getT, getLs, idT, idL, omap, List.map_cons, List.map_nil, List.replicate, List.cons_append, List.nil_append, List.append_nil, List.getElem?_cons_zero, List.getElem?_cons_succ, List.set_cons_zero, List.set_cons_succ, List.length_map, List.length_cons, List.length_nil, wipeE, if_true, arr, Option.bind_some, List.reverse_nil, tupL, par2, par3, Nat.zero_add, Nat.reduceAdd, cap0, cap1, cap2, cap3, isT, rdTy, Bool.not_true, nz])).trans ?_
  refine w_loop (I := fun _ env s => ∃ a b, env = [some (Tt m), a, b] ∧ s = []) (P := fun r => r = .rt (.bl true) []) (x := Tt m) (xs := m.map I) (s1 := []) (by simp only [evSs, evS, evE, evEs, ok_bind, ok_thn, nx_seq, rt_seq, ok_calm, lift_some, rd_int, rd_bl, rd_tup, rd_lst, rd_rep, rd_scr, seqO_lst, seqO_tup, setTg1, bAdd, bSub, cLt, cLe, cGt, cGe, cEq, cNe, cmpS, lenT, lenL, bInt, getT, getLs, idT, idL, omap, List.map_cons, List.map_nil, List.replicate, List.cons_append, List.nil_append, List.append_nil, List.getElem?_cons_zero, List.getElem?_cons_succ, List.set_cons_zero, List.set_cons_succ, List.length_map, List.length_cons, List.length_nil, wipeE, if_true, arr, Option.bind_some, List.reverse_nil, tupL, par2, par3, Nat.zero_add, Nat.reduceAdd, cap0, cap1, cap2, cap3]) seqO_tup ⟨none, none, rfl, rfl⟩ (fun i y hy env s ⟨a, b, q1, q2⟩ => ?_) fun env s ⟨a, b, q1, q2⟩ => ?_
  · subst q1 q2
    have hi : i < m.length := by
      have := (List.getElem?_eq_some_iff.mp hy).1
      rwa [List.length_map] at this
    have hy' : y = I (m.getD i []) := by
      rw [List.getElem?_map, List.getElem?_eq_getElem hi] at hy
      cases hy
      rw [List.getD_eq_getElem?_getD, List.getElem?_eq_getElem hi]
      rfl
    subst hy'
    have hr := S.row i hi
    refine ⟨_, _, _, setTg1, (w_skip (s1 := []) ?_).trans w_nil, _, _, rfl, rfl⟩
    simp only [List.set_cons_zero, List.set_cons_succ]
    have ha := w_all (cl := cl) (env := [some (Tt m), some (I (m.getD i [])), b]) (s := []) (s1 := []) (n := (m.getD i []).length) (a := .lc [2] [2] e3_0 (.var 1) (.con (.bl true))) (by
      have q := w_lc (cl := cl) (own := [2]) (tg := [2]) (e := e3_0) (it := .var 1) (env := [some (Tt m), some (I (m.getD i [])), b]) (s := []) (s1 := []) (x := I (m.getD i [])) (xs := (m.getD i []).map .int) (g := fun _ => .bl true) (by simp only [evSs, evS, evE, evEs, ok_bind, ok_thn, nx_seq, rt_seq, ok_calm, lift_some, rd_int, rd_bl, rd_tup, rd_lst, rd_rep, rd_scr, seqO_lst, seqO_tup, setTg1, bAdd, bSub, cLt, cLe, cGt, cGe, cEq, cNe, cmpS, lenT, lenL, bInt, getT, getLs, idT, idL, omap, List.map_cons, List.map_nil, List.replicate, List.cons_append, List.nil_append, List.append_nil, List.getElem?_cons_zero, List.getElem?_cons_succ, List.set_cons_zero, List.set_cons_succ, List.length_map, List.length_cons, List.length_nil, wipeE, if_true, arr, Option.bind_some, List.reverse_nil, tupL, par2, par3, Nat.zero_add, Nat.reduceAdd, cap0, cap1, cap2, cap3]) seqO_tup (by rw [List.length_map]; unfold cap; omega) (fun y hy => by
        obtain ⟨j, _, rfl⟩ := List.mem_map.mp hy
        refine ⟨_, setTg1, ?_⟩
        unfold e3_0
        simp only [evSs, evS, evE, evEs, ok_bind, ok_thn, nx_seq, rt_seq, ok_calm, lift_some, rd_int, rd_bl, rd_tup, rd_lst, rd_rep, rd_scr, seqO_lst, seqO_tup, setTg1, bAdd, bSub, cLt, cLe, cGt, cGe, cEq, cNe, cmpS, lenT, lenL, bInt, getT, getLs, idT, idL, omap, List.map_cons, List.map_nil, List.replicate, List.cons_append, List.nil_append, List.append_nil, List.getElem?_cons_zero, List.getElem?_cons_succ, List.set_cons_zero, List.set_cons_succ, List.length_map, List.length_cons, List.length_nil, wipeE, if_true, arr, Option.bind_some, List.reverse_nil, tupL, par2, par3, Nat.zero_add, Nat.reduceAdd, cap0, cap1, cap2, cap3, z])
      rw [q, List.map_map]
      congr 2
      exact List.map_const' ..)
    have ne : (!(((m.getD i []).length : Int) == (m.length : Int) + 1)) = false := by
      rw [hr]
      have : (((m.length + 1 : Nat) : Int) == (m.length : Int) + 1) = true := beq_iff_eq.mpr (by omega)
      rw [this]
      rfl
    have g1 : evE cl (.not (.bi .all (.cons (.lc [2] [2] e3_0 (.var 1) (.con (.bl true))) .nil))) [some (Tt m), some (I (m.getD i [])), b] [] = .ok (.bl false) [] := by
      rw [evE, ha]
      simp only [evSs, evS, evE, evEs, ok_bind, ok_thn, nx_seq, rt_seq, ok_calm, lift_some, rd_int, rd_bl, rd_tup, rd_lst, rd_rep, rd_scr, seqO_lst, seqO_tup, setTg1, bAdd, bSub, cLt, cLe, cGt, cGe, cEq, cNe, cmpS, lenT, lenL, bInt, getT, getLs, idT, idL, omap, List.map_cons, List.map_nil, List.replicate, List.cons_append, List.nil_append, List.append_nil, List.getElem?_cons_zero, List.getElem?_cons_succ, List.set_cons_zero, List.set_cons_succ, List.length_map, List.length_cons, List.length_nil, wipeE, if_true, arr, Option.bind_some, List.reverse_nil, tupL, par2, par3, Nat.zero_add, Nat.reduceAdd, cap0, cap1, cap2, cap3, Bool.not_true]
    rw [evE, show evE cl (.not (.bi .isi (.cons (.var 1) (.cons (.con (.ty "tuple")) .nil)))) [some (Tt m), some (I (m.getD i [])), b] [] = .ok (.bl false) [] by simp only [evSs, evS, evE, evEs, ok_bind, ok_thn, nx_seq, rt_seq, ok_calm, lift_some, rd_int, rd_bl, rd_tup, rd_lst, rd_rep, rd_scr, seqO_lst, seqO_tup, setTg1, bAdd, bSub, cLt, cLe, cGt, cGe, cEq, cNe, cmpS, lenT, lenL, bInt, getT, getLs, idT, idL, omap, List.map_cons, List.map_nil, List.replicate, List.cons_append, List.nil_append, List.append_nil, List.getElem?_cons_zero, List.getElem?_cons_succ, List.set_cons_zero, List.set_cons_succ, List.length_map, List.length_cons, List.length_nil, wipeE, if_true, arr, Option.bind_some, List.reverse_nil, tupL, par2, par3, Nat.zero_add, Nat.reduceAdd, cap0, cap1, cap2, cap3, isT, rdTy, Bool.not_true]]
    simp only [ok_bind]
    rw [evE, show evE cl (.cmp .ne (.bi .len (.cons (.var 1) .nil)) (.bin .add (.bi .len (.cons (.var 0) .nil)) (.con (.int 1)))) [some (Tt m), some (I (m.getD i [])), b] [] = .ok (.bl false) [] by simp only [evSs, evS, evE, evEs, ok_bind, ok_thn, nx_seq, rt_seq, ok_calm, lift_some, rd_int, rd_bl, rd_tup, rd_lst, rd_rep, rd_scr, seqO_lst, seqO_tup, setTg1, bAdd, bSub, cLt, cLe, cGt, cGe, cEq, cNe, cmpS, lenT, lenL, bInt, getT, getLs, idT, idL, omap, List.map_cons, List.map_nil, List.replicate, List.cons_append, List.nil_append, List.append_nil, List.getElem?_cons_zero, List.getElem?_cons_succ, List.set_cons_zero, List.set_cons_succ, List.length_map, List.length_cons, List.length_nil, wipeE, if_true, arr, Option.bind_some, List.reverse_nil, tupL, par2, par3, Nat.zero_add, Nat.reduceAdd, cap0, cap1, cap2, cap3, ne]]
    simp only [ok_bind]
    exact g1
  · subst q1 q2
    exact w_ret (by simp only [evSs, evS, evE, evEs, ok_bind, ok_thn, nx_seq, rt_seq, ok_calm, lift_some, rd_int, rd_bl, rd_tup, rd_lst, rd_rep, rd_scr, seqO_lst, seqO_tup, setTg1, bAdd, bSub, cLt, cLe, cGt, cGe, cEq, cNe, cmpS, lenT, lenL, bInt, getT, getLs, idT, idL, omap, List.map_cons, List.map_nil, List.replicate, List.cons_append, List.nil_append, List.append_nil, List.getElem?_cons_zero, List.getElem?_cons_succ, List.set_cons_zero, List.set_cons_succ, List.length_map, List.length_cons, List.length_nil, wipeE, if_true, arr, Option.bind_some, List.reverse_nil, tupL, par2, par3, Nat.zero_add, Nat.reduceAdd, cap0, cap1, cap2, cap3])
end
end K14

set_option Elab.async false
set_option linter.all false
set_option maxRecDepth 100000
set_option maxHeartbeats 4000000
/-! T5: K14, the program's look for faults. -/
namespace K14
open T5 PySem TabM
section
variable {k : Nat} {t : List Int} {m : Tab} {th : Thk} {s : Sto} {d : D}
theorem ent (S : Sq m) {i j : Nat} (hi : i < m.length) (hj : j ≤ m.length) : ixD ((m.getD i []).map .int) (j : Int) = some (.int (at' m i j)) := ixD_ints (by have := S.row i hi; omega)
theorem ent0 (S : Sq m) {i : Nat} (hi : i < m.length) : ixD ((m.getD i []).map .int) 0 = some (.int (at' m i 0)) := ent (j := 0) S hi (Nat.zero_le _)
theorem entL (S : Sq m) {i : Nat} (hi : i < m.length) : ixD ((m.getD i []).map .int) (-1) = some (.int (at' m i m.length)) := by
  have h := S.row i hi
  rw [ix_last (by omega), h, Nat.add_sub_cancel]
  rfl
theorem row0 (S : Sq m) : ixD (m.map I) 0 = some (I (m.getD 0 [])) := ix_row (i := 0) S.pos
theorem enT {i : Nat} {y : D} (hy : (enumL 0 (m.map I))[i]? = some y) : i < m.length ∧ y = .tup [.int (i : Int), I (m.getD i [])] := by
  rw [enum_at, List.getElem?_map] at hy
  by_cases hi : i < m.length
  · rw [List.getElem?_eq_getElem hi] at hy
    cases hy
    refine ⟨hi, ?_⟩
    rw [List.getD_eq_getElem?_getD, List.getElem?_eq_getElem hi, Nat.zero_add]
    rfl
  · rw [List.getElem?_eq_none (by omega)] at hy
    cases hy
theorem clO {n : Nat} {o : Option D} (h : ∀ d, o = some d → IsF n d) (j : Nat) : clean j (oD o) = true := by
  cases o with
  | none => rfl
  | some d => exact (h d rfl).cl j
theorem e4 (S : Sq m) (hl : m.length ≤ 100) : T5.run F (k + 1) 4 [Tt m] th s = .ok (oD (endf m)) s := by
  have hn := S.pos
  refine sld (env0 := [some (Tt m), none, none]) F4 rfl rfl rfl (cc1 (clTt 0 m)) rfl (e := []) ?_ (clO (fun d => isE) 0)
  generalize T5.run F k = cl
  refine w_fs (h := h0 m) (xs := enumL 0 (m.map I)) (n := m.length) (I := fun env => ∃ a b, env = [some (Tt m), a, b]) (P := fun r => r = .rt (oD (endf m)) []) (x := .lst (enumL 0 (m.map I))) (s1 := []) (by simp only [evSs, evS, evE, evEs, ok_bind, ok_thn, nx_seq, rt_seq, ok_calm, lift_some, rd_int, rd_bl, rd_tup, rd_lst, rd_rep, rd_scr, seqO_lst, seqO_tup, setTg1, bAdd, bSub, cLt, cLe, cGt, cGe, cEq, cNe, cmpS, lenT, lenL, bInt, getT, getLs, idT, idL, omap, List.map_cons, List.map_nil, List.replicate, List.cons_append, List.nil_append, List.append_nil, List.getElem?_cons_zero, List.getElem?_cons_succ, List.set_cons_zero, List.set_cons_succ, List.length_map, List.length_cons, List.length_nil, wipeE, if_true, arr, Option.bind_some, List.reverse_nil, tupL, par2, par3, Nat.zero_add, Nat.reduceAdd, cap0, cap1, cap2, cap3]) seqO_lst (by rw [enum_len, List.length_map]) ⟨none, none, rfl⟩ (fun i y hy env ⟨a, b, q⟩ => ?_) (fun d hd => ?_) (fun hd env ⟨a, b, q⟩ => ?_)
  · subst q
    obtain ⟨hi, rfl⟩ := enT hy
    refine ⟨_, setTg2, ?_⟩
    simp only [List.set_cons_zero, List.set_cons_succ]
    unfold h0 l4_0
    cases hc : (at' m i 0 == 0) with
    | true => exact .inr ⟨rfl, _, (w_skip (s1 := []) (by simp only [evSs, evS, evE, evEs, ok_bind, ok_thn, nx_seq, rt_seq, ok_calm, lift_some, rd_int, rd_bl, rd_tup, rd_lst, rd_rep, rd_scr, seqO_lst, seqO_tup, setTg1, bAdd, bSub, cLt, cLe, cGt, cGe, cEq, cNe, cmpS, lenT, lenL, bInt, getT, getLs, idT, idL, omap, List.map_cons, List.map_nil, List.replicate, List.cons_append, List.nil_append, List.append_nil, List.getElem?_cons_zero, List.getElem?_cons_succ, List.set_cons_zero, List.set_cons_succ, List.length_map, List.length_cons, List.length_nil, wipeE, if_true, arr, Option.bind_some, List.reverse_nil, tupL, par2, par3, Nat.zero_add, Nat.reduceAdd, cap0, cap1, cap2, cap3, ent0 S hi, hc, Bool.not_true])).trans w_nil, _, _, rfl⟩
    | false => exact .inl ⟨_, rfl, w_if_rt (s1 := []) (by simp only [evSs, evS, evE, evEs, ok_bind, ok_thn, nx_seq, rt_seq, ok_calm, lift_some, rd_int, rd_bl, rd_tup, rd_lst, rd_rep, rd_scr, seqO_lst, seqO_tup, setTg1, bAdd, bSub, cLt, cLe, cGt, cGe, cEq, cNe, cmpS, lenT, lenL, bInt, getT, getLs, idT, idL, omap, List.map_cons, List.map_nil, List.replicate, List.cons_append, List.nil_append, List.append_nil, List.getElem?_cons_zero, List.getElem?_cons_succ, List.set_cons_zero, List.set_cons_succ, List.length_map, List.length_cons, List.length_nil, wipeE, if_true, arr, Option.bind_some, List.reverse_nil, tupL, par2, par3, Nat.zero_add, Nat.reduceAdd, cap0, cap1, cap2, cap3, ent0 S hi, hc, Bool.not_false]) (w_ret (by simp only [evSs, evS, evE, evEs, ok_bind, ok_thn, nx_seq, rt_seq, ok_calm, lift_some, rd_int, rd_bl, rd_tup, rd_lst, rd_rep, rd_scr, seqO_lst, seqO_tup, setTg1, bAdd, bSub, cLt, cLe, cGt, cGe, cEq, cNe, cmpS, lenT, lenL, bInt, getT, getLs, idT, idL, omap, List.map_cons, List.map_nil, List.replicate, List.cons_append, List.nil_append, List.append_nil, List.getElem?_cons_zero, List.getElem?_cons_succ, List.set_cons_zero, List.set_cons_succ, List.length_map, List.length_cons, List.length_nil, wipeE, if_true, arr, Option.bind_some, List.reverse_nil, tupL, par2, par3, Nat.zero_add, Nat.reduceAdd, cap0, cap1, cap2, cap3]))⟩
  · show _ = _
    unfold endf
    rw [show fl0 m = some d from hd]
    rfl
  subst q
  refine w_fs (h := h1 m) (xs := enumL 0 (m.map I)) (n := m.length) (I := fun env => ∃ a b, env = [some (Tt m), a, b]) (P := fun r => r = .rt (oD (endf m)) []) (x := .lst (enumL 0 (m.map I))) (s1 := []) (by simp only [evSs, evS, evE, evEs, ok_bind, ok_thn, nx_seq, rt_seq, ok_calm, lift_some, rd_int, rd_bl, rd_tup, rd_lst, rd_rep, rd_scr, seqO_lst, seqO_tup, setTg1, bAdd, bSub, cLt, cLe, cGt, cGe, cEq, cNe, cmpS, lenT, lenL, bInt, getT, getLs, idT, idL, omap, List.map_cons, List.map_nil, List.replicate, List.cons_append, List.nil_append, List.append_nil, List.getElem?_cons_zero, List.getElem?_cons_succ, List.set_cons_zero, List.set_cons_succ, List.length_map, List.length_cons, List.length_nil, wipeE, if_true, arr, Option.bind_some, List.reverse_nil, tupL, par2, par3, Nat.zero_add, Nat.reduceAdd, cap0, cap1, cap2, cap3]) seqO_lst (by rw [enum_len, List.length_map]) ⟨a, b, rfl⟩ (fun i y hy env ⟨a, b, q⟩ => ?_) (fun d hd2 => ?_) (fun hd2 env ⟨a, b, q⟩ => ?_)
  · subst q
    obtain ⟨hi, rfl⟩ := enT hy
    refine ⟨_, setTg2, ?_⟩
    simp only [List.set_cons_zero, List.set_cons_succ]
    unfold h1 l4_1
    have en : (-(1 : Int)) = -1 := rfl
    cases hc : (at' m i m.length == at' m 0 m.length) with
    | true => exact .inr ⟨rfl, _, (w_skip (s1 := []) (by simp only [evSs, evS, evE, evEs, ok_bind, ok_thn, nx_seq, rt_seq, ok_calm, lift_some, rd_int, rd_bl, rd_tup, rd_lst, rd_rep, rd_scr, seqO_lst, seqO_tup, setTg1, bAdd, bSub, cLt, cLe, cGt, cGe, cEq, cNe, cmpS, lenT, lenL, bInt, getT, getLs, idT, idL, omap, List.map_cons, List.map_nil, List.replicate, List.cons_append, List.nil_append, List.append_nil, List.getElem?_cons_zero, List.getElem?_cons_succ, List.set_cons_zero, List.set_cons_succ, List.length_map, List.length_cons, List.length_nil, wipeE, if_true, arr, Option.bind_some, List.reverse_nil, tupL, par2, par3, Nat.zero_add, Nat.reduceAdd, cap0, cap1, cap2, cap3, en, row0 S, entL S hi, entL S hn, hc, Bool.not_true])).trans w_nil, _, _, rfl⟩
    | false => exact .inl ⟨_, rfl, w_if_rt (s1 := []) (by simp only [evSs, evS, evE, evEs, ok_bind, ok_thn, nx_seq, rt_seq, ok_calm, lift_some, rd_int, rd_bl, rd_tup, rd_lst, rd_rep, rd_scr, seqO_lst, seqO_tup, setTg1, bAdd, bSub, cLt, cLe, cGt, cGe, cEq, cNe, cmpS, lenT, lenL, bInt, getT, getLs, idT, idL, omap, List.map_cons, List.map_nil, List.replicate, List.cons_append, List.nil_append, List.append_nil, List.getElem?_cons_zero, List.getElem?_cons_succ, List.set_cons_zero, List.set_cons_succ, List.length_map, List.length_cons, List.length_nil, wipeE, if_true, arr, Option.bind_some, List.reverse_nil, tupL, par2, par3, Nat.zero_add, Nat.reduceAdd, cap0, cap1, cap2, cap3, en, row0 S, entL S hi, entL S hn, hc, Bool.not_false]) (w_ret (by simp only [evSs, evS, evE, evEs, ok_bind, ok_thn, nx_seq, rt_seq, ok_calm, lift_some, rd_int, rd_bl, rd_tup, rd_lst, rd_rep, rd_scr, seqO_lst, seqO_tup, setTg1, bAdd, bSub, cLt, cLe, cGt, cGe, cEq, cNe, cmpS, lenT, lenL, bInt, getT, getLs, idT, idL, omap, List.map_cons, List.map_nil, List.replicate, List.cons_append, List.nil_append, List.append_nil, List.getElem?_cons_zero, List.getElem?_cons_succ, List.set_cons_zero, List.set_cons_succ, List.length_map, List.length_cons, List.length_nil, wipeE, if_true, arr, Option.bind_some, List.reverse_nil, tupL, par2, par3, Nat.zero_add, Nat.reduceAdd, cap0, cap1, cap2, cap3]))⟩
  · show _ = _
    unfold endf
    rw [show fl0 m = none from hd, show fl1 m = some d from hd2]
    rfl
  subst q
  show _ = _
  unfold endf
  rw [show fl0 m = none from hd, show fl1 m = none from hd2]
  exact w_ret (by simp only [evSs, evS, evE, evEs, ok_bind, ok_thn, nx_seq, rt_seq, ok_calm, lift_some, rd_int, rd_bl, rd_tup, rd_lst, rd_rep, rd_scr, seqO_lst, seqO_tup, setTg1, bAdd, bSub, cLt, cLe, cGt, cGe, cEq, cNe, cmpS, lenT, lenL, bInt, getT, getLs, idT, idL, omap, List.map_cons, List.map_nil, List.replicate, List.cons_append, List.nil_append, List.append_nil, List.getElem?_cons_zero, List.getElem?_cons_succ, List.set_cons_zero, List.set_cons_succ, List.length_map, List.length_cons, List.length_nil, wipeE, if_true, arr, Option.bind_some, List.reverse_nil, tupL, par2, par3, Nat.zero_add, Nat.reduceAdd, cap0, cap1, cap2, cap3]; rfl)
theorem clS {o : Option D} (h : ∀ d, o = some d → ∃ w, d = .str w) (j : Nat) : clean j (oD o) = true := by
  cases o with
  | none => rfl
  | some d => obtain ⟨w, rfl⟩ := h d rfl; rfl
theorem bad_str {i l : Nat} (h : bad m i l = some d) : ∃ w, d = .str w := by
  unfold bad at h
  split at h
  · split at h
    · cases h; exact ⟨_, rfl⟩
    · cases h
  · cases h; exact ⟨_, rfl⟩
theorem e5 (S : Sq m) {i l : Nat} (hi : i < m.length) (h1 : 1 ≤ l) (h2 : l ≤ m.length) : T5.run F (k + 1) 5 [Tt m, .int (i : Int), .int (l : Int)] th s = .ok (oD (bad m i l)) s := by
  have hn := S.pos
  have hi' : (i + 1) % m.length < m.length := Nat.mod_lt _ hn
  refine sld (env0 := [some (Tt m), some (.int (i : Int)), some (.int (l : Int)), none, none]) F5 rfl rfl rfl (c3 (clTt 0 m) rfl rfl) rfl (e := []) ?_ (clS (fun d => bad_str) 0)
  generalize T5.run F k = cl
  have m1 : binD .mod (.int ((i : Int) + 1)) (.int (m.length : Int)) = some (.int (((i + 1) % m.length : Nat) : Int)) := by
    rw [bMod (by omega), show (i : Int) + 1 = (i : Int) + ((1 : Nat) : Int) from rfl, castMod]
  refine (w_par (ds := [I (m.getD i []), I (m.getD ((i + 1) % m.length) [])]) (s1 := []) (by simp only [evSs, evS, evE, evEs, ok_bind, ok_thn, nx_seq, rt_seq, ok_calm, lift_some, rd_int, rd_bl, rd_tup, rd_lst, rd_rep, rd_scr, seqO_lst, seqO_tup, setTg1, bAdd, bSub, cLt, cLe, cGt, cGe, cEq, cNe, cmpS, lenT, lenL, bInt, getT, getLs, idT, idL, omap, List.map_cons, List.map_nil, List.replicate, List.cons_append, List.nil_append, List.append_nil, List.getElem?_cons_zero, List.getElem?_cons_succ, List.set_cons_zero, List.set_cons_succ, List.length_map, List.length_cons, List.length_nil, wipeE, if_true, arr, Option.bind_some, List.reverse_nil, tupL, par2, par3, Nat.zero_add, Nat.reduceAdd, cap0, cap1, cap2, cap3, m1, ix_row hi, ix_row hi']) par2).trans ?_
  simp only [List.set_cons_zero, List.set_cons_succ]
  have l1 : (l : Int) - 1 = ((l - 1 : Nat) : Int) := by omega
  have a1 := ent S hi h2
  have a2 := ent (j := l - 1) S hi (by omega)
  unfold bad
  cases hc : (decide (at' m i l - at' m i (l - 1) = 0) || decide (at' m i l - at' m i (l - 1) = 1)) with
  | false =>
    refine w_if_rt (s1 := []) (by simp only [evSs, evS, evE, evEs, ok_bind, ok_thn, nx_seq, rt_seq, ok_calm, lift_some, rd_int, rd_bl, rd_tup, rd_lst, rd_rep, rd_scr, seqO_lst, seqO_tup, setTg1, bAdd, bSub, cLt, cLe, cGt, cGe, cEq, cNe, cmpS, lenT, lenL, bInt, getT, getLs, idT, idL, omap, List.map_cons, List.map_nil, List.replicate, List.cons_append, List.nil_append, List.append_nil, List.getElem?_cons_zero, List.getElem?_cons_succ, List.set_cons_zero, List.set_cons_succ, List.length_map, List.length_cons, List.length_nil, wipeE, if_true, arr, Option.bind_some, List.reverse_nil, tupL, par2, par3, Nat.zero_add, Nat.reduceAdd, cap0, cap1, cap2, cap3, l1, a1, a2, nmem2, hc, Bool.not_false]) ?_
    exact w_ret (by simp only [evSs, evS, evE, evEs, ok_bind, ok_thn, nx_seq, rt_seq, ok_calm, lift_some, rd_int, rd_bl, rd_tup, rd_lst, rd_rep, rd_scr, seqO_lst, seqO_tup, setTg1, bAdd, bSub, cLt, cLe, cGt, cGe, cEq, cNe, cmpS, lenT, lenL, bInt, getT, getLs, idT, idL, omap, List.map_cons, List.map_nil, List.replicate, List.cons_append, List.nil_append, List.append_nil, List.getElem?_cons_zero, List.getElem?_cons_succ, List.set_cons_zero, List.set_cons_succ, List.length_map, List.length_cons, List.length_nil, wipeE, if_true, arr, Option.bind_some, List.reverse_nil, tupL, par2, par3, Nat.zero_add, Nat.reduceAdd, cap0, cap1, cap2, cap3]; rfl)
  | true =>
    rw [w_skip (s1 := []) (by simp only [evSs, evS, evE, evEs, ok_bind, ok_thn, nx_seq, rt_seq, ok_calm, lift_some, rd_int, rd_bl, rd_tup, rd_lst, rd_rep, rd_scr, seqO_lst, seqO_tup, setTg1, bAdd, bSub, cLt, cLe, cGt, cGe, cEq, cNe, cmpS, lenT, lenL, bInt, getT, getLs, idT, idL, omap, List.map_cons, List.map_nil, List.replicate, List.cons_append, List.nil_append, List.append_nil, List.getElem?_cons_zero, List.getElem?_cons_succ, List.set_cons_zero, List.set_cons_succ, List.length_map, List.length_cons, List.length_nil, wipeE, if_true, arr, Option.bind_some, List.reverse_nil, tupL, par2, par3, Nat.zero_add, Nat.reduceAdd, cap0, cap1, cap2, cap3, l1, a1, a2, nmem2, hc, Bool.not_true])]
    by_cases h3 : 1 < l
    · have l2 : (l : Int) - 2 = ((l - 2 : Nat) : Int) := by omega
      have b1 := ent (j := l - 1) S hi' (by omega)
      have b2 := ent (j := l - 2) S hi' (by omega)
      have c1 : decide (1 < (l : Int)) = true := decide_eq_true (by omega)
      simp only [decide_eq_true h3, Bool.true_and, if_true]
      cases hq : decide (at' m i (l - 1) + at' m ((i + 1) % m.length) (l - 1) < at' m i l + at' m ((i + 1) % m.length) (l - 2)) with
      | true =>
        simp only [if_true]
        refine w_if_rt (s1 := []) (by simp only [evSs, evS, evE, evEs, ok_bind, ok_thn, nx_seq, rt_seq, ok_calm, lift_some, rd_int, rd_bl, rd_tup, rd_lst, rd_rep, rd_scr, seqO_lst, seqO_tup, setTg1, bAdd, bSub, cLt, cLe, cGt, cGe, cEq, cNe, cmpS, lenT, lenL, bInt, getT, getLs, idT, idL, omap, List.map_cons, List.map_nil, List.replicate, List.cons_append, List.nil_append, List.append_nil, List.getElem?_cons_zero, List.getElem?_cons_succ, List.set_cons_zero, List.set_cons_succ, List.length_map, List.length_cons, List.length_nil, wipeE, if_true, arr, Option.bind_some, List.reverse_nil, tupL, par2, par3, Nat.zero_add, Nat.reduceAdd, cap0, cap1, cap2, cap3, c1, l1, l2, a1, a2, b1, b2, hq]) ?_
        exact w_ret (by simp only [evSs, evS, evE, evEs, ok_bind, ok_thn, nx_seq, rt_seq, ok_calm, lift_some, rd_int, rd_bl, rd_tup, rd_lst, rd_rep, rd_scr, seqO_lst, seqO_tup, setTg1, bAdd, bSub, cLt, cLe, cGt, cGe, cEq, cNe, cmpS, lenT, lenL, bInt, getT, getLs, idT, idL, omap, List.map_cons, List.map_nil, List.replicate, List.cons_append, List.nil_append, List.append_nil, List.getElem?_cons_zero, List.getElem?_cons_succ, List.set_cons_zero, List.set_cons_succ, List.length_map, List.length_cons, List.length_nil, wipeE, if_true, arr, Option.bind_some, List.reverse_nil, tupL, par2, par3, Nat.zero_add, Nat.reduceAdd, cap0, cap1, cap2, cap3]; rfl)
      | false =>
        simp only [Bool.false_eq_true, if_false]
        rw [w_skip (s1 := []) (by simp only [evSs, evS, evE, evEs, ok_bind, ok_thn, nx_seq, rt_seq, ok_calm, lift_some, rd_int, rd_bl, rd_tup, rd_lst, rd_rep, rd_scr, seqO_lst, seqO_tup, setTg1, bAdd, bSub, cLt, cLe, cGt, cGe, cEq, cNe, cmpS, lenT, lenL, bInt, getT, getLs, idT, idL, omap, List.map_cons, List.map_nil, List.replicate, List.cons_append, List.nil_append, List.append_nil, List.getElem?_cons_zero, List.getElem?_cons_succ, List.set_cons_zero, List.set_cons_succ, List.length_map, List.length_cons, List.length_nil, wipeE, if_true, arr, Option.bind_some, List.reverse_nil, tupL, par2, par3, Nat.zero_add, Nat.reduceAdd, cap0, cap1, cap2, cap3, c1, l1, l2, a1, a2, b1, b2, hq])]
        exact w_ret (by simp only [evSs, evS, evE, evEs, ok_bind, ok_thn, nx_seq, rt_seq, ok_calm, lift_some, rd_int, rd_bl, rd_tup, rd_lst, rd_rep, rd_scr, seqO_lst, seqO_tup, setTg1, bAdd, bSub, cLt, cLe, cGt, cGe, cEq, cNe, cmpS, lenT, lenL, bInt, getT, getLs, idT, idL, omap, List.map_cons, List.map_nil, List.replicate, List.cons_append, List.nil_append, List.append_nil, List.getElem?_cons_zero, List.getElem?_cons_succ, List.set_cons_zero, List.set_cons_succ, List.length_map, List.length_cons, List.length_nil, wipeE, if_true, arr, Option.bind_some, List.reverse_nil, tupL, par2, par3, Nat.zero_add, Nat.reduceAdd, cap0, cap1, cap2, cap3]; rfl)
    · have c1 : decide (1 < (l : Int)) = false := decide_eq_false (by omega)
      simp only [decide_eq_false h3, Bool.false_and, Bool.false_eq_true, if_false, if_true]
      rw [w_skip (s1 := []) (by simp only [evSs, evS, evE, evEs, ok_bind, ok_thn, nx_seq, rt_seq, ok_calm, lift_some, rd_int, rd_bl, rd_tup, rd_lst, rd_rep, rd_scr, seqO_lst, seqO_tup, setTg1, bAdd, bSub, cLt, cLe, cGt, cGe, cEq, cNe, cmpS, lenT, lenL, bInt, getT, getLs, idT, idL, omap, List.map_cons, List.map_nil, List.replicate, List.cons_append, List.nil_append, List.append_nil, List.getElem?_cons_zero, List.getElem?_cons_succ, List.set_cons_zero, List.set_cons_succ, List.length_map, List.length_cons, List.length_nil, wipeE, if_true, arr, Option.bind_some, List.reverse_nil, tupL, par2, par3, Nat.zero_add, Nat.reduceAdd, cap0, cap1, cap2, cap3, c1])]
      exact w_ret (by simp only [evSs, evS, evE, evEs, ok_bind, ok_thn, nx_seq, rt_seq, ok_calm, lift_some, rd_int, rd_bl, rd_tup, rd_lst, rd_rep, rd_scr, seqO_lst, seqO_tup, setTg1, bAdd, bSub, cLt, cLe, cGt, cGe, cEq, cNe, cmpS, lenT, lenL, bInt, getT, getLs, idT, idL, omap, List.map_cons, List.map_nil, List.replicate, List.cons_append, List.nil_append, List.append_nil, List.getElem?_cons_zero, List.getElem?_cons_succ, List.set_cons_zero, List.set_cons_succ, List.length_map, List.length_cons, List.length_nil, wipeE, if_true, arr, Option.bind_some, List.reverse_nil, tupL, par2, par3, Nat.zero_add, Nat.reduceAdd, cap0, cap1, cap2, cap3]; rfl)
end
end K14

set_option Elab.async false
set_option linter.all false
set_option maxRecDepth 100000
set_option maxHeartbeats 4000000
/-! T5: K14, what the program says of a table. -/
namespace K14
open T5 PySem TabM
section
variable {k : Nat} {t : List Int} {m : Tab} {th : Thk} {s : Sto} {d : D}
theorem rdN {s : Sto} : rd s .non = .non := by cases s <;> rfl
theorem isnN : cmpD .isnot .non .non = some false := id rfl
theorem isnF {n : Nat} (h : IsF n d) : cmpD .isnot d .non = some true := by
  cases h <;> rfl
theorem isnS {w : Str} : cmpD .isnot (.str w) .non = some true := id rfl
theorem rdF {n : Nat} (h : IsF n d) {s : Sto} : rd s d = d := by
  cases h <;> rfl
theorem e6 (S : Sq m) (hl : m.length ≤ 100) : T5.run F (k + 3) 6 [Tt m] th s = .ok (oD (flt m)) s := by
  have hn := S.pos
  have g3 : T5.run F (k + 2) 3 [Tt m] noT [] = .ok (.bl true) [] := e3 S hl
  have g4 : T5.run F (k + 2) 4 [Tt m] noT [] = .ok (oD (endf m)) [] := e4 S hl
  have g5 : ∀ i l : Nat, i < m.length → 1 ≤ l → l ≤ m.length → T5.run F (k + 2) 5 [Tt m, .int (i : Int), .int (l : Int)] noT [] = .ok (oD (bad m i l)) [] := fun i l a b c => e5 S a b c
  refine sld (env0 := [some (Tt m), none, none, none]) F6 rfl rfl rfl (cc1 (clTt 0 m)) rfl (e := []) ?_ (clO (fun d => isF) 0)
  generalize T5.run F (k + 2) = cl at g3 g4 g5 ⊢
  refine (w_skip (s1 := []) (by simp only [evSs, evS, evE, evEs, ok_bind, ok_thn, nx_seq, rt_seq, ok_calm, lift_some, rd_int, rd_bl, rd_tup, rd_lst, rd_rep, rd_scr, seqO_lst, seqO_tup, setTg1, bAdd, bSub, cLt, cLe, cGt, cGe, cEq, cNe, cmpS, lenT, lenL, bInt, getT, getLs, idT, idL, omap, List.map_cons, List.map_nil, List.replicate, List.cons_append, List.nil_append, List.append_nil, List.getElem?_cons_zero, List.getElem?_cons_succ, List.set_cons_zero, List.set_cons_succ, List.length_map, List.length_cons, List.length_nil, wipeE, if_true, arr, Option.bind_some, List.reverse_nil, tupL, par2, par3, Nat.zero_add, Nat.reduceAdd, cap0, cap1, cap2, cap3, g3, Bool.not_true])).trans ?_
  refine (w_asg (d := oD (endf m)) (s1 := []) (by simp only [evSs, evS, evE, evEs, ok_bind, ok_thn, nx_seq, rt_seq, ok_calm, lift_some, rd_int, rd_bl, rd_tup, rd_lst, rd_rep, rd_scr, seqO_lst, seqO_tup, setTg1, bAdd, bSub, cLt, cLe, cGt, cGe, cEq, cNe, cmpS, lenT, lenL, bInt, getT, getLs, idT, idL, omap, List.map_cons, List.map_nil, List.replicate, List.cons_append, List.nil_append, List.append_nil, List.getElem?_cons_zero, List.getElem?_cons_succ, List.set_cons_zero, List.set_cons_succ, List.length_map, List.length_cons, List.length_nil, wipeE, if_true, arr, Option.bind_some, List.reverse_nil, tupL, par2, par3, Nat.zero_add, Nat.reduceAdd, cap0, cap1, cap2, cap3, g4])).trans ?_
  simp only [List.set_cons_zero, List.set_cons_succ]
  cases he : endf m with
  | some f =>
    have hf := isE he
    refine (w_if_rt (s1 := []) (d := f) (s2 := []) (by simp only [evSs, evS, evE, evEs, ok_bind, ok_thn, nx_seq, rt_seq, ok_calm, lift_some, rd_int, rd_bl, rd_tup, rd_lst, rd_rep, rd_scr, seqO_lst, seqO_tup, setTg1, bAdd, bSub, cLt, cLe, cGt, cGe, cEq, cNe, cmpS, lenT, lenL, bInt, getT, getLs, idT, idL, omap, List.map_cons, List.map_nil, List.replicate, List.cons_append, List.nil_append, List.append_nil, List.getElem?_cons_zero, List.getElem?_cons_succ, List.set_cons_zero, List.set_cons_succ, List.length_map, List.length_cons, List.length_nil, wipeE, if_true, arr, Option.bind_some, List.reverse_nil, tupL, par2, par3, Nat.zero_add, Nat.reduceAdd, cap0, cap1, cap2, cap3, oD, rdN, rdF hf, isnF hf]) (w_ret (by simp only [evSs, evS, evE, evEs, ok_bind, ok_thn, nx_seq, rt_seq, ok_calm, lift_some, rd_int, rd_bl, rd_tup, rd_lst, rd_rep, rd_scr, seqO_lst, seqO_tup, setTg1, bAdd, bSub, cLt, cLe, cGt, cGe, cEq, cNe, cmpS, lenT, lenL, bInt, getT, getLs, idT, idL, omap, List.map_cons, List.map_nil, List.replicate, List.cons_append, List.nil_append, List.append_nil, List.getElem?_cons_zero, List.getElem?_cons_succ, List.set_cons_zero, List.set_cons_succ, List.length_map, List.length_cons, List.length_nil, wipeE, if_true, arr, Option.bind_some, List.reverse_nil, tupL, par2, par3, Nat.zero_add, Nat.reduceAdd, cap0, cap1, cap2, cap3, oD]))).trans ?_
    unfold flt
    rw [he]
    rfl
  | none =>
    rw [w_skip (s1 := []) (by simp only [evSs, evS, evE, evEs, ok_bind, ok_thn, nx_seq, rt_seq, ok_calm, lift_some, rd_int, rd_bl, rd_tup, rd_lst, rd_rep, rd_scr, seqO_lst, seqO_tup, setTg1, bAdd, bSub, cLt, cLe, cGt, cGe, cEq, cNe, cmpS, lenT, lenL, bInt, getT, getLs, idT, idL, omap, List.map_cons, List.map_nil, List.replicate, List.cons_append, List.nil_append, List.append_nil, List.getElem?_cons_zero, List.getElem?_cons_succ, List.set_cons_zero, List.set_cons_succ, List.length_map, List.length_cons, List.length_nil, wipeE, if_true, arr, Option.bind_some, List.reverse_nil, tupL, par2, par3, Nat.zero_add, Nat.reduceAdd, cap0, cap1, cap2, cap3, oD]; rfl)]
    have ef : flt m = fl2 m := by
      unfold flt
      rw [he]
    rw [ef]
    refine w_fs (h := h2 m) (xs := rangeD 0 m.length) (n := m.length) (I := fun env => ∃ a b c, env = [some (Tt m), a, b, c]) (P := fun r => r = .rt (oD (fl2 m)) []) (x := .lst (rangeD 0 m.length)) (s1 := []) (by simp only [evSs, evS, evE, evEs, ok_bind, ok_thn, nx_seq, rt_seq, ok_calm, lift_some, rd_int, rd_bl, rd_tup, rd_lst, rd_rep, rd_scr, seqO_lst, seqO_tup, setTg1, bAdd, bSub, cLt, cLe, cGt, cGe, cEq, cNe, cmpS, lenT, lenL, bInt, getT, getLs, idT, idL, omap, List.map_cons, List.map_nil, List.replicate, List.cons_append, List.nil_append, List.append_nil, List.getElem?_cons_zero, List.getElem?_cons_succ, List.set_cons_zero, List.set_cons_succ, List.length_map, List.length_cons, List.length_nil, wipeE, if_true, arr, Option.bind_some, List.reverse_nil, tupL, par2, par3, Nat.zero_add, Nat.reduceAdd, cap0, cap1, cap2, cap3, okRn (n := m.length) (by omega)]; rfl) seqO_lst rangeD_len ⟨_, none, none, rfl⟩ (fun i y hy env ⟨a, b, c, q⟩ => ?_) (fun d hd => ?_) (fun hd env ⟨a, b, c, q⟩ => ?_)
    · subst q
      obtain ⟨hi, rfl⟩ := range0_at hy
      refine ⟨_, setTg1, ?_⟩
      simp only [List.set_cons_zero, List.set_cons_succ]
      unfold l6_1
      have en : (m.length : Int) + 1 = ((m.length + 1 : Nat) : Int) := by omega
      have okL : (okR 1 && okR ((m.length + 1 : Nat) : Int)) = true := by
        rw [okRn (by omega)]
        rfl
      refine w_fs (h := h3 m i) (xs := rangeD 1 m.length) (n := m.length) (I := fun env => ∃ a c, env = [some (Tt m), a, some (.int (i : Int)), c]) (P := fun r => (∃ d, h2 m i = some d ∧ r = .rt d []) ∨ (h2 m i = none ∧ ∃ env', r = .nx env' [] ∧ ∃ a b c, env' = [some (Tt m), a, b, c])) (x := .lst (rangeD 1 m.length)) (s1 := []) (by simp only [evSs, evS, evE, evEs, ok_bind, ok_thn, nx_seq, rt_seq, ok_calm, lift_some, rd_int, rd_bl, rd_tup, rd_lst, rd_rep, rd_scr, seqO_lst, seqO_tup, setTg1, bAdd, bSub, cLt, cLe, cGt, cGe, cEq, cNe, cmpS, lenT, lenL, bInt, getT, getLs, idT, idL, omap, List.map_cons, List.map_nil, List.replicate, List.cons_append, List.nil_append, List.append_nil, List.getElem?_cons_zero, List.getElem?_cons_succ, List.set_cons_zero, List.set_cons_succ, List.length_map, List.length_cons, List.length_nil, wipeE, if_true, arr, Option.bind_some, List.reverse_nil, tupL, par2, par3, Nat.zero_add, Nat.reduceAdd, cap0, cap1, cap2, cap3, en, okL, show (((m.length + 1 : Nat) : Int) - 1).toNat = m.length by omega]) seqO_lst rangeD_len ⟨a, c, rfl⟩ (fun l y hy env ⟨a, c, q⟩ => ?_) (fun d hd => .inl ⟨d, hd, rfl⟩) (fun hd env ⟨a, c, q⟩ => .inr ⟨hd, env, w_nil, a, _, c, q⟩)
      subst q
      obtain ⟨hl', rfl⟩ := rangeA_at hy
      refine ⟨_, setTg1, ?_⟩
      simp only [List.set_cons_zero, List.set_cons_succ]
      have el : (1 : Int) + (l : Int) = ((l + 1 : Nat) : Int) := by omega
      rw [el]
      unfold l6_0 h3
      have g := g5 i (l + 1) hi (by omega) (by omega)
      rw [w_asg (d := oD (bad m i (l + 1))) (s1 := []) (by simp only [evSs, evS, evE, evEs, ok_bind, ok_thn, nx_seq, rt_seq, ok_calm, lift_some, rd_int, rd_bl, rd_tup, rd_lst, rd_rep, rd_scr, seqO_lst, seqO_tup, setTg1, bAdd, bSub, cLt, cLe, cGt, cGe, cEq, cNe, cmpS, lenT, lenL, bInt, getT, getLs, idT, idL, omap, List.map_cons, List.map_nil, List.replicate, List.cons_append, List.nil_append, List.append_nil, List.getElem?_cons_zero, List.getElem?_cons_succ, List.set_cons_zero, List.set_cons_succ, List.length_map, List.length_cons, List.length_nil, wipeE, if_true, arr, Option.bind_some, List.reverse_nil, tupL, par2, par3, Nat.zero_add, Nat.reduceAdd, cap0, cap1, cap2, cap3, g])]
      simp only [List.set_cons_zero, List.set_cons_succ]
      cases hb : bad m i (l + 1) with
      | none => exact .inr ⟨rfl, _, (w_skip (s1 := []) (by simp only [evSs, evS, evE, evEs, ok_bind, ok_thn, nx_seq, rt_seq, ok_calm, lift_some, rd_int, rd_bl, rd_tup, rd_lst, rd_rep, rd_scr, seqO_lst, seqO_tup, setTg1, bAdd, bSub, cLt, cLe, cGt, cGe, cEq, cNe, cmpS, lenT, lenL, bInt, getT, getLs, idT, idL, omap, List.map_cons, List.map_nil, List.replicate, List.cons_append, List.nil_append, List.append_nil, List.getElem?_cons_zero, List.getElem?_cons_succ, List.set_cons_zero, List.set_cons_succ, List.length_map, List.length_cons, List.length_nil, wipeE, if_true, arr, Option.bind_some, List.reverse_nil, tupL, par2, par3, Nat.zero_add, Nat.reduceAdd, cap0, cap1, cap2, cap3, oD]; rfl)).trans w_nil, _, _, rfl⟩
      | some w =>
        obtain ⟨x, rfl⟩ := bad_str hb
        exact .inl ⟨_, rfl, w_if_rt (s1 := []) (by simp only [evSs, evS, evE, evEs, ok_bind, ok_thn, nx_seq, rt_seq, ok_calm, lift_some, rd_int, rd_bl, rd_tup, rd_lst, rd_rep, rd_scr, seqO_lst, seqO_tup, setTg1, bAdd, bSub, cLt, cLe, cGt, cGe, cEq, cNe, cmpS, lenT, lenL, bInt, getT, getLs, idT, idL, omap, List.map_cons, List.map_nil, List.replicate, List.cons_append, List.nil_append, List.append_nil, List.getElem?_cons_zero, List.getElem?_cons_succ, List.set_cons_zero, List.set_cons_succ, List.length_map, List.length_cons, List.length_nil, wipeE, if_true, arr, Option.bind_some, List.reverse_nil, tupL, par2, par3, Nat.zero_add, Nat.reduceAdd, cap0, cap1, cap2, cap3, oD]; rfl) (w_ret (by simp only [evSs, evS, evE, evEs, ok_bind, ok_thn, nx_seq, rt_seq, ok_calm, lift_some, rd_int, rd_bl, rd_tup, rd_lst, rd_rep, rd_scr, seqO_lst, seqO_tup, setTg1, bAdd, bSub, cLt, cLe, cGt, cGe, cEq, cNe, cmpS, lenT, lenL, bInt, getT, getLs, idT, idL, omap, List.map_cons, List.map_nil, List.replicate, List.cons_append, List.nil_append, List.append_nil, List.getElem?_cons_zero, List.getElem?_cons_succ, List.set_cons_zero, List.set_cons_succ, List.length_map, List.length_cons, List.length_nil, wipeE, if_true, arr, Option.bind_some, List.reverse_nil, tupL, par2, par3, Nat.zero_add, Nat.reduceAdd, cap0, cap1, cap2, cap3, oD]))⟩
    · show _ = _
      rw [show fl2 m = some d from hd]
      rfl
    · subst q
      show _ = _
      rw [show fl2 m = none from hd]
      exact w_ret (by simp only [evSs, evS, evE, evEs, ok_bind, ok_thn, nx_seq, rt_seq, ok_calm, lift_some, rd_int, rd_bl, rd_tup, rd_lst, rd_rep, rd_scr, seqO_lst, seqO_tup, setTg1, bAdd, bSub, cLt, cLe, cGt, cGe, cEq, cNe, cmpS, lenT, lenL, bInt, getT, getLs, idT, idL, omap, List.map_cons, List.map_nil, List.replicate, List.cons_append, List.nil_append, List.append_nil, List.getElem?_cons_zero, List.getElem?_cons_succ, List.set_cons_zero, List.set_cons_succ, List.length_map, List.length_cons, List.length_nil, wipeE, if_true, arr, Option.bind_some, List.reverse_nil, tupL, par2, par3, Nat.zero_add, Nat.reduceAdd, cap0, cap1, cap2, cap3]; rfl)
theorem e10 {x y : D} (hx : clean 0 x = true) (hy : clean 0 y = true) : T5.run F (k + 1) 10 [.bl true, x, y] th s = .ok .non s := by
  refine sldn (env0 := [some (.bl true), some (x), some (y)]) F10 rfl rfl rfl (c3 rfl hx hy) rfl (e := []) (env := [some (.bl true), some x, some y]) ?_
  refine (w_skip (s1 := []) ?_).trans w_nil
  simp only [evSs, evS, evE, evEs, ok_bind, ok_thn, nx_seq, rt_seq, ok_calm, lift_some, rd_int, rd_bl, rd_tup, rd_lst, rd_rep, rd_scr, seqO_lst, seqO_tup, setTg1, bAdd, bSub, cLt, cLe, cGt, cGe, cEq, cNe, cmpS, lenT, lenL, bInt, getT, getLs, idT, idL, omap, List.map_cons, List.map_nil, List.replicate, List.cons_append, List.nil_append, List.append_nil, List.getElem?_cons_zero, List.getElem?_cons_succ, List.set_cons_zero, List.set_cons_succ, List.length_map, List.length_cons, List.length_nil, wipeE, if_true, arr, Option.bind_some, List.reverse_nil, tupL, par2, par3, Nat.zero_add, Nat.reduceAdd, cap0, cap1, cap2, cap3, Bool.not_true]
/-- the stretch of a fault -/
def st (n : Nat) : D → D
  | .tup [.str w, x] => if w == ("nought" : Str) then .tup [x, .int 0] else if w == ("whole" : Str) then .tup [x, .int (n : Int)] else x
  | d => d
theorem eS1 : cmpD .eq (.str "nought") (.str "nought") = some true := by decide +kernel
theorem eS2 : cmpD .eq (.str "whole") (.str "nought") = some false := by decide +kernel
theorem eS3 : cmpD .eq (.str "whole") (.str "whole") = some true := by decide +kernel
theorem eS4 : cmpD .eq (.str "ahead") (.str "nought") = some false := by decide +kernel
theorem eS5 : cmpD .eq (.str "ahead") (.str "whole") = some false := by decide +kernel
theorem eS6 : cmpD .eq (.str "square") (.str "nought") = some false := by decide +kernel
theorem eS7 : cmpD .eq (.str "square") (.str "whole") = some false := by decide +kernel
end
end K14

set_option Elab.async false
set_option linter.all false
set_option maxRecDepth 100000
set_option maxHeartbeats 4000000
/-! T5: K14, what the program says of a table, whole. -/
namespace K14
open T5 PySem TabM
section
variable {k : Nat} {t : List Int} {m : Tab} {th : Thk} {s : Sto} {d : D}
theorem IsF.two {n : Nat} (h : IsF n d) : ∃ w x, d = .tup [.str w, x] ∧ (∀ j, clean j x = true) ∧ ∀ s, rd s x = x := by
  cases h <;> exact ⟨_, _, rfl, fun j => rfl, fun s => by cases s <;> rfl⟩
theorem ix0 {a b : D} : ixD [a, b] 0 = some a := id rfl
theorem ix1 {a b : D} : ixD [a, b] 1 = some b := id rfl
theorem rdS {s : Sto} {x : Str} : rd s (.str x) = .str x := by cases s <;> rfl
theorem stA {n : Nat} {x : D} : st n (.tup [.str "nought", x]) = .tup [x, .int 0] := by
  show (if (("nought" : Str) == ("nought" : Str)) = true then D.tup [x, .int 0] else if (("nought" : Str) == ("whole" : Str)) = true then .tup [x, .int (n : Int)] else x) = _
  rw [if_pos (by decide +kernel)]
theorem stB {n : Nat} {x : D} : st n (.tup [.str "whole", x]) = .tup [x, .int (n : Int)] := by
  show (if (("whole" : Str) == ("nought" : Str)) = true then D.tup [x, .int 0] else if (("whole" : Str) == ("whole" : Str)) = true then .tup [x, .int (n : Int)] else x) = _
  rw [if_neg (by decide +kernel), if_pos (by decide +kernel)]
theorem stC {n : Nat} {x : D} : st n (.tup [.str "ahead", x]) = x := by
  show (if (("ahead" : Str) == ("nought" : Str)) = true then D.tup [x, .int 0] else if (("ahead" : Str) == ("whole" : Str)) = true then .tup [x, .int (n : Int)] else x) = _
  rw [if_neg (by decide +kernel), if_neg (by decide +kernel)]
theorem stD {n : Nat} {x : D} : st n (.tup [.str "square", x]) = x := by
  show (if (("square" : Str) == ("nought" : Str)) = true then D.tup [x, .int 0] else if (("square" : Str) == ("whole" : Str)) = true then .tup [x, .int (n : Int)] else x) = _
  rw [if_neg (by decide +kernel), if_neg (by decide +kernel)]
theorem clSt {n : Nat} (h : IsF n d) (j : Nat) : clean j (st n d) = true := by
  cases h <;> first | rw [stA]; rfl | rw [stB]; rfl | rw [stC]; rfl | rw [stD]; rfl
theorem e7 (hf : IsF m.length d) : T5.run F (k + 1) 7 [Tt m, d] th s = .ok (st m.length d) s := by
  refine sld (env0 := [some (Tt m), some (d)]) F7 rfl rfl rfl (c2 (clTt 0 m) (hf.cl 0)) rfl (e := []) ?_ (clSt hf 0)
  generalize T5.run F k = cl
  cases hf with
  | a i h =>
    rw [stA]
    exact w_if_rt (s1 := []) (by simp only [evSs, evS, evE, evEs, ok_bind, ok_thn, nx_seq, rt_seq, ok_calm, lift_some, rd_int, rd_bl, rd_tup, rd_lst, rd_rep, rd_scr, seqO_lst, seqO_tup, setTg1, bAdd, bSub, cLt, cLe, cGt, cGe, cEq, cNe, cmpS, lenT, lenL, bInt, getT, getLs, idT, idL, omap, List.map_cons, List.map_nil, List.replicate, List.cons_append, List.nil_append, List.append_nil, List.getElem?_cons_zero, List.getElem?_cons_succ, List.set_cons_zero, List.set_cons_succ, List.length_map, List.length_cons, List.length_nil, wipeE, if_true, arr, Option.bind_some, List.reverse_nil, tupL, par2, par3, Nat.zero_add, Nat.reduceAdd, cap0, cap1, cap2, cap3, ix0, rdS, eS1]) (w_ret (by simp only [evSs, evS, evE, evEs, ok_bind, ok_thn, nx_seq, rt_seq, ok_calm, lift_some, rd_int, rd_bl, rd_tup, rd_lst, rd_rep, rd_scr, seqO_lst, seqO_tup, setTg1, bAdd, bSub, cLt, cLe, cGt, cGe, cEq, cNe, cmpS, lenT, lenL, bInt, getT, getLs, idT, idL, omap, List.map_cons, List.map_nil, List.replicate, List.cons_append, List.nil_append, List.append_nil, List.getElem?_cons_zero, List.getElem?_cons_succ, List.set_cons_zero, List.set_cons_succ, List.length_map, List.length_cons, List.length_nil, wipeE, if_true, arr, Option.bind_some, List.reverse_nil, tupL, par2, par3, Nat.zero_add, Nat.reduceAdd, cap0, cap1, cap2, cap3, ix1]))
  | b i h =>
    rw [stB]
    rw [show evSs cl f7.body _ [] = _ from w_skip (s1 := []) (by simp only [evSs, evS, evE, evEs, ok_bind, ok_thn, nx_seq, rt_seq, ok_calm, lift_some, rd_int, rd_bl, rd_tup, rd_lst, rd_rep, rd_scr, seqO_lst, seqO_tup, setTg1, bAdd, bSub, cLt, cLe, cGt, cGe, cEq, cNe, cmpS, lenT, lenL, bInt, getT, getLs, idT, idL, omap, List.map_cons, List.map_nil, List.replicate, List.cons_append, List.nil_append, List.append_nil, List.getElem?_cons_zero, List.getElem?_cons_succ, List.set_cons_zero, List.set_cons_succ, List.length_map, List.length_cons, List.length_nil, wipeE, if_true, arr, Option.bind_some, List.reverse_nil, tupL, par2, par3, Nat.zero_add, Nat.reduceAdd, cap0, cap1, cap2, cap3, ix0, rdS, eS2])]
    exact w_ret (by simp only [evSs, evS, evE, evEs, ok_bind, ok_thn, nx_seq, rt_seq, ok_calm, lift_some, rd_int, rd_bl, rd_tup, rd_lst, rd_rep, rd_scr, seqO_lst, seqO_tup, setTg1, bAdd, bSub, cLt, cLe, cGt, cGe, cEq, cNe, cmpS, lenT, lenL, bInt, getT, getLs, idT, idL, omap, List.map_cons, List.map_nil, List.replicate, List.cons_append, List.nil_append, List.append_nil, List.getElem?_cons_zero, List.getElem?_cons_succ, List.set_cons_zero, List.set_cons_succ, List.length_map, List.length_cons, List.length_nil, wipeE, if_true, arr, Option.bind_some, List.reverse_nil, tupL, par2, par3, Nat.zero_add, Nat.reduceAdd, cap0, cap1, cap2, cap3, ix0, ix1, rdS, eS3])
  | c i l h h2 =>
    rw [stC]
    rw [show evSs cl f7.body _ [] = _ from w_skip (s1 := []) (by simp only [evSs, evS, evE, evEs, ok_bind, ok_thn, nx_seq, rt_seq, ok_calm, lift_some, rd_int, rd_bl, rd_tup, rd_lst, rd_rep, rd_scr, seqO_lst, seqO_tup, setTg1, bAdd, bSub, cLt, cLe, cGt, cGe, cEq, cNe, cmpS, lenT, lenL, bInt, getT, getLs, idT, idL, omap, List.map_cons, List.map_nil, List.replicate, List.cons_append, List.nil_append, List.append_nil, List.getElem?_cons_zero, List.getElem?_cons_succ, List.set_cons_zero, List.set_cons_succ, List.length_map, List.length_cons, List.length_nil, wipeE, if_true, arr, Option.bind_some, List.reverse_nil, tupL, par2, par3, Nat.zero_add, Nat.reduceAdd, cap0, cap1, cap2, cap3, ix0, rdS, eS4])]
    exact w_ret (by simp only [evSs, evS, evE, evEs, ok_bind, ok_thn, nx_seq, rt_seq, ok_calm, lift_some, rd_int, rd_bl, rd_tup, rd_lst, rd_rep, rd_scr, seqO_lst, seqO_tup, setTg1, bAdd, bSub, cLt, cLe, cGt, cGe, cEq, cNe, cmpS, lenT, lenL, bInt, getT, getLs, idT, idL, omap, List.map_cons, List.map_nil, List.replicate, List.cons_append, List.nil_append, List.append_nil, List.getElem?_cons_zero, List.getElem?_cons_succ, List.set_cons_zero, List.set_cons_succ, List.length_map, List.length_cons, List.length_nil, wipeE, if_true, arr, Option.bind_some, List.reverse_nil, tupL, par2, par3, Nat.zero_add, Nat.reduceAdd, cap0, cap1, cap2, cap3, ix0, ix1, rdS, eS5])
  | d i l h h2 =>
    rw [stD]
    rw [show evSs cl f7.body _ [] = _ from w_skip (s1 := []) (by simp only [evSs, evS, evE, evEs, ok_bind, ok_thn, nx_seq, rt_seq, ok_calm, lift_some, rd_int, rd_bl, rd_tup, rd_lst, rd_rep, rd_scr, seqO_lst, seqO_tup, setTg1, bAdd, bSub, cLt, cLe, cGt, cGe, cEq, cNe, cmpS, lenT, lenL, bInt, getT, getLs, idT, idL, omap, List.map_cons, List.map_nil, List.replicate, List.cons_append, List.nil_append, List.append_nil, List.getElem?_cons_zero, List.getElem?_cons_succ, List.set_cons_zero, List.set_cons_succ, List.length_map, List.length_cons, List.length_nil, wipeE, if_true, arr, Option.bind_some, List.reverse_nil, tupL, par2, par3, Nat.zero_add, Nat.reduceAdd, cap0, cap1, cap2, cap3, ix0, rdS, eS6])]
    exact w_ret (by simp only [evSs, evS, evE, evEs, ok_bind, ok_thn, nx_seq, rt_seq, ok_calm, lift_some, rd_int, rd_bl, rd_tup, rd_lst, rd_rep, rd_scr, seqO_lst, seqO_tup, setTg1, bAdd, bSub, cLt, cLe, cGt, cGe, cEq, cNe, cmpS, lenT, lenL, bInt, getT, getLs, idT, idL, omap, List.map_cons, List.map_nil, List.replicate, List.cons_append, List.nil_append, List.append_nil, List.getElem?_cons_zero, List.getElem?_cons_succ, List.set_cons_zero, List.set_cons_succ, List.length_map, List.length_cons, List.length_nil, wipeE, if_true, arr, Option.bind_some, List.reverse_nil, tupL, par2, par3, Nat.zero_add, Nat.reduceAdd, cap0, cap1, cap2, cap3, ix0, ix1, rdS, eS7])
theorem e12 (S : Sq m) (hl : m.length ≤ 100) : T5.run F (k + 4) 12 [Tt m] th s = .ok (.bl (flt m).isNone) s := by
  have g : T5.run F (k + 3) 6 [Tt m] noT [] = .ok (oD (flt m)) [] := e6 S hl
  refine sld (env0 := [some (Tt m)]) F12 rfl rfl rfl (cc1 (clTt 0 m)) rfl (e := []) ?_ rfl
  generalize T5.run F (k + 3) = cl at g ⊢
  refine w_ret ?_
  cases hf : flt m with
  | none =>
    rw [hf] at g
    simp only [evSs, evS, evE, evEs, ok_bind, ok_thn, nx_seq, rt_seq, ok_calm, lift_some, rd_int, rd_bl, rd_tup, rd_lst, rd_rep, rd_scr, seqO_lst, seqO_tup, setTg1, bAdd, bSub, cLt, cLe, cGt, cGe, cEq, cNe, cmpS, lenT, lenL, bInt, getT, getLs, idT, idL, omap, List.map_cons, List.map_nil, List.replicate, List.cons_append, List.nil_append, List.append_nil, List.getElem?_cons_zero, List.getElem?_cons_succ, List.set_cons_zero, List.set_cons_succ, List.length_map, List.length_cons, List.length_nil, wipeE, if_true, arr, Option.bind_some, List.reverse_nil, tupL, par2, par3, Nat.zero_add, Nat.reduceAdd, cap0, cap1, cap2, cap3, g, oD, rdN]
    rfl
  | some f =>
    rw [hf] at g
    have h := isF hf
    simp only [evSs, evS, evE, evEs, ok_bind, ok_thn, nx_seq, rt_seq, ok_calm, lift_some, rd_int, rd_bl, rd_tup, rd_lst, rd_rep, rd_scr, seqO_lst, seqO_tup, setTg1, bAdd, bSub, cLt, cLe, cGt, cGe, cEq, cNe, cmpS, lenT, lenL, bInt, getT, getLs, idT, idL, omap, List.map_cons, List.map_nil, List.replicate, List.cons_append, List.nil_append, List.append_nil, List.getElem?_cons_zero, List.getElem?_cons_succ, List.set_cons_zero, List.set_cons_succ, List.length_map, List.length_cons, List.length_nil, wipeE, if_true, arr, Option.bind_some, List.reverse_nil, tupL, par2, par3, Nat.zero_add, Nat.reduceAdd, cap0, cap1, cap2, cap3, g, oD, rdN, rdF h]
    cases h <;> rfl
theorem e9 (S : Sq m) (hl : m.length ≤ 100) (hf : flt m = none) : T5.run F (k + 4) 9 [Tt m] th s = .ok (.int (at' m 0 m.length)) s := by
  have g : T5.run F (k + 3) 6 [Tt m] noT [] = .ok (oD (flt m)) [] := e6 S hl
  rw [hf] at g
  refine sld (env0 := [some (Tt m), none]) F9 rfl rfl rfl (cc1 (clTt 0 m)) rfl (e := []) ?_ rfl
  generalize T5.run F (k + 3) = cl at g ⊢
  refine (w_asg (d := .non) (s1 := []) (by simp only [evSs, evS, evE, evEs, ok_bind, ok_thn, nx_seq, rt_seq, ok_calm, lift_some, rd_int, rd_bl, rd_tup, rd_lst, rd_rep, rd_scr, seqO_lst, seqO_tup, setTg1, bAdd, bSub, cLt, cLe, cGt, cGe, cEq, cNe, cmpS, lenT, lenL, bInt, getT, getLs, idT, idL, omap, List.map_cons, List.map_nil, List.replicate, List.cons_append, List.nil_append, List.append_nil, List.getElem?_cons_zero, List.getElem?_cons_succ, List.set_cons_zero, List.set_cons_succ, List.length_map, List.length_cons, List.length_nil, wipeE, if_true, arr, Option.bind_some, List.reverse_nil, tupL, par2, par3, Nat.zero_add, Nat.reduceAdd, cap0, cap1, cap2, cap3, g, oD])).trans ?_
  refine (w_skip (s1 := []) (by simp only [evSs, evS, evE, evEs, ok_bind, ok_thn, nx_seq, rt_seq, ok_calm, lift_some, rd_int, rd_bl, rd_tup, rd_lst, rd_rep, rd_scr, seqO_lst, seqO_tup, setTg1, bAdd, bSub, cLt, cLe, cGt, cGe, cEq, cNe, cmpS, lenT, lenL, bInt, getT, getLs, idT, idL, omap, List.map_cons, List.map_nil, List.replicate, List.cons_append, List.nil_append, List.append_nil, List.getElem?_cons_zero, List.getElem?_cons_succ, List.set_cons_zero, List.set_cons_succ, List.length_map, List.length_cons, List.length_nil, wipeE, if_true, arr, Option.bind_some, List.reverse_nil, tupL, par2, par3, Nat.zero_add, Nat.reduceAdd, cap0, cap1, cap2, cap3, rdN, isnN])).trans ?_
  have en : (-(1 : Int)) = -1 := rfl
  exact w_ret (by simp only [evSs, evS, evE, evEs, ok_bind, ok_thn, nx_seq, rt_seq, ok_calm, lift_some, rd_int, rd_bl, rd_tup, rd_lst, rd_rep, rd_scr, seqO_lst, seqO_tup, setTg1, bAdd, bSub, cLt, cLe, cGt, cGe, cEq, cNe, cmpS, lenT, lenL, bInt, getT, getLs, idT, idL, omap, List.map_cons, List.map_nil, List.replicate, List.cons_append, List.nil_append, List.append_nil, List.getElem?_cons_zero, List.getElem?_cons_succ, List.set_cons_zero, List.set_cons_succ, List.length_map, List.length_cons, List.length_nil, wipeE, if_true, arr, Option.bind_some, List.reverse_nil, tupL, par2, par3, Nat.zero_add, Nat.reduceAdd, cap0, cap1, cap2, cap3, en, row0 S, entL S S.pos])
theorem e9f (S : Sq m) (hl : m.length ≤ 100) {w : Str} {x : D} (hf : flt m = some (.tup [.str w, x])) : T5.run F (k + 4) 9 [Tt m] th s = .err 0 [.str w, x] s := by
  have g : T5.run F (k + 3) 6 [Tt m] noT [] = .ok (oD (flt m)) [] := e6 S hl
  rw [hf] at g
  have h := isF hf
  obtain ⟨w', x', e, hc, _⟩ := h.two
  cases e
  refine slde (env0 := [some (Tt m), none]) F9 rfl rfl rfl (cc1 (clTt 0 m)) rfl (e := []) (env := [some (Tt m), some (.tup [.str w, x])]) ?_ (c2 rfl (hc 0))
  generalize T5.run F (k + 3) = cl at g ⊢
  refine (w_asg (d := .tup [.str w, x]) (s1 := []) (by simp only [evSs, evS, evE, evEs, ok_bind, ok_thn, nx_seq, rt_seq, ok_calm, lift_some, rd_int, rd_bl, rd_tup, rd_lst, rd_rep, rd_scr, seqO_lst, seqO_tup, setTg1, bAdd, bSub, cLt, cLe, cGt, cGe, cEq, cNe, cmpS, lenT, lenL, bInt, getT, getLs, idT, idL, omap, List.map_cons, List.map_nil, List.replicate, List.cons_append, List.nil_append, List.append_nil, List.getElem?_cons_zero, List.getElem?_cons_succ, List.set_cons_zero, List.set_cons_succ, List.length_map, List.length_cons, List.length_nil, wipeE, if_true, arr, Option.bind_some, List.reverse_nil, tupL, par2, par3, Nat.zero_add, Nat.reduceAdd, cap0, cap1, cap2, cap3, g, oD])).trans ?_
  simp only [List.set_cons_zero, List.set_cons_succ]
  rw [w_if_t (s1 := []) (by simp only [evSs, evS, evE, evEs, ok_bind, ok_thn, nx_seq, rt_seq, ok_calm, lift_some, rd_int, rd_bl, rd_tup, rd_lst, rd_rep, rd_scr, seqO_lst, seqO_tup, setTg1, bAdd, bSub, cLt, cLe, cGt, cGe, cEq, cNe, cmpS, lenT, lenL, bInt, getT, getLs, idT, idL, omap, List.map_cons, List.map_nil, List.replicate, List.cons_append, List.nil_append, List.append_nil, List.getElem?_cons_zero, List.getElem?_cons_succ, List.set_cons_zero, List.set_cons_succ, List.length_map, List.length_cons, List.length_nil, wipeE, if_true, arr, Option.bind_some, List.reverse_nil, tupL, par2, par3, Nat.zero_add, Nat.reduceAdd, cap0, cap1, cap2, cap3, rdN]; rfl)]
  rw [w_rais (ds := [.str w, x]) (s1 := []) (by simp only [evSs, evS, evE, evEs, ok_bind, ok_thn, nx_seq, rt_seq, ok_calm, lift_some, rd_int, rd_bl, rd_tup, rd_lst, rd_rep, rd_scr, seqO_lst, seqO_tup, setTg1, bAdd, bSub, cLt, cLe, cGt, cGe, cEq, cNe, cmpS, lenT, lenL, bInt, getT, getLs, idT, idL, omap, List.map_cons, List.map_nil, List.replicate, List.cons_append, List.nil_append, List.append_nil, List.getElem?_cons_zero, List.getElem?_cons_succ, List.set_cons_zero, List.set_cons_succ, List.length_map, List.length_cons, List.length_nil, wipeE, if_true, arr, Option.bind_some, List.reverse_nil, tupL, par2, par3, Nat.zero_add, Nat.reduceAdd, cap0, cap1, cap2, cap3, ix0, ix1])]
  rfl
end
end K14

set_option Elab.async false
set_option linter.all false
set_option maxRecDepth 100000
set_option maxHeartbeats 4000000
/-! T5: K14, the throws of a table; the law's own look for faults. -/
namespace K14
open T5 PySem TabM
section
variable {k : Nat} {t : List Int} {m : Tab} {th : Thk} {s : Sto} {d : D}
theorem lr_len {n : Nat} {f : Nat → Int} : ((List.range n).map f).length = n := by rw [List.length_map, List.length_range]
theorem e8 (S : Sq m) (hl : m.length ≤ 100) : T5.run F (k + 1) 8 [Tt m] th s = .ok (I (thr m)) s := by
  have hn := S.pos
  refine sld (env0 := [some (Tt m), none, none, none, none, none, none, none]) F8 rfl rfl rfl (cc1 (clTt 0 m)) rfl (e := [.lst ((thr m).map .int)]) ?_ (ccI _)
  generalize T5.run F k = cl
  refine (w_par (ds := [.int (m.length : Int), .loc 0]) (s1 := [.lst []]) (by simp only [evSs, evS, evE, evEs, ok_bind, ok_thn, nx_seq, rt_seq, ok_calm, lift_some, rd_int, rd_bl, rd_tup, rd_lst, rd_rep, rd_scr, seqO_lst, seqO_tup, setTg1, bAdd, bSub, cLt, cLe, cGt, cGe, cEq, cNe, cmpS, lenT, lenL, bInt, getT, getLs, idT, idL, omap, List.map_cons, List.map_nil, List.replicate, List.cons_append, List.nil_append, List.append_nil, List.getElem?_cons_zero, List.getElem?_cons_succ, List.set_cons_zero, List.set_cons_succ, List.length_map, List.length_cons, List.length_nil, wipeE, if_true, arr, Option.bind_some, List.reverse_nil, tupL, par2, par3, Nat.zero_add, Nat.reduceAdd, cap0, cap1, cap2, cap3]) par2).trans ?_
  simp only [List.set_cons_zero, List.set_cons_succ]
  refine w_loop (I := fun j env s => ∃ a b c d e, env = [some (Tt m), some (.int (m.length : Int)), some (.loc 0), a, b, c, d, e] ∧ s = [.lst (((List.range j).map (thr1 m)).map .int)]) (P := fun r => r = .rt (I (thr m)) [.lst ((thr m).map .int)]) (x := .lst (enumL 0 (m.map I))) (xs := enumL 0 (m.map I)) (s1 := [.lst []]) (by simp only [evSs, evS, evE, evEs, ok_bind, ok_thn, nx_seq, rt_seq, ok_calm, lift_some, rd_int, rd_bl, rd_tup, rd_lst, rd_rep, rd_scr, seqO_lst, seqO_tup, setTg1, bAdd, bSub, cLt, cLe, cGt, cGe, cEq, cNe, cmpS, lenT, lenL, bInt, getT, getLs, idT, idL, omap, List.map_cons, List.map_nil, List.replicate, List.cons_append, List.nil_append, List.append_nil, List.getElem?_cons_zero, List.getElem?_cons_succ, List.set_cons_zero, List.set_cons_succ, List.length_map, List.length_cons, List.length_nil, wipeE, if_true, arr, Option.bind_some, List.reverse_nil, tupL, par2, par3, Nat.zero_add, Nat.reduceAdd, cap0, cap1, cap2, cap3]) seqO_lst ⟨none, none, none, none, none, rfl, rfl⟩ (fun i y hy env s ⟨a, b, c, d, e, q1, q2⟩ => ?_) fun env s ⟨a, b, c, d, e, q1, q2⟩ => ?_
  · subst q1 q2
    obtain ⟨hi, rfl⟩ := enT hy
    have hi' : (i + 1) % m.length < m.length := Nat.mod_lt _ hn
    have m1 : binD .mod (.int ((i : Int) + 1)) (.int (m.length : Int)) = some (.int (((i + 1) % m.length : Nat) : Int)) := by
      rw [bMod (by omega), show (i : Int) + 1 = (i : Int) + ((1 : Nat) : Int) from rfl, castMod]
    obtain ⟨A, hA⟩ : ∃ A, [SO.lst (((List.range i).map (thr1 m)).map .int)] = A := ⟨_, rfl⟩
    refine ⟨_, _, _, setTg2, ?_, some (.int (i : Int)), some (I (m.getD i [])), some (I (m.getD ((i + 1) % m.length) [])), some (.lst ((hitL m i).map fun (j : Nat) => D.int (j : Int))), e, rfl, rfl⟩
    simp only [List.set_cons_zero, List.set_cons_succ]
    unfold l8_1
    rw [hA]
    refine (w_asg (d := I (m.getD ((i + 1) % m.length) [])) (s1 := A) (by simp only [evSs, evS, evE, evEs, ok_bind, ok_thn, nx_seq, rt_seq, ok_calm, lift_some, rd_int, rd_bl, rd_tup, rd_lst, rd_rep, rd_scr, seqO_lst, seqO_tup, setTg1, bAdd, bSub, cLt, cLe, cGt, cGe, cEq, cNe, cmpS, lenT, lenL, bInt, getT, getLs, idT, idL, omap, List.map_cons, List.map_nil, List.replicate, List.cons_append, List.nil_append, List.append_nil, List.getElem?_cons_zero, List.getElem?_cons_succ, List.set_cons_zero, List.set_cons_succ, List.length_map, List.length_cons, List.length_nil, wipeE, if_true, arr, Option.bind_some, List.reverse_nil, tupL, par2, par3, Nat.zero_add, Nat.reduceAdd, cap0, cap1, cap2, cap3, m1, ix_row hi'])).trans ?_
    simp only [List.set_cons_zero, List.set_cons_succ]
    refine (w_asg (d := .lst ((hitL m i).map fun (j : Nat) => D.int (j : Int))) (s1 := A) ?_).trans ?_
    · refine w_lcrf (n := m.length) (p := fun l => decide (at' m i (l + 1) = at' m ((i + 1) % m.length) l)) (g := fun (j : Nat) => D.int (j : Int)) (by simp only [evSs, evS, evE, evEs, ok_bind, ok_thn, nx_seq, rt_seq, ok_calm, lift_some, rd_int, rd_bl, rd_tup, rd_lst, rd_rep, rd_scr, seqO_lst, seqO_tup, setTg1, bAdd, bSub, cLt, cLe, cGt, cGe, cEq, cNe, cmpS, lenT, lenL, bInt, getT, getLs, idT, idL, omap, List.map_cons, List.map_nil, List.replicate, List.cons_append, List.nil_append, List.append_nil, List.getElem?_cons_zero, List.getElem?_cons_succ, List.set_cons_zero, List.set_cons_succ, List.length_map, List.length_cons, List.length_nil, wipeE, if_true, arr, Option.bind_some, List.reverse_nil, tupL, par2, par3, Nat.zero_add, Nat.reduceAdd, cap0, cap1, cap2, cap3, okRn (n := m.length) (by omega)]; rfl) (by unfold cap; omega) fun l hl' => ⟨?_, fun _ => by simp only [evSs, evS, evE, evEs, ok_bind, ok_thn, nx_seq, rt_seq, ok_calm, lift_some, rd_int, rd_bl, rd_tup, rd_lst, rd_rep, rd_scr, seqO_lst, seqO_tup, setTg1, bAdd, bSub, cLt, cLe, cGt, cGe, cEq, cNe, cmpS, lenT, lenL, bInt, getT, getLs, idT, idL, omap, List.map_cons, List.map_nil, List.replicate, List.cons_append, List.nil_append, List.append_nil, List.getElem?_cons_zero, List.getElem?_cons_succ, List.set_cons_zero, List.set_cons_succ, List.length_map, List.length_cons, List.length_nil, wipeE, if_true, arr, Option.bind_some, List.reverse_nil, tupL, par2, par3, Nat.zero_add, Nat.reduceAdd, cap0, cap1, cap2, cap3]⟩
      unfold c8_0
      have el : (l : Int) + 1 = ((l + 1 : Nat) : Int) := by omega
      simp only [evSs, evS, evE, evEs, ok_bind, ok_thn, nx_seq, rt_seq, ok_calm, lift_some, rd_int, rd_bl, rd_tup, rd_lst, rd_rep, rd_scr, seqO_lst, seqO_tup, setTg1, bAdd, bSub, cLt, cLe, cGt, cGe, cEq, cNe, cmpS, lenT, lenL, bInt, getT, getLs, idT, idL, omap, List.map_cons, List.map_nil, List.replicate, List.cons_append, List.nil_append, List.append_nil, List.getElem?_cons_zero, List.getElem?_cons_succ, List.set_cons_zero, List.set_cons_succ, List.length_map, List.length_cons, List.length_nil, wipeE, if_true, arr, Option.bind_some, List.reverse_nil, tupL, par2, par3, Nat.zero_add, Nat.reduceAdd, cap0, cap1, cap2, cap3, el, ent (j := l + 1) S hi (by omega), ent (j := l) S hi' (by omega)]
      rfl
    simp only [List.set_cons_zero, List.set_cons_succ]
    have hv : evE cl (.ite (.cmp .gt (.bi .len (.cons (.var 6) .nil)) (.con (.int 0))) (.idx (.var 6) (.con (.int 0))) (.var 1)) [some (Tt m), some (.int (m.length : Int)), some (.loc 0), some (.int (i : Int)), some (I (m.getD i [])), some (I (m.getD ((i + 1) % m.length) [])), some (.lst ((hitL m i).map fun (j : Nat) => D.int (j : Int))), e] A = .ok (.int (thr1 m i)) A := by
      unfold thr1
      by_cases hp : 0 < (hitL m i).length
      · have c1 : decide (0 < ((hitL m i).length : Int)) = true := decide_eq_true (by omega)
        have ix : ixD ((hitL m i).map fun (j : Nat) => D.int (j : Int)) 0 = some (.int ((hitL m i).getD 0 0 : Int)) := by
          have := ix_of (ds := (hitL m i).map fun (j : Nat) => D.int (j : Int)) (j := 0) (by rw [List.length_map]; exact hp)
          rw [show ((0 : Nat) : Int) = 0 from rfl] at this
          rw [this, List.getElem_map, List.getD_eq_getElem?_getD, List.getElem?_eq_getElem hp]
          rfl
        rw [if_pos hp]
        simp only [evSs, evS, evE, evEs, ok_bind, ok_thn, nx_seq, rt_seq, ok_calm, lift_some, rd_int, rd_bl, rd_tup, rd_lst, rd_rep, rd_scr, seqO_lst, seqO_tup, setTg1, bAdd, bSub, cLt, cLe, cGt, cGe, cEq, cNe, cmpS, lenT, lenL, bInt, getT, getLs, idT, idL, omap, List.map_cons, List.map_nil, List.replicate, List.cons_append, List.nil_append, List.append_nil, List.getElem?_cons_zero, List.getElem?_cons_succ, List.set_cons_zero, List.set_cons_succ, List.length_map, List.length_cons, List.length_nil, wipeE, if_true, arr, Option.bind_some, List.reverse_nil, tupL, par2, par3, Nat.zero_add, Nat.reduceAdd, cap0, cap1, cap2, cap3, c1, ix]
      · have c1 : decide (0 < ((hitL m i).length : Int)) = false := decide_eq_false (by omega)
        rw [if_neg hp]
        simp only [evSs, evS, evE, evEs, ok_bind, ok_thn, nx_seq, rt_seq, ok_calm, lift_some, rd_int, rd_bl, rd_tup, rd_lst, rd_rep, rd_scr, seqO_lst, seqO_tup, setTg1, bAdd, bSub, cLt, cLe, cGt, cGe, cEq, cNe, cmpS, lenT, lenL, bInt, getT, getLs, idT, idL, omap, List.map_cons, List.map_nil, List.replicate, List.cons_append, List.nil_append, List.append_nil, List.getElem?_cons_zero, List.getElem?_cons_succ, List.set_cons_zero, List.set_cons_succ, List.length_map, List.length_cons, List.length_nil, wipeE, if_true, arr, Option.bind_some, List.reverse_nil, tupL, par2, par3, Nat.zero_add, Nat.reduceAdd, cap0, cap1, cap2, cap3, c1]
    subst hA
    refine (w_app (x := .loc 0) (s1 := [.lst (((List.range i).map (thr1 m)).map .int)]) (v := .int (thr1 m i)) (s2 := [.lst (((List.range i).map (thr1 m)).map .int)]) (s3 := [.lst (((List.range (i + 1)).map (thr1 m)).map .int)]) (by simp only [evSs, evS, evE, evEs, ok_bind, ok_thn, nx_seq, rt_seq, ok_calm, lift_some, rd_int, rd_bl, rd_tup, rd_lst, rd_rep, rd_scr, seqO_lst, seqO_tup, setTg1, bAdd, bSub, cLt, cLe, cGt, cGe, cEq, cNe, cmpS, lenT, lenL, bInt, getT, getLs, idT, idL, omap, List.map_cons, List.map_nil, List.replicate, List.cons_append, List.nil_append, List.append_nil, List.getElem?_cons_zero, List.getElem?_cons_succ, List.set_cons_zero, List.set_cons_succ, List.length_map, List.length_cons, List.length_nil, wipeE, if_true, arr, Option.bind_some, List.reverse_nil, tupL, par2, par3, Nat.zero_add, Nat.reduceAdd, cap0, cap1, cap2, cap3]) rfl hv ?_).trans w_nil
    have ae := app_end (s := []) (ds := ((List.range i).map (thr1 m)).map D.int) (v := .int (thr1 m i)) (by rw [List.length_map, lr_len]; unfold cap; omega)
    refine ae.trans ?_
    show some [SO.lst (((List.range i).map (thr1 m)).map .int ++ [.int (thr1 m i)])] = _
    rw [List.range_succ, List.map_append, List.map_append]
    rfl
  · subst q1 q2
    rw [enum_len, List.length_map]
    refine w_ret ?_
    rw [bi1 (d := .loc 0) (s1 := [.lst (((List.range m.length).map (thr1 m)).map .int)]) (by simp only [evSs, evS, evE, evEs, ok_bind, ok_thn, nx_seq, rt_seq, ok_calm, lift_some, rd_int, rd_bl, rd_tup, rd_lst, rd_rep, rd_scr, seqO_lst, seqO_tup, setTg1, bAdd, bSub, cLt, cLe, cGt, cGe, cEq, cNe, cmpS, lenT, lenL, bInt, getT, getLs, idT, idL, omap, List.map_cons, List.map_nil, List.replicate, List.cons_append, List.nil_append, List.append_nil, List.getElem?_cons_zero, List.getElem?_cons_succ, List.set_cons_zero, List.set_cons_succ, List.length_map, List.length_cons, List.length_nil, wipeE, if_true, arr, Option.bind_some, List.reverse_nil, tupL, par2, par3, Nat.zero_add, Nat.reduceAdd, cap0, cap1, cap2, cap3])]
    rfl
theorem e13 (S : Sq m) (hl : m.length ≤ 100) (hf : flt m = none) : T5.run F (k + 4) 13 [Tt m] th s = .ok (I (thr m)) s := by
  have g3 : T5.run F (k + 3) 3 [Tt m] noT [] = .ok (.bl true) [] := e3 (k := k + 1) S hl
  have g10 : T5.run F (k + 3) 10 [.bl true, .str "table", .int (-1)] noT [] = .ok .non [] := e10 rfl rfl
  have g6 : T5.run F (k + 3) 6 [Tt m] noT [] = .ok (oD (flt m)) [] := e6 S hl
  have g8 : T5.run F (k + 3) 8 [Tt m] noT [] = .ok (I (thr m)) [] := e8 S hl
  rw [hf] at g6
  refine sld (env0 := [some (Tt m), none]) F13 rfl rfl rfl (cc1 (clTt 0 m)) rfl (e := []) ?_ (ccI _)
  generalize T5.run F (k + 3) = cl at g3 g10 g6 g8 ⊢
  refine (w_expr (d := .non) (s1 := []) (by simp only [evSs, evS, evE, evEs, ok_bind, ok_thn, nx_seq, rt_seq, ok_calm, lift_some, rd_int, rd_bl, rd_tup, rd_lst, rd_rep, rd_scr, seqO_lst, seqO_tup, setTg1, bAdd, bSub, cLt, cLe, cGt, cGe, cEq, cNe, cmpS, lenT, lenL, bInt, getT, getLs, idT, idL, omap, List.map_cons, List.map_nil, List.replicate, List.cons_append, List.nil_append, List.append_nil, List.getElem?_cons_zero, List.getElem?_cons_succ, List.set_cons_zero, List.set_cons_succ, List.length_map, List.length_cons, List.length_nil, wipeE, if_true, arr, Option.bind_some, List.reverse_nil, tupL, par2, par3, Nat.zero_add, Nat.reduceAdd, cap0, cap1, cap2, cap3, g3, g10])).trans ?_
  refine (w_asg (d := .non) (s1 := []) (by simp only [evSs, evS, evE, evEs, ok_bind, ok_thn, nx_seq, rt_seq, ok_calm, lift_some, rd_int, rd_bl, rd_tup, rd_lst, rd_rep, rd_scr, seqO_lst, seqO_tup, setTg1, bAdd, bSub, cLt, cLe, cGt, cGe, cEq, cNe, cmpS, lenT, lenL, bInt, getT, getLs, idT, idL, omap, List.map_cons, List.map_nil, List.replicate, List.cons_append, List.nil_append, List.append_nil, List.getElem?_cons_zero, List.getElem?_cons_succ, List.set_cons_zero, List.set_cons_succ, List.length_map, List.length_cons, List.length_nil, wipeE, if_true, arr, Option.bind_some, List.reverse_nil, tupL, par2, par3, Nat.zero_add, Nat.reduceAdd, cap0, cap1, cap2, cap3, g6, oD])).trans ?_
  refine (w_skip (s1 := []) (by simp only [evSs, evS, evE, evEs, ok_bind, ok_thn, nx_seq, rt_seq, ok_calm, lift_some, rd_int, rd_bl, rd_tup, rd_lst, rd_rep, rd_scr, seqO_lst, seqO_tup, setTg1, bAdd, bSub, cLt, cLe, cGt, cGe, cEq, cNe, cmpS, lenT, lenL, bInt, getT, getLs, idT, idL, omap, List.map_cons, List.map_nil, List.replicate, List.cons_append, List.nil_append, List.append_nil, List.getElem?_cons_zero, List.getElem?_cons_succ, List.set_cons_zero, List.set_cons_succ, List.length_map, List.length_cons, List.length_nil, wipeE, if_true, arr, Option.bind_some, List.reverse_nil, tupL, par2, par3, Nat.zero_add, Nat.reduceAdd, cap0, cap1, cap2, cap3, rdN, isnN])).trans ?_
  exact w_ret (by simp only [evSs, evS, evE, evEs, ok_bind, ok_thn, nx_seq, rt_seq, ok_calm, lift_some, rd_int, rd_bl, rd_tup, rd_lst, rd_rep, rd_scr, seqO_lst, seqO_tup, setTg1, bAdd, bSub, cLt, cLe, cGt, cGe, cEq, cNe, cmpS, lenT, lenL, bInt, getT, getLs, idT, idL, omap, List.map_cons, List.map_nil, List.replicate, List.cons_append, List.nil_append, List.append_nil, List.getElem?_cons_zero, List.getElem?_cons_succ, List.set_cons_zero, List.set_cons_succ, List.length_map, List.length_cons, List.length_nil, wipeE, if_true, arr, Option.bind_some, List.reverse_nil, tupL, par2, par3, Nat.zero_add, Nat.reduceAdd, cap0, cap1, cap2, cap3, g8])
theorem e13f (S : Sq m) (hl : m.length ≤ 100) (hf : flt m = some d) : T5.run F (k + 4) 13 [Tt m] th s = .err 2 [st m.length d] s := by
  have h := isF hf
  have g3 : T5.run F (k + 3) 3 [Tt m] noT [] = .ok (.bl true) [] := e3 (k := k + 1) S hl
  have g10 : T5.run F (k + 3) 10 [.bl true, .str "table", .int (-1)] noT [] = .ok .non [] := e10 rfl rfl
  have g6 : T5.run F (k + 3) 6 [Tt m] noT [] = .ok (oD (flt m)) [] := e6 S hl
  have g7 : T5.run F (k + 3) 7 [Tt m, d] noT [] = .ok (st m.length d) [] := e7 h
  rw [hf] at g6
  refine slde (env0 := [some (Tt m), none]) F13 rfl rfl rfl (cc1 (clTt 0 m)) rfl (e := []) (env := [some (Tt m), some d]) ?_ (cc1 (clSt h 0))
  generalize T5.run F (k + 3) = cl at g3 g10 g6 g7 ⊢
  refine (w_expr (d := .non) (s1 := []) (by simp only [evSs, evS, evE, evEs, ok_bind, ok_thn, nx_seq, rt_seq, ok_calm, lift_some, rd_int, rd_bl, rd_tup, rd_lst, rd_rep, rd_scr, seqO_lst, seqO_tup, setTg1, bAdd, bSub, cLt, cLe, cGt, cGe, cEq, cNe, cmpS, lenT, lenL, bInt, getT, getLs, idT, idL, omap, List.map_cons, List.map_nil, List.replicate, List.cons_append, List.nil_append, List.append_nil, List.getElem?_cons_zero, List.getElem?_cons_succ, List.set_cons_zero, List.set_cons_succ, List.length_map, List.length_cons, List.length_nil, wipeE, if_true, arr, Option.bind_some, List.reverse_nil, tupL, par2, par3, Nat.zero_add, Nat.reduceAdd, cap0, cap1, cap2, cap3, g3, g10])).trans ?_
  refine (w_asg (d := d) (s1 := []) (by simp only [evSs, evS, evE, evEs, ok_bind, ok_thn, nx_seq, rt_seq, ok_calm, lift_some, rd_int, rd_bl, rd_tup, rd_lst, rd_rep, rd_scr, seqO_lst, seqO_tup, setTg1, bAdd, bSub, cLt, cLe, cGt, cGe, cEq, cNe, cmpS, lenT, lenL, bInt, getT, getLs, idT, idL, omap, List.map_cons, List.map_nil, List.replicate, List.cons_append, List.nil_append, List.append_nil, List.getElem?_cons_zero, List.getElem?_cons_succ, List.set_cons_zero, List.set_cons_succ, List.length_map, List.length_cons, List.length_nil, wipeE, if_true, arr, Option.bind_some, List.reverse_nil, tupL, par2, par3, Nat.zero_add, Nat.reduceAdd, cap0, cap1, cap2, cap3, g6, oD])).trans ?_
  simp only [List.set_cons_zero, List.set_cons_succ]
  rw [w_if_t (s1 := []) (by simp only [evSs, evS, evE, evEs, ok_bind, ok_thn, nx_seq, rt_seq, ok_calm, lift_some, rd_int, rd_bl, rd_tup, rd_lst, rd_rep, rd_scr, seqO_lst, seqO_tup, setTg1, bAdd, bSub, cLt, cLe, cGt, cGe, cEq, cNe, cmpS, lenT, lenL, bInt, getT, getLs, idT, idL, omap, List.map_cons, List.map_nil, List.replicate, List.cons_append, List.nil_append, List.append_nil, List.getElem?_cons_zero, List.getElem?_cons_succ, List.set_cons_zero, List.set_cons_succ, List.length_map, List.length_cons, List.length_nil, wipeE, if_true, arr, Option.bind_some, List.reverse_nil, tupL, par2, par3, Nat.zero_add, Nat.reduceAdd, cap0, cap1, cap2, cap3, rdN, rdF h, isnF h])]
  rw [w_rais (ds := [st m.length d]) (s1 := []) (by simp only [evSs, evS, evE, evEs, ok_bind, ok_thn, nx_seq, rt_seq, ok_calm, lift_some, rd_int, rd_bl, rd_tup, rd_lst, rd_rep, rd_scr, seqO_lst, seqO_tup, setTg1, bAdd, bSub, cLt, cLe, cGt, cGe, cEq, cNe, cmpS, lenT, lenL, bInt, getT, getLs, idT, idL, omap, List.map_cons, List.map_nil, List.replicate, List.cons_append, List.nil_append, List.append_nil, List.getElem?_cons_zero, List.getElem?_cons_succ, List.set_cons_zero, List.set_cons_succ, List.length_map, List.length_cons, List.length_nil, wipeE, if_true, arr, Option.bind_some, List.reverse_nil, tupL, par2, par3, Nat.zero_add, Nat.reduceAdd, cap0, cap1, cap2, cap3, g7])]
  rfl
end
end K14

set_option Elab.async false
set_option linter.all false
set_option maxRecDepth 100000
set_option maxHeartbeats 4000000
/-! T5: K14, the law's own look for faults. -/
namespace K14
open T5 PySem TabM
def ad (n : Nat) (f : D) : D := .tup [f, st n f]
theorem fs_map {α β : Type} {h : Nat → Option α} {g : α → β} : ∀ l : List Nat, l.findSome? (fun i => (h i).map g) = (l.findSome? h).map g
  | [] => rfl
  | a :: l => by
    rw [List.findSome?_cons, List.findSome?_cons, fs_map l]
    cases h a <;> rfl
section
variable {k : Nat} {t : List Int} {m : Tab} {th : Thk} {s : Sto} {d : D}
theorem clAd {n : Nat} {o : Option D} (h : ∀ d, o = some d → IsF n d) (j : Nat) : clean j (oD (o.map (ad n))) = true := by
  cases o with
  | none => rfl
  | some d =>
    show (clean j d && (clean j (st n d) && true)) = true
    rw [(h d rfl).cl, clSt (h d rfl)]
    rfl
theorem e23 (S : Sq m) (hl : m.length ≤ 100) : T5.run F (k + 1) 23 [Tt m] th s = .ok (oD ((flt m).map (ad m.length))) s := by
  have hn := S.pos
  refine sld (env0 := [some (Tt m), none, none, none, none, none, none]) F23 rfl rfl rfl (cc1 (clTt 0 m)) rfl (e := []) ?_ (clAd (fun d => isF) 0)
  generalize T5.run F k = cl
  refine (w_asg (d := .int (m.length : Int)) (s1 := []) (by simp only [evSs, evS, evE, evEs, ok_bind, ok_thn, nx_seq, rt_seq, ok_calm, lift_some, rd_int, rd_bl, rd_tup, rd_lst, rd_rep, rd_scr, seqO_lst, seqO_tup, setTg1, bAdd, bSub, cLt, cLe, cGt, cGe, cEq, cNe, cmpS, lenT, lenL, bInt, getT, getLs, idT, idL, omap, List.map_cons, List.map_nil, List.replicate, List.cons_append, List.nil_append, List.append_nil, List.getElem?_cons_zero, List.getElem?_cons_succ, List.set_cons_zero, List.set_cons_succ, List.length_map, List.length_cons, List.length_nil, wipeE, if_true, arr, Option.bind_some, List.reverse_nil, tupL, par2, par3, Nat.zero_add, Nat.reduceAdd, cap0, cap1, cap2, cap3])).trans ?_
  simp only [List.set_cons_zero, List.set_cons_succ]
  refine w_fs (h := fun i => (h0 m i).map (ad m.length)) (xs := rangeD 0 m.length) (n := m.length) (I := fun env => ∃ a, env = [some (Tt m), some (.int (m.length : Int)), a, none, none, none, none]) (P := fun r => r = .rt (oD ((flt m).map (ad m.length))) []) (x := .lst (rangeD 0 m.length)) (s1 := []) (by simp only [evSs, evS, evE, evEs, ok_bind, ok_thn, nx_seq, rt_seq, ok_calm, lift_some, rd_int, rd_bl, rd_tup, rd_lst, rd_rep, rd_scr, seqO_lst, seqO_tup, setTg1, bAdd, bSub, cLt, cLe, cGt, cGe, cEq, cNe, cmpS, lenT, lenL, bInt, getT, getLs, idT, idL, omap, List.map_cons, List.map_nil, List.replicate, List.cons_append, List.nil_append, List.append_nil, List.getElem?_cons_zero, List.getElem?_cons_succ, List.set_cons_zero, List.set_cons_succ, List.length_map, List.length_cons, List.length_nil, wipeE, if_true, arr, Option.bind_some, List.reverse_nil, tupL, par2, par3, Nat.zero_add, Nat.reduceAdd, cap0, cap1, cap2, cap3, okRn (n := m.length) (by omega)]; rfl) seqO_lst rangeD_len ⟨none, rfl⟩ (fun i y hy env ⟨a, q⟩ => ?_) (fun d hd => ?_) (fun hd env ⟨a, q⟩ => ?_)
  · subst q
    obtain ⟨hi, rfl⟩ := range0_at hy
    refine ⟨_, setTg1, ?_⟩
    simp only [List.set_cons_zero, List.set_cons_succ]
    unfold h0 l23_0
    cases hc : (at' m i 0 == 0) with
    | true => exact .inr ⟨rfl, _, (w_skip (s1 := []) (by simp only [evSs, evS, evE, evEs, ok_bind, ok_thn, nx_seq, rt_seq, ok_calm, lift_some, rd_int, rd_bl, rd_tup, rd_lst, rd_rep, rd_scr, seqO_lst, seqO_tup, setTg1, bAdd, bSub, cLt, cLe, cGt, cGe, cEq, cNe, cmpS, lenT, lenL, bInt, getT, getLs, idT, idL, omap, List.map_cons, List.map_nil, List.replicate, List.cons_append, List.nil_append, List.append_nil, List.getElem?_cons_zero, List.getElem?_cons_succ, List.set_cons_zero, List.set_cons_succ, List.length_map, List.length_cons, List.length_nil, wipeE, if_true, arr, Option.bind_some, List.reverse_nil, tupL, par2, par3, Nat.zero_add, Nat.reduceAdd, cap0, cap1, cap2, cap3, ix_row hi, ent0 S hi, hc, Bool.not_true])).trans w_nil, _, rfl⟩
    | false =>
      refine .inl ⟨_, rfl, w_if_rt (s1 := []) (by simp only [evSs, evS, evE, evEs, ok_bind, ok_thn, nx_seq, rt_seq, ok_calm, lift_some, rd_int, rd_bl, rd_tup, rd_lst, rd_rep, rd_scr, seqO_lst, seqO_tup, setTg1, bAdd, bSub, cLt, cLe, cGt, cGe, cEq, cNe, cmpS, lenT, lenL, bInt, getT, getLs, idT, idL, omap, List.map_cons, List.map_nil, List.replicate, List.cons_append, List.nil_append, List.append_nil, List.getElem?_cons_zero, List.getElem?_cons_succ, List.set_cons_zero, List.set_cons_succ, List.length_map, List.length_cons, List.length_nil, wipeE, if_true, arr, Option.bind_some, List.reverse_nil, tupL, par2, par3, Nat.zero_add, Nat.reduceAdd, cap0, cap1, cap2, cap3, ix_row hi, ent0 S hi, hc, Bool.not_false]) (w_ret ?_)⟩
      unfold ad
      rw [stA]
      simp only [evSs, evS, evE, evEs, ok_bind, ok_thn, nx_seq, rt_seq, ok_calm, lift_some, rd_int, rd_bl, rd_tup, rd_lst, rd_rep, rd_scr, seqO_lst, seqO_tup, setTg1, bAdd, bSub, cLt, cLe, cGt, cGe, cEq, cNe, cmpS, lenT, lenL, bInt, getT, getLs, idT, idL, omap, List.map_cons, List.map_nil, List.replicate, List.cons_append, List.nil_append, List.append_nil, List.getElem?_cons_zero, List.getElem?_cons_succ, List.set_cons_zero, List.set_cons_succ, List.length_map, List.length_cons, List.length_nil, wipeE, if_true, arr, Option.bind_some, List.reverse_nil, tupL, par2, par3, Nat.zero_add, Nat.reduceAdd, cap0, cap1, cap2, cap3]
  · show _ = _
    rw [fs_map] at hd
    unfold flt endf
    cases h : fl0 m with
    | some f => rw [show (List.range m.length).findSome? (h0 m) = some f from h] at hd; cases hd; rfl
    | none => rw [show (List.range m.length).findSome? (h0 m) = none from h] at hd; cases hd
  subst q
  have hd0 : fl0 m = none := by
    rw [fs_map] at hd
    cases h : fl0 m with
    | none => rfl
    | some f => rw [show (List.range m.length).findSome? (h0 m) = some f from h] at hd; cases hd
  refine w_fs (h := fun i => (h1 m i).map (ad m.length)) (xs := rangeD 0 m.length) (n := m.length) (I := fun env => ∃ a, env = [some (Tt m), some (.int (m.length : Int)), a, none, none, none, none]) (P := fun r => r = .rt (oD ((flt m).map (ad m.length))) []) (x := .lst (rangeD 0 m.length)) (s1 := []) (by simp only [evSs, evS, evE, evEs, ok_bind, ok_thn, nx_seq, rt_seq, ok_calm, lift_some, rd_int, rd_bl, rd_tup, rd_lst, rd_rep, rd_scr, seqO_lst, seqO_tup, setTg1, bAdd, bSub, cLt, cLe, cGt, cGe, cEq, cNe, cmpS, lenT, lenL, bInt, getT, getLs, idT, idL, omap, List.map_cons, List.map_nil, List.replicate, List.cons_append, List.nil_append, List.append_nil, List.getElem?_cons_zero, List.getElem?_cons_succ, List.set_cons_zero, List.set_cons_succ, List.length_map, List.length_cons, List.length_nil, wipeE, if_true, arr, Option.bind_some, List.reverse_nil, tupL, par2, par3, Nat.zero_add, Nat.reduceAdd, cap0, cap1, cap2, cap3, okRn (n := m.length) (by omega)]; rfl) seqO_lst rangeD_len ⟨a, rfl⟩ (fun i y hy env ⟨a, q⟩ => ?_) (fun d hd => ?_) (fun hd env ⟨a, q⟩ => ?_)
  · subst q
    obtain ⟨hi, rfl⟩ := range0_at hy
    refine ⟨_, setTg1, ?_⟩
    simp only [List.set_cons_zero, List.set_cons_succ]
    unfold h1 l23_1
    have n1 := ent (j := m.length) S hi (Nat.le_refl _)
    have n2 := ent (j := m.length) S hn (Nat.le_refl _)
    cases hc : (at' m i m.length == at' m 0 m.length) with
    | true => exact .inr ⟨rfl, _, (w_skip (s1 := []) (by simp only [evSs, evS, evE, evEs, ok_bind, ok_thn, nx_seq, rt_seq, ok_calm, lift_some, rd_int, rd_bl, rd_tup, rd_lst, rd_rep, rd_scr, seqO_lst, seqO_tup, setTg1, bAdd, bSub, cLt, cLe, cGt, cGe, cEq, cNe, cmpS, lenT, lenL, bInt, getT, getLs, idT, idL, omap, List.map_cons, List.map_nil, List.replicate, List.cons_append, List.nil_append, List.append_nil, List.getElem?_cons_zero, List.getElem?_cons_succ, List.set_cons_zero, List.set_cons_succ, List.length_map, List.length_cons, List.length_nil, wipeE, if_true, arr, Option.bind_some, List.reverse_nil, tupL, par2, par3, Nat.zero_add, Nat.reduceAdd, cap0, cap1, cap2, cap3, ix_row hi, row0 S, n1, n2, hc, Bool.not_true])).trans w_nil, _, rfl⟩
    | false =>
      refine .inl ⟨_, rfl, w_if_rt (s1 := []) (by simp only [evSs, evS, evE, evEs, ok_bind, ok_thn, nx_seq, rt_seq, ok_calm, lift_some, rd_int, rd_bl, rd_tup, rd_lst, rd_rep, rd_scr, seqO_lst, seqO_tup, setTg1, bAdd, bSub, cLt, cLe, cGt, cGe, cEq, cNe, cmpS, lenT, lenL, bInt, getT, getLs, idT, idL, omap, List.map_cons, List.map_nil, List.replicate, List.cons_append, List.nil_append, List.append_nil, List.getElem?_cons_zero, List.getElem?_cons_succ, List.set_cons_zero, List.set_cons_succ, List.length_map, List.length_cons, List.length_nil, wipeE, if_true, arr, Option.bind_some, List.reverse_nil, tupL, par2, par3, Nat.zero_add, Nat.reduceAdd, cap0, cap1, cap2, cap3, ix_row hi, row0 S, n1, n2, hc, Bool.not_false]) (w_ret ?_)⟩
      unfold ad
      rw [stB]
      simp only [evSs, evS, evE, evEs, ok_bind, ok_thn, nx_seq, rt_seq, ok_calm, lift_some, rd_int, rd_bl, rd_tup, rd_lst, rd_rep, rd_scr, seqO_lst, seqO_tup, setTg1, bAdd, bSub, cLt, cLe, cGt, cGe, cEq, cNe, cmpS, lenT, lenL, bInt, getT, getLs, idT, idL, omap, List.map_cons, List.map_nil, List.replicate, List.cons_append, List.nil_append, List.append_nil, List.getElem?_cons_zero, List.getElem?_cons_succ, List.set_cons_zero, List.set_cons_succ, List.length_map, List.length_cons, List.length_nil, wipeE, if_true, arr, Option.bind_some, List.reverse_nil, tupL, par2, par3, Nat.zero_add, Nat.reduceAdd, cap0, cap1, cap2, cap3]
  · show _ = _
    rw [fs_map] at hd
    unfold flt endf
    rw [hd0]
    cases h : fl1 m with
    | some f => rw [show (List.range m.length).findSome? (h1 m) = some f from h] at hd; cases hd; rfl
    | none => rw [show (List.range m.length).findSome? (h1 m) = none from h] at hd; cases hd
  subst q
  have hd1 : fl1 m = none := by
    rw [fs_map] at hd
    cases h : fl1 m with
    | none => rfl
    | some f => rw [show (List.range m.length).findSome? (h1 m) = some f from h] at hd; cases hd
  have ef : flt m = fl2 m := by
    unfold flt endf
    rw [hd0, hd1]
  rw [ef]
  refine w_fs (h := fun i => (h2 m i).map (ad m.length)) (xs := rangeD 0 m.length) (n := m.length) (I := fun env => ∃ a b c d e, env = [some (Tt m), some (.int (m.length : Int)), a, b, c, d, e]) (P := fun r => r = .rt (oD ((fl2 m).map (ad m.length))) []) (x := .lst (rangeD 0 m.length)) (s1 := []) (by simp only [evSs, evS, evE, evEs, ok_bind, ok_thn, nx_seq, rt_seq, ok_calm, lift_some, rd_int, rd_bl, rd_tup, rd_lst, rd_rep, rd_scr, seqO_lst, seqO_tup, setTg1, bAdd, bSub, cLt, cLe, cGt, cGe, cEq, cNe, cmpS, lenT, lenL, bInt, getT, getLs, idT, idL, omap, List.map_cons, List.map_nil, List.replicate, List.cons_append, List.nil_append, List.append_nil, List.getElem?_cons_zero, List.getElem?_cons_succ, List.set_cons_zero, List.set_cons_succ, List.length_map, List.length_cons, List.length_nil, wipeE, if_true, arr, Option.bind_some, List.reverse_nil, tupL, par2, par3, Nat.zero_add, Nat.reduceAdd, cap0, cap1, cap2, cap3, okRn (n := m.length) (by omega)]; rfl) seqO_lst rangeD_len ⟨a, none, none, none, none, rfl⟩ (fun i y hy env ⟨a, b, c, d, e, q⟩ => ?_) (fun d hd => ?_) (fun hd env ⟨a, b, c, d, e, q⟩ => ?_)
  · subst q
    obtain ⟨hi, rfl⟩ := range0_at hy
    have hi' : (i + 1) % m.length < m.length := Nat.mod_lt _ hn
    have m1 : binD .mod (.int ((i : Int) + 1)) (.int (m.length : Int)) = some (.int (((i + 1) % m.length : Nat) : Int)) := by
      rw [bMod (by omega), show (i : Int) + 1 = (i : Int) + ((1 : Nat) : Int) from rfl, castMod]
    refine ⟨_, setTg1, ?_⟩
    simp only [List.set_cons_zero, List.set_cons_succ]
    unfold l23_3
    rw [w_par (ds := [I (m.getD i []), I (m.getD ((i + 1) % m.length) [])]) (s1 := []) (by simp only [evSs, evS, evE, evEs, ok_bind, ok_thn, nx_seq, rt_seq, ok_calm, lift_some, rd_int, rd_bl, rd_tup, rd_lst, rd_rep, rd_scr, seqO_lst, seqO_tup, setTg1, bAdd, bSub, cLt, cLe, cGt, cGe, cEq, cNe, cmpS, lenT, lenL, bInt, getT, getLs, idT, idL, omap, List.map_cons, List.map_nil, List.replicate, List.cons_append, List.nil_append, List.append_nil, List.getElem?_cons_zero, List.getElem?_cons_succ, List.set_cons_zero, List.set_cons_succ, List.length_map, List.length_cons, List.length_nil, wipeE, if_true, arr, Option.bind_some, List.reverse_nil, tupL, par2, par3, Nat.zero_add, Nat.reduceAdd, cap0, cap1, cap2, cap3, m1, ix_row hi, ix_row hi']) par2]
    simp only [List.set_cons_zero, List.set_cons_succ]
    have en : (m.length : Int) + 1 = ((m.length + 1 : Nat) : Int) := by omega
    have okL : (okR 1 && okR ((m.length + 1 : Nat) : Int)) = true := by
      rw [okRn (by omega)]
      rfl
    have e2 : (h2 m i).map (ad m.length) = (List.range m.length).findSome? fun l => (h3 m i l).map (ad m.length) := (fs_map _).symm
    rw [e2]
    refine w_fs (h := fun l => (h3 m i l).map (ad m.length)) (xs := rangeD 1 m.length) (n := m.length) (I := fun env => ∃ b e, env = [some (Tt m), some (.int (m.length : Int)), some (.int (i : Int)), b, some (I (m.getD i [])), some (I (m.getD ((i + 1) % m.length) [])), e]) (P := fun r => (∃ d, (List.range m.length).findSome? (fun l => (h3 m i l).map (ad m.length)) = some d ∧ r = .rt d []) ∨ ((List.range m.length).findSome? (fun l => (h3 m i l).map (ad m.length)) = none ∧ ∃ env', r = .nx env' [] ∧ ∃ a b c d e, env' = [some (Tt m), some (.int (m.length : Int)), a, b, c, d, e])) (x := .lst (rangeD 1 m.length)) (s1 := []) (by simp only [evSs, evS, evE, evEs, ok_bind, ok_thn, nx_seq, rt_seq, ok_calm, lift_some, rd_int, rd_bl, rd_tup, rd_lst, rd_rep, rd_scr, seqO_lst, seqO_tup, setTg1, bAdd, bSub, cLt, cLe, cGt, cGe, cEq, cNe, cmpS, lenT, lenL, bInt, getT, getLs, idT, idL, omap, List.map_cons, List.map_nil, List.replicate, List.cons_append, List.nil_append, List.append_nil, List.getElem?_cons_zero, List.getElem?_cons_succ, List.set_cons_zero, List.set_cons_succ, List.length_map, List.length_cons, List.length_nil, wipeE, if_true, arr, Option.bind_some, List.reverse_nil, tupL, par2, par3, Nat.zero_add, Nat.reduceAdd, cap0, cap1, cap2, cap3, en, okL, show (((m.length + 1 : Nat) : Int) - 1).toNat = m.length by omega]) seqO_lst rangeD_len ⟨b, e, rfl⟩ (fun l y hy env ⟨b, e, q⟩ => ?_) (fun d hd => .inl ⟨d, hd, rfl⟩) (fun hd env ⟨b, e, q⟩ => .inr ⟨hd, env, w_nil, _, _, _, _, _, q⟩)
    subst q
    obtain ⟨hl', rfl⟩ := rangeA_at hy
    refine ⟨_, setTg1, ?_⟩
    simp only [List.set_cons_zero, List.set_cons_succ]
    have el : (1 : Int) + (l : Int) = ((l + 1 : Nat) : Int) := by omega
    rw [el]
    have l1 : ((l + 1 : Nat) : Int) - 1 = (l : Int) := by omega
    have a1 := ent (j := l + 1) S hi (by omega)
    have a2 := ent (j := l) S hi (by omega)
    unfold l23_2 h3 bad
    rw [Nat.add_sub_cancel]
    cases hc : (decide (at' m i (l + 1) - at' m i l = 0) || decide (at' m i (l + 1) - at' m i l = 1)) with
    | false =>
      refine .inl ⟨_, rfl, w_if_rt (s1 := []) (by simp only [evSs, evS, evE, evEs, ok_bind, ok_thn, nx_seq, rt_seq, ok_calm, lift_some, rd_int, rd_bl, rd_tup, rd_lst, rd_rep, rd_scr, seqO_lst, seqO_tup, setTg1, bAdd, bSub, cLt, cLe, cGt, cGe, cEq, cNe, cmpS, lenT, lenL, bInt, getT, getLs, idT, idL, omap, List.map_cons, List.map_nil, List.replicate, List.cons_append, List.nil_append, List.append_nil, List.getElem?_cons_zero, List.getElem?_cons_succ, List.set_cons_zero, List.set_cons_succ, List.length_map, List.length_cons, List.length_nil, wipeE, if_true, arr, Option.bind_some, List.reverse_nil, tupL, par2, par3, Nat.zero_add, Nat.reduceAdd, cap0, cap1, cap2, cap3, l1, a1, a2, nmem2, hc, Bool.not_false]) (w_ret ?_)⟩
      unfold ad
      rw [stC]
      simp only [evSs, evS, evE, evEs, ok_bind, ok_thn, nx_seq, rt_seq, ok_calm, lift_some, rd_int, rd_bl, rd_tup, rd_lst, rd_rep, rd_scr, seqO_lst, seqO_tup, setTg1, bAdd, bSub, cLt, cLe, cGt, cGe, cEq, cNe, cmpS, lenT, lenL, bInt, getT, getLs, idT, idL, omap, List.map_cons, List.map_nil, List.replicate, List.cons_append, List.nil_append, List.append_nil, List.getElem?_cons_zero, List.getElem?_cons_succ, List.set_cons_zero, List.set_cons_succ, List.length_map, List.length_cons, List.length_nil, wipeE, if_true, arr, Option.bind_some, List.reverse_nil, tupL, par2, par3, Nat.zero_add, Nat.reduceAdd, cap0, cap1, cap2, cap3]
    | true =>
      rw [w_skip (s1 := []) (by simp only [evSs, evS, evE, evEs, ok_bind, ok_thn, nx_seq, rt_seq, ok_calm, lift_some, rd_int, rd_bl, rd_tup, rd_lst, rd_rep, rd_scr, seqO_lst, seqO_tup, setTg1, bAdd, bSub, cLt, cLe, cGt, cGe, cEq, cNe, cmpS, lenT, lenL, bInt, getT, getLs, idT, idL, omap, List.map_cons, List.map_nil, List.replicate, List.cons_append, List.nil_append, List.append_nil, List.getElem?_cons_zero, List.getElem?_cons_succ, List.set_cons_zero, List.set_cons_succ, List.length_map, List.length_cons, List.length_nil, wipeE, if_true, arr, Option.bind_some, List.reverse_nil, tupL, par2, par3, Nat.zero_add, Nat.reduceAdd, cap0, cap1, cap2, cap3, l1, a1, a2, nmem2, hc, Bool.not_true])]
      by_cases h3 : 1 < l + 1
      · have l2 : ((l + 1 : Nat) : Int) - 2 = ((l + 1 - 2 : Nat) : Int) := by omega
        have b1 := ent (j := l) S hi' (by omega)
        have b2 := ent (j := l + 1 - 2) S hi' (by omega)
        have c1 : decide (1 < ((l + 1 : Nat) : Int)) = true := decide_eq_true (by omega)
        simp only [decide_eq_true h3, Bool.true_and, if_true]
        cases hq : decide (at' m i l + at' m ((i + 1) % m.length) l < at' m i (l + 1) + at' m ((i + 1) % m.length) (l + 1 - 2)) with
        | true =>
          simp only [if_true]
          refine .inl ⟨_, rfl, w_if_rt (s1 := []) (by simp only [evSs, evS, evE, evEs, ok_bind, ok_thn, nx_seq, rt_seq, ok_calm, lift_some, rd_int, rd_bl, rd_tup, rd_lst, rd_rep, rd_scr, seqO_lst, seqO_tup, setTg1, bAdd, bSub, cLt, cLe, cGt, cGe, cEq, cNe, cmpS, lenT, lenL, bInt, getT, getLs, idT, idL, omap, List.map_cons, List.map_nil, List.replicate, List.cons_append, List.nil_append, List.append_nil, List.getElem?_cons_zero, List.getElem?_cons_succ, List.set_cons_zero, List.set_cons_succ, List.length_map, List.length_cons, List.length_nil, wipeE, if_true, arr, Option.bind_some, List.reverse_nil, tupL, par2, par3, Nat.zero_add, Nat.reduceAdd, cap0, cap1, cap2, cap3, c1]) ?_⟩
          rw [w_asg (d := .int (at' m i l + at' m ((i + 1) % m.length) l)) (s1 := []) (by simp only [evSs, evS, evE, evEs, ok_bind, ok_thn, nx_seq, rt_seq, ok_calm, lift_some, rd_int, rd_bl, rd_tup, rd_lst, rd_rep, rd_scr, seqO_lst, seqO_tup, setTg1, bAdd, bSub, cLt, cLe, cGt, cGe, cEq, cNe, cmpS, lenT, lenL, bInt, getT, getLs, idT, idL, omap, List.map_cons, List.map_nil, List.replicate, List.cons_append, List.nil_append, List.append_nil, List.getElem?_cons_zero, List.getElem?_cons_succ, List.set_cons_zero, List.set_cons_succ, List.length_map, List.length_cons, List.length_nil, wipeE, if_true, arr, Option.bind_some, List.reverse_nil, tupL, par2, par3, Nat.zero_add, Nat.reduceAdd, cap0, cap1, cap2, cap3, l1, a2, b1])]
          simp only [List.set_cons_zero, List.set_cons_succ]
          refine w_if_rt (s1 := []) (by simp only [evSs, evS, evE, evEs, ok_bind, ok_thn, nx_seq, rt_seq, ok_calm, lift_some, rd_int, rd_bl, rd_tup, rd_lst, rd_rep, rd_scr, seqO_lst, seqO_tup, setTg1, bAdd, bSub, cLt, cLe, cGt, cGe, cEq, cNe, cmpS, lenT, lenL, bInt, getT, getLs, idT, idL, omap, List.map_cons, List.map_nil, List.replicate, List.cons_append, List.nil_append, List.append_nil, List.getElem?_cons_zero, List.getElem?_cons_succ, List.set_cons_zero, List.set_cons_succ, List.length_map, List.length_cons, List.length_nil, wipeE, if_true, arr, Option.bind_some, List.reverse_nil, tupL, par2, par3, Nat.zero_add, Nat.reduceAdd, cap0, cap1, cap2, cap3, l2, a1, b2, hq]) (w_ret ?_)
          unfold ad
          rw [stD]
          simp only [evSs, evS, evE, evEs, ok_bind, ok_thn, nx_seq, rt_seq, ok_calm, lift_some, rd_int, rd_bl, rd_tup, rd_lst, rd_rep, rd_scr, seqO_lst, seqO_tup, setTg1, bAdd, bSub, cLt, cLe, cGt, cGe, cEq, cNe, cmpS, lenT, lenL, bInt, getT, getLs, idT, idL, omap, List.map_cons, List.map_nil, List.replicate, List.cons_append, List.nil_append, List.append_nil, List.getElem?_cons_zero, List.getElem?_cons_succ, List.set_cons_zero, List.set_cons_succ, List.length_map, List.length_cons, List.length_nil, wipeE, if_true, arr, Option.bind_some, List.reverse_nil, tupL, par2, par3, Nat.zero_add, Nat.reduceAdd, cap0, cap1, cap2, cap3]
        | false =>
          simp only [Bool.false_eq_true, if_false]
          refine .inr ⟨rfl, _, (w_if_nx (s1 := []) (s2 := []) (env1 := [some (Tt m), some (.int (m.length : Int)), some (.int (i : Int)), some (.int ((l + 1 : Nat) : Int)), some (I (m.getD i [])), some (I (m.getD ((i + 1) % m.length) [])), some (.int (at' m i l + at' m ((i + 1) % m.length) l))]) (by simp only [evSs, evS, evE, evEs, ok_bind, ok_thn, nx_seq, rt_seq, ok_calm, lift_some, rd_int, rd_bl, rd_tup, rd_lst, rd_rep, rd_scr, seqO_lst, seqO_tup, setTg1, bAdd, bSub, cLt, cLe, cGt, cGe, cEq, cNe, cmpS, lenT, lenL, bInt, getT, getLs, idT, idL, omap, List.map_cons, List.map_nil, List.replicate, List.cons_append, List.nil_append, List.append_nil, List.getElem?_cons_zero, List.getElem?_cons_succ, List.set_cons_zero, List.set_cons_succ, List.length_map, List.length_cons, List.length_nil, wipeE, if_true, arr, Option.bind_some, List.reverse_nil, tupL, par2, par3, Nat.zero_add, Nat.reduceAdd, cap0, cap1, cap2, cap3, c1]) ?_).trans w_nil, _, _, rfl⟩
          rw [w_asg (d := .int (at' m i l + at' m ((i + 1) % m.length) l)) (s1 := []) (by simp only [evSs, evS, evE, evEs, ok_bind, ok_thn, nx_seq, rt_seq, ok_calm, lift_some, rd_int, rd_bl, rd_tup, rd_lst, rd_rep, rd_scr, seqO_lst, seqO_tup, setTg1, bAdd, bSub, cLt, cLe, cGt, cGe, cEq, cNe, cmpS, lenT, lenL, bInt, getT, getLs, idT, idL, omap, List.map_cons, List.map_nil, List.replicate, List.cons_append, List.nil_append, List.append_nil, List.getElem?_cons_zero, List.getElem?_cons_succ, List.set_cons_zero, List.set_cons_succ, List.length_map, List.length_cons, List.length_nil, wipeE, if_true, arr, Option.bind_some, List.reverse_nil, tupL, par2, par3, Nat.zero_add, Nat.reduceAdd, cap0, cap1, cap2, cap3, l1, a2, b1])]
          simp only [List.set_cons_zero, List.set_cons_succ]
          exact (w_skip (s1 := []) (by simp only [evSs, evS, evE, evEs, ok_bind, ok_thn, nx_seq, rt_seq, ok_calm, lift_some, rd_int, rd_bl, rd_tup, rd_lst, rd_rep, rd_scr, seqO_lst, seqO_tup, setTg1, bAdd, bSub, cLt, cLe, cGt, cGe, cEq, cNe, cmpS, lenT, lenL, bInt, getT, getLs, idT, idL, omap, List.map_cons, List.map_nil, List.replicate, List.cons_append, List.nil_append, List.append_nil, List.getElem?_cons_zero, List.getElem?_cons_succ, List.set_cons_zero, List.set_cons_succ, List.length_map, List.length_cons, List.length_nil, wipeE, if_true, arr, Option.bind_some, List.reverse_nil, tupL, par2, par3, Nat.zero_add, Nat.reduceAdd, cap0, cap1, cap2, cap3, l2, a1, b2, hq])).trans w_nil
      · have c1 : decide (1 < ((l + 1 : Nat) : Int)) = false := decide_eq_false (by omega)
        simp only [decide_eq_false h3, Bool.false_and, Bool.false_eq_true, if_false, if_true]
        exact .inr ⟨rfl, _, (w_skip (s1 := []) (by simp only [evSs, evS, evE, evEs, ok_bind, ok_thn, nx_seq, rt_seq, ok_calm, lift_some, rd_int, rd_bl, rd_tup, rd_lst, rd_rep, rd_scr, seqO_lst, seqO_tup, setTg1, bAdd, bSub, cLt, cLe, cGt, cGe, cEq, cNe, cmpS, lenT, lenL, bInt, getT, getLs, idT, idL, omap, List.map_cons, List.map_nil, List.replicate, List.cons_append, List.nil_append, List.append_nil, List.getElem?_cons_zero, List.getElem?_cons_succ, List.set_cons_zero, List.set_cons_succ, List.length_map, List.length_cons, List.length_nil, wipeE, if_true, arr, Option.bind_some, List.reverse_nil, tupL, par2, par3, Nat.zero_add, Nat.reduceAdd, cap0, cap1, cap2, cap3, c1])).trans w_nil, _, _, rfl⟩
  · show _ = _
    rw [fs_map] at hd
    rw [show (fl2 m).map (ad m.length) = some d from hd]
    rfl
  · subst q
    show _ = _
    rw [fs_map] at hd
    rw [show (fl2 m).map (ad m.length) = none from hd]
    exact w_ret (by simp only [evSs, evS, evE, evEs, ok_bind, ok_thn, nx_seq, rt_seq, ok_calm, lift_some, rd_int, rd_bl, rd_tup, rd_lst, rd_rep, rd_scr, seqO_lst, seqO_tup, setTg1, bAdd, bSub, cLt, cLe, cGt, cGe, cEq, cNe, cmpS, lenT, lenL, bInt, getT, getLs, idT, idL, omap, List.map_cons, List.map_nil, List.replicate, List.cons_append, List.nil_append, List.append_nil, List.getElem?_cons_zero, List.getElem?_cons_succ, List.set_cons_zero, List.set_cons_succ, List.length_map, List.length_cons, List.length_nil, wipeE, if_true, arr, Option.bind_some, List.reverse_nil, tupL, par2, par3, Nat.zero_add, Nat.reduceAdd, cap0, cap1, cap2, cap3]; rfl)
end
end K14

set_option Elab.async false
set_option linter.all false
set_option maxRecDepth 100000
set_option maxHeartbeats 4000000
/-! T5: K14, what is heard. -/
namespace K14
open T5 PySem TabM
def su22 : CSs := (.cons (.asg [2] (.lst (.cons (.exi 1 [1, 2]) (.cons (.exi 1 [0]) (.cons (.exi 1 []) .nil))))) (.cons (.iff (.not (.exi 1 [0, 1, 2])) (.cons (.ret (.tup (.cons (.con (.str "other")) .nil))) .nil) .nil) (.cons (.iff (.and (.exi 1 [1]) (.cmp .eq (.var 2) (.lst (.cons (.con (.bl true)) (.cons (.con (.bl false)) (.cons (.con (.bl false)) .nil)))))) (.cons (.ret (.tup (.cons (.con (.str "not")) (.cons (.exf 1 [(0 , 0), (1 , 0)]) (.cons (.exf 1 [(0 , 1), (1 , 1)]) .nil))))) .nil) .nil) (.cons (.iff (.and (.exi 1 [2]) (.cmp .eq (.var 2) (.lst (.cons (.con (.bl true)) (.cons (.con (.bl false)) (.cons (.con (.bl false)) .nil)))))) (.cons (.ret (.tup (.cons (.con (.str "unheld")) (.cons (.exf 1 [(2 , 0)]) .nil)))) .nil) .nil) (.cons (.iff (.and (.exi 1 [0]) (.cmp .eq (.var 2) (.lst (.cons (.con (.bl false)) (.cons (.con (.bl true)) (.cons (.con (.bl false)) .nil)))))) (.cons (.ret (.tup (.cons (.con (.str "paper")) (.cons (.exf 1 [(0 , 0), (1 , 0)]) (.cons (.exf 1 [(0 , 1), (1 , 1)]) .nil))))) .nil) .nil) (.cons (.ret (.tup (.cons (.con (.str "other")) .nil))) .nil))))))
section
variable {k : Nat} {t : List Int} {m : Tab} {th : Thk} {s : Sto} {d : D}
theorem e22 {d : D} (h : th s = .ok d s) (hs : pfS 0 s = true) (hc : Cl s) (hd : clean s.length d = true) (hp : pf 0 d = true) : T5.run F (k + 1) 22 [] th s = .ok (.tup [.str "got", d]) s := by
  have hb : evSs (T5.hk (T5.run F k) th) f22.body [some (.pin 0), none, none] s = .rt (.tup [.str "got", d]) s := by
    have ha : evE (T5.hk (T5.run F k) th) .act [some (.pin 0), none, none] s = .ok d s := by
      rw [evE]
      show T5.hk (T5.run F k) th ACT [] noT s = _
      unfold T5.hk
      rw [if_pos (Nat.beq_refl ACT), if_pos hs, h]
    rw [f22]
    simp only [evSs, evS, evE, evEs, ok_bind, ok_thn, rt_seq] at ha ⊢
    rw [ha]
    rfl
  rw [T5.run, F22]
  show endA (endF false s.length (evSs (T5.hk (T5.run F k) th) f22.body [some (.pin 0), none, none] s)) = _
  rw [hb]
  have hcl : clean s.length (.tup [.str "got", d]) = true := by
    show (true && (clean s.length d && true)) = true
    rw [hd]
    rfl
  rw [end_sm hc hcl]
  show (if ((true && (pf 0 d && true)) && pfS 0 s) = true then R.ok (D.tup [.str "got", d]) s else .bad) = _
  rw [hp, hs]
  rfl
theorem e22x {c : Nat} {es : List D} {d : D} (h : th s = .err c es s) (hs : pfS 0 s = true) (hs1 : pfS 1 s = true) (hc : Cl s) (hm : memN c [0, 1, 2] = true) (hes : cleanL 0 es = true) (hd : clean s.length d = true) (hp : pf 0 d = true) (hp1 : pf 1 d = true)
    (hh : evSs (hx (T5.hk (T5.run F k) th) c es) su22 [some (.pin 0), some (.pin 1), none] s = .rt d s) :
    T5.run F (k + 1) 22 [] th s = .ok d s := by
  have hb : evSs (T5.hk (T5.run F k) th) f22.body [some (.pin 0), none, none] s = .rt d s := by
    have ha : evE (T5.hk (T5.run F k) th) .act [some (.pin 0), none, none] s = .err c es s := by
      rw [evE]
      show T5.hk (T5.run F k) th ACT [] noT s = _
      unfold T5.hk
      rw [if_pos (Nat.beq_refl ACT), if_pos hs, h]
    have ht : evSs (T5.hk (T5.run F k) th) (.cons (.ret (.tup (.cons (.con (.str "got")) (.cons .act .nil)))) .nil) [some (.pin 0), none, none] s = .err c es [some (.pin 0), none, none] s := by
      refine w_ret_err ?_
      rw [evE, evEs, evE, ok_bind, evEs, ha]
      rfl
    rw [show f22.body = .cons (.tryS (.cons (.ret (.tup (.cons (.con (.str "got")) (.cons .act .nil)))) .nil) [0, 1, 2] (some 1) su22) .nil from rfl, evSs, evS, ht]
    simp only
    rw [if_pos hm, if_pos hes]
    show (unS (some 1) (evSs (hx (T5.hk (T5.run F k) th) c es) su22 [some (.pin 0), some (.pin 1), none] s)).seq _ = _
    rw [hh]
    show (if (pf 1 d && pfS 1 s) = true then SR.rt d s else .bad).seq _ = _
    rw [hp1, hs1]
    rfl
  rw [T5.run, F22]
  show endA (endF false s.length (evSs (T5.hk (T5.run F k) th) f22.body [some (.pin 0), none, none] s)) = _
  rw [hb, end_sm hc hd]
  show (if (pf 0 d && pfS 0 s) = true then R.ok d s else .bad) = _
  rw [hp, hs]
  rfl
theorem e22p {w : Str} {x : D} (h : th s = .err 0 [.str w, x] s) (hs : pfS 0 s = true) (hs1 : pfS 1 s = true) (hc : Cl s) (cx : ∀ n, clean n x = true) (px : ∀ n, pf n x = true) : T5.run F (k + 1) 22 [] th s = .ok (.tup [.str "paper", .str w, x]) s := by
  refine e22x h hs hs1 hc rfl ?_ ?_ ?_ ?_ rfl
  · show (true && (clean 0 x && true)) = true
    rw [cx]; rfl
  · show (true && (true && (clean s.length x && true))) = true
    rw [cx]; rfl
  · show (true && (true && (pf 0 x && true))) = true
    rw [px]; rfl
  · show (true && (true && (pf 1 x && true))) = true
    rw [px]; rfl
theorem e22u {x : D} (h : th s = .err 2 [x] s) (hs : pfS 0 s = true) (hs1 : pfS 1 s = true) (hc : Cl s) (cx : ∀ n, clean n x = true) (px : ∀ n, pf n x = true) : T5.run F (k + 1) 22 [] th s = .ok (.tup [.str "unheld", x]) s := by
  refine e22x h hs hs1 hc rfl ?_ ?_ ?_ ?_ rfl
  · show (clean 0 x && true) = true
    rw [cx]; rfl
  · show (true && (clean s.length x && true)) = true
    rw [cx]; rfl
  · show (true && (pf 0 x && true)) = true
    rw [px]; rfl
  · show (true && (pf 1 x && true)) = true
    rw [px]; rfl
end
end K14

set_option Elab.async false
set_option linter.all false
set_option maxRecDepth 100000
set_option maxHeartbeats 4000000
/-! T5: K14, a table is judged as due. -/
namespace K14
open T5 PySem TabM
theorem rep_any {d : D} (h1 : smD d = true) (h2 : dpD d ≤ 64) (h3 : bkD d ≤ 5000) : biD .repr [d] = some (.rep d) := by
  have := repD_ok h1 h2 h3
  cases d <;> first | exact this | (cases h1; done)
theorem eq_rep {d : D} : cmpD .eq (.rep d) (.rep d) = some true := eqq_rep d
theorem pfF {n : Nat} {d : D} (h : IsF n d) (j : Nat) : pf j d = true := by
  cases h <;> rfl
theorem pfSt {n : Nat} {d : D} (h : IsF n d) (j : Nat) : pf j (st n d) = true := by
  cases h <;> first | rw [stA]; rfl | rw [stB]; rfl | rw [stC]; rfl | rw [stD]; rfl
theorem pf1L {d : D} (h : ∀ n, pf n d = true) (n : Nat) : pfS n [.lst [d]] = true := by
  show ((pf n d && true) && true) = true
  rw [h]
  rfl
theorem cl1L {d : D} (h : ∀ n, clean n d = true) : Cl [.lst [d]] := by
  show ((clean 1 d && true) && true) = true
  rw [h]
  rfl
theorem sPaper : smD (.str "paper") = true := by decide +kernel
theorem sUnh : smD (.str "unheld") = true := by decide +kernel
theorem sN : smD (.str "nought") = true := by decide +kernel
theorem sW : smD (.str "whole") = true := by decide +kernel
theorem sA : smD (.str "ahead") = true := by decide +kernel
theorem sQ : smD (.str "square") = true := by decide +kernel
theorem bPaper : bkD (.str "paper") = 5 := by decide +kernel
theorem bUnh : bkD (.str "unheld") = 6 := by decide +kernel
theorem bN : bkD (.str "nought") = 6 := by decide +kernel
theorem bW : bkD (.str "whole") = 5 := by decide +kernel
theorem bA : bkD (.str "ahead") = 5 := by decide +kernel
theorem bQ : bkD (.str "square") = 6 := by decide +kernel
theorem smi {i : Nat} (h : i ≤ 100) : smD (.int (i : Int)) = true := decide_eq_true (by omega)
abbrev ruL (w x y : D) : D := .lst [.tup [.str "paper", w, x], .tup [.str "unheld", y], .bl false]
theorem ruS {w x y : D} (hw : smD w = true) (hx : smD x = true) (hy : smD y = true) : smD (ruL w x y) = true := by
  show ((smD (.str "paper") && (smD w && (smD x && true))) && ((smD (.str "unheld") && (smD y && true)) && (true && true))) = true
  rw [sPaper, sUnh, hw, hx, hy]
  rfl
theorem ruB {w x y : D} : bkD (ruL w x y) = (5 + 1 + (bkD w + 1 + (bkD x + 1 + 0))) + 1 + ((6 + 1 + (bkD y + 1 + 0)) + 1 + (0 + 1 + 0)) := by
  show (bkD (.str "paper") + 1 + (bkD w + 1 + (bkD x + 1 + 0))) + 1 + ((bkD (.str "unheld") + 1 + (bkD y + 1 + 0)) + 1 + (0 + 1 + 0)) = _
  rw [bPaper, bUnh]
theorem pairS {i l : Nat} (hi : i ≤ 100) (hl : l ≤ 100) : smD (.tup [.int (i : Int), .int (l : Int)]) = true := by
  show (smD (.int (i : Int)) && (smD (.int (l : Int)) && true)) = true
  rw [smi hi, smi hl]
  rfl
theorem ruleF {n : Nat} {w : Str} {x : D} (hn : n ≤ 100) (h : IsF n (.tup [.str w, x])) :
    smD (ruL (.str w) x (st n (.tup [.str w, x]))) = true ∧ dpD (ruL (.str w) x (st n (.tup [.str w, x]))) ≤ 64 ∧ bkD (ruL (.str w) x (st n (.tup [.str w, x]))) ≤ 5000 := by
  cases h with
  | a i h =>
    rw [stA]
    refine ⟨ruS sN (smi (by omega)) (pairS (l := 0) (by omega) (by omega)), Nat.le_of_ble_eq_true rfl, ?_⟩
    rw [ruB, bN]
    exact Nat.le_of_ble_eq_true rfl
  | b i h =>
    rw [stB]
    refine ⟨ruS sW (smi (by omega)) (pairS (by omega) (by omega)), Nat.le_of_ble_eq_true rfl, ?_⟩
    rw [ruB, bW]
    exact Nat.le_of_ble_eq_true rfl
  | c i l h h2 =>
    rw [stC]
    refine ⟨ruS sA (pairS (by omega) (by omega)) (pairS (by omega) (by omega)), Nat.le_of_ble_eq_true rfl, ?_⟩
    rw [ruB, bA]
    exact Nat.le_of_ble_eq_true rfl
  | d i l h h2 =>
    rw [stD]
    refine ⟨ruS sQ (pairS (by omega) (by omega)) (pairS (by omega) (by omega)), Nat.le_of_ble_eq_true rfl, ?_⟩
    rw [ruB, bQ]
    exact Nat.le_of_ble_eq_true rfl
end K14

set_option Elab.async false
set_option linter.all false
set_option maxRecDepth 100000
set_option maxHeartbeats 4000000
/-! T5: K14, a table is judged as due. -/
namespace K14
open T5 PySem TabM
section
variable {k : Nat} {t : List Int} {m : Tab} {th : Thk} {s : Sto} {d : D}
theorem rdR {s : Sto} {d : D} : rd s (.rep d) = .rep d := by cases s <;> rfl
theorem rdL0 {ds : List D} : rd [.lst ds] (.loc 0) = .lst ds := id rfl
theorem add12 {a b c : D} : binD .add (.tup [a]) (.tup [b, c]) = some (.tup [a, b, c]) := id rfl
theorem app1 {ds : List D} {v : D} (h : ds.length < 1000) : appD [.lst ds] (.loc 0) v = some [.lst (ds ++ [v])] := app_end (s := []) (by unfold cap; omega)
theorem e24f (S : Sq m) (hl : m.length ≤ 100) {w : Str} {x : D} (hf : flt m = some (.tup [.str w, x])) : T5.run F (k + 5) 24 [Tt m] th s = .ok (.bl true) s := by
  have hF := isF hf
  obtain ⟨w', x', e, cx, rx⟩ := hF.two
  cases e
  obtain ⟨r1, r2, r3⟩ := ruleF (by omega) hF
  have hr := rep_any r1 r2 r3
  have px : ∀ n, pf n x = true := fun n => by
    have := pfF hF n
    have h2 : (true && (pf n x && true)) = true := this
    simpa using h2
  have g23 : T5.run F (k + 4) 23 [Tt m] noT [] = .ok (oD ((flt m).map (ad m.length))) [] := e23 S hl
  rw [hf] at g23
  have g9 : ∀ s, T5.run F (k + 4) 9 [Tt m] noT s = .err 0 [.str w, x] s := fun s => e9f S hl hf
  have g13 : ∀ s, T5.run F (k + 4) 13 [Tt m] noT s = .err 2 [st m.length (.tup [.str w, x])] s := fun s => e13f S hl hf
  have g12 : ∀ s, T5.run F (k + 4) 12 [Tt m] noT s = .ok (.bl false) s := fun s => by
    have := e12 (k := k) (th := noT) (s := s) S hl
    rwa [hf] at this
  have p22 : ∀ (th : Thk) (s : Sto), th s = .err 0 [.str w, x] s → pfS 0 s = true → pfS 1 s = true → Cl s → T5.run F (k + 4) 22 [] th s = .ok (.tup [.str "paper", .str w, x]) s := fun th s a b c d => e22p a b c d cx px
  have u22 : ∀ (th : Thk) (s : Sto), th s = .err 2 [st m.length (.tup [.str w, x])] s → pfS 0 s = true → pfS 1 s = true → Cl s → T5.run F (k + 4) 22 [] th s = .ok (.tup [.str "unheld", st m.length (.tup [.str w, x])]) s := fun th s a b c d => e22u a b c d (fun n => clSt hF n) (fun n => pfSt hF n)
  have cP : ∀ n, clean n (.tup [.str "paper", .str w, x]) = true := fun n => by
    show (true && (true && (clean n x && true))) = true
    rw [cx]
    rfl
  have pP : ∀ n, pf n (.tup [.str "paper", .str w, x]) = true := fun n => by
    show (true && (true && (pf n x && true))) = true
    rw [px]
    rfl
  obtain ⟨y, hy⟩ : ∃ y, st m.length (.tup [.str w, x]) = y := ⟨_, rfl⟩
  have ry : ∀ s, rd s y = y := fun s => by
    rw [← hy]
    have := hF
    cases this <;> first | rw [stA]; cases s <;> rfl | rw [stB]; cases s <;> rfl | rw [stC]; cases s <;> rfl | rw [stD]; cases s <;> rfl
  have eg : oD (Option.map (ad m.length) (some (.tup [.str w, x]))) = .tup [.tup [.str w, x], y] := by
    rw [← hy]
    rfl
  rw [eg] at g23
  rw [hy] at g13 u22 hr
  refine sld (env0 := [some (Tt m), none, none, none]) F24 rfl rfl rfl (cc1 (clTt 0 m)) rfl (e := [.lst [.tup [.str "paper", .str w, x], .tup [.str "unheld", y], .bl false]]) ?_ rfl
  generalize T5.run F (k + 4) = cl at g23 g9 g13 g12 p22 u22 ⊢
  refine (w_asg (d := .tup [.tup [.str w, x], y]) (s1 := []) (by simp only [evSs, evS, evE, evEs, ok_bind, ok_thn, nx_seq, rt_seq, ok_calm, lift_some, rd_int, rd_bl, rd_tup, rd_lst, rd_rep, rd_scr, seqO_lst, seqO_tup, setTg1, bAdd, bSub, cLt, cLe, cGt, cGe, cEq, cNe, cmpS, lenT, lenL, bInt, getT, getLs, idT, idL, omap, List.map_cons, List.map_nil, List.replicate, List.cons_append, List.nil_append, List.append_nil, List.getElem?_cons_zero, List.getElem?_cons_succ, List.set_cons_zero, List.set_cons_succ, List.length_map, List.length_cons, List.length_nil, wipeE, if_true, arr, Option.bind_some, List.reverse_nil, tupL, par2, par3, Nat.zero_add, Nat.reduceAdd, cap0, cap1, cap2, cap3, g23])).trans ?_
  simp only [List.set_cons_zero, List.set_cons_succ]
  refine (w_asg (d := .loc 0) (s1 := [.lst [.tup [.str "paper", .str w, x]]]) ?_).trans ?_
  · have q : evE cl (.lam 22 (.call 9 [.inl 0] (.cons (.var 0) .nil) .nil)) [some (Tt m), some (.tup [.tup [.str w, x], y]), none, none] [] = .ok (.tup [.str "paper", .str w, x]) [] := by
      rw [evE]
      exact p22 _ _ (by simp only [evSs, evS, evE, evEs, ok_bind, ok_thn, nx_seq, rt_seq, ok_calm, lift_some, rd_int, rd_bl, rd_tup, rd_lst, rd_rep, rd_scr, seqO_lst, seqO_tup, setTg1, bAdd, bSub, cLt, cLe, cGt, cGe, cEq, cNe, cmpS, lenT, lenL, bInt, getT, getLs, idT, idL, omap, List.map_cons, List.map_nil, List.replicate, List.cons_append, List.nil_append, List.append_nil, List.getElem?_cons_zero, List.getElem?_cons_succ, List.set_cons_zero, List.set_cons_succ, List.length_map, List.length_cons, List.length_nil, wipeE, if_true, arr, Option.bind_some, List.reverse_nil, tupL, par2, par3, Nat.zero_add, Nat.reduceAdd, cap0, cap1, cap2, cap3, g9]) rfl rfl rfl
    rw [evE, evE, evEs, q, ok_bind, evEs]
    rfl
  simp only [List.set_cons_zero, List.set_cons_succ]
  refine (w_app (x := .loc 0) (s1 := [.lst [.tup [.str "paper", .str w, x]]]) (v := .tup [.str "unheld", y]) (s2 := [.lst [.tup [.str "paper", .str w, x]]]) (by simp only [evSs, evS, evE, evEs, ok_bind, ok_thn, nx_seq, rt_seq, ok_calm, lift_some, rd_int, rd_bl, rd_tup, rd_lst, rd_rep, rd_scr, seqO_lst, seqO_tup, setTg1, bAdd, bSub, cLt, cLe, cGt, cGe, cEq, cNe, cmpS, lenT, lenL, bInt, getT, getLs, idT, idL, omap, List.map_cons, List.map_nil, List.replicate, List.cons_append, List.nil_append, List.append_nil, List.getElem?_cons_zero, List.getElem?_cons_succ, List.set_cons_zero, List.set_cons_succ, List.length_map, List.length_cons, List.length_nil, wipeE, if_true, arr, Option.bind_some, List.reverse_nil, tupL, par2, par3, Nat.zero_add, Nat.reduceAdd, cap0, cap1, cap2, cap3]) rfl ?_ (app1 (by simp))).trans ?_
  · rw [evE]
    exact u22 _ _ (by simp only [evSs, evS, evE, evEs, ok_bind, ok_thn, nx_seq, rt_seq, ok_calm, lift_some, rd_int, rd_bl, rd_tup, rd_lst, rd_rep, rd_scr, seqO_lst, seqO_tup, setTg1, bAdd, bSub, cLt, cLe, cGt, cGe, cEq, cNe, cmpS, lenT, lenL, bInt, getT, getLs, idT, idL, omap, List.map_cons, List.map_nil, List.replicate, List.cons_append, List.nil_append, List.append_nil, List.getElem?_cons_zero, List.getElem?_cons_succ, List.set_cons_zero, List.set_cons_succ, List.length_map, List.length_cons, List.length_nil, wipeE, if_true, arr, Option.bind_some, List.reverse_nil, tupL, par2, par3, Nat.zero_add, Nat.reduceAdd, cap0, cap1, cap2, cap3, g13]) (pf1L pP 0) (pf1L pP 1) (cl1L cP)
  simp only [List.cons_append, List.nil_append]
  refine (w_app (x := .loc 0) (s1 := [.lst [.tup [.str "paper", .str w, x], .tup [.str "unheld", y]]]) (v := .bl false) (s2 := [.lst [.tup [.str "paper", .str w, x], .tup [.str "unheld", y]]]) (by simp only [evSs, evS, evE, evEs, ok_bind, ok_thn, nx_seq, rt_seq, ok_calm, lift_some, rd_int, rd_bl, rd_tup, rd_lst, rd_rep, rd_scr, seqO_lst, seqO_tup, setTg1, bAdd, bSub, cLt, cLe, cGt, cGe, cEq, cNe, cmpS, lenT, lenL, bInt, getT, getLs, idT, idL, omap, List.map_cons, List.map_nil, List.replicate, List.cons_append, List.nil_append, List.append_nil, List.getElem?_cons_zero, List.getElem?_cons_succ, List.set_cons_zero, List.set_cons_succ, List.length_map, List.length_cons, List.length_nil, wipeE, if_true, arr, Option.bind_some, List.reverse_nil, tupL, par2, par3, Nat.zero_add, Nat.reduceAdd, cap0, cap1, cap2, cap3]) rfl (by simp only [evSs, evS, evE, evEs, ok_bind, ok_thn, nx_seq, rt_seq, ok_calm, lift_some, rd_int, rd_bl, rd_tup, rd_lst, rd_rep, rd_scr, seqO_lst, seqO_tup, setTg1, bAdd, bSub, cLt, cLe, cGt, cGe, cEq, cNe, cmpS, lenT, lenL, bInt, getT, getLs, idT, idL, omap, List.map_cons, List.map_nil, List.replicate, List.cons_append, List.nil_append, List.append_nil, List.getElem?_cons_zero, List.getElem?_cons_succ, List.set_cons_zero, List.set_cons_succ, List.length_map, List.length_cons, List.length_nil, wipeE, if_true, arr, Option.bind_some, List.reverse_nil, tupL, par2, par3, Nat.zero_add, Nat.reduceAdd, cap0, cap1, cap2, cap3, g12]) (app1 (by simp))).trans ?_
  simp only [List.cons_append, List.nil_append]
  refine w_if_rt (s1 := [.lst [.tup [.str "paper", .str w, x], .tup [.str "unheld", y], .bl false]]) (by simp only [evSs, evS, evE, evEs, ok_bind, ok_thn, nx_seq, rt_seq, ok_calm, lift_some, rd_int, rd_bl, rd_tup, rd_lst, rd_rep, rd_scr, seqO_lst, seqO_tup, setTg1, bAdd, bSub, cLt, cLe, cGt, cGe, cEq, cNe, cmpS, lenT, lenL, bInt, getT, getLs, idT, idL, omap, List.map_cons, List.map_nil, List.replicate, List.cons_append, List.nil_append, List.append_nil, List.getElem?_cons_zero, List.getElem?_cons_succ, List.set_cons_zero, List.set_cons_succ, List.length_map, List.length_cons, List.length_nil, wipeE, if_true, arr, Option.bind_some, List.reverse_nil, tupL, par2, par3, Nat.zero_add, Nat.reduceAdd, cap0, cap1, cap2, cap3, rdN]; rfl) (w_ret ?_)
  have c3 : Nat.ble 3 cap = true := Nat.ble_eq.mpr (by unfold cap; omega)
  simp only [evSs, evS, evE, evEs, ok_bind, ok_thn, nx_seq, rt_seq, ok_calm, lift_some, rd_int, rd_bl, rd_tup, rd_lst, rd_rep, rd_scr, seqO_lst, seqO_tup, setTg1, bAdd, bSub, cLt, cLe, cGt, cGe, cEq, cNe, cmpS, lenT, lenL, bInt, getT, getLs, idT, idL, omap, List.map_cons, List.map_nil, List.replicate, List.cons_append, List.nil_append, List.append_nil, List.getElem?_cons_zero, List.getElem?_cons_succ, List.set_cons_zero, List.set_cons_succ, List.length_map, List.length_cons, List.length_nil, wipeE, if_true, arr, Option.bind_some, List.reverse_nil, tupL, par2, par3, Nat.zero_add, Nat.reduceAdd, cap0, cap1, cap2, cap3, rdL0, ix0, ix1, add12, hr, rdR, eq_rep]
end
end K14

set_option Elab.async false
set_option linter.all false
set_option maxRecDepth 100000
set_option maxHeartbeats 4000000
/-! T5: K14, a table that holds is judged as due. -/
namespace K14
open T5 PySem TabM
section
variable {k : Nat} {t : List Int} {m : Tab} {th : Thk} {s : Sto} {d : D}
theorem smTt : ∀ m : Tab, (∀ r ∈ m, ∀ i ∈ r, i.natAbs < 400) → smL (m.map I) = true
  | [], _ => rfl
  | r :: m, h => by
    show (smL (r.map .int) && smL (m.map I)) = true
    rw [smL_ints r (h r (List.mem_cons_self ..)), smTt m fun r' hr => h r' (List.mem_cons_of_mem _ hr)]
    rfl
theorem dpTt : ∀ m : Tab, dpL (m.map I) ≤ 1
  | [] => Nat.zero_le _
  | r :: m => by
    show max (dpL (r.map .int) + 1) (dpL (m.map I)) ≤ 1
    rw [dpL_ints]
    have := dpTt m
    omega
theorem bkTt {n : Nat} : ∀ m : Tab, (∀ r ∈ m, r.length ≤ n) → bkL (m.map I) ≤ m.length * (n + 1)
  | [], _ => Nat.zero_le _
  | r :: m, h => by
    show bkL (r.map .int) + 1 + bkL (m.map I) ≤ (m.length + 1) * (n + 1)
    rw [bkL_ints, Nat.add_mul, Nat.one_mul]
    have := bkTt m fun r' hr => h r' (List.mem_cons_of_mem _ hr)
    have := h r (List.mem_cons_self ..)
    omega
theorem rep_tab (S : Sq m) (H : Holds m) (hl : m.length ≤ 12) : biD .repr [Tt m] = some (.rep (Tt m)) := by
  have hrow : ∀ r ∈ m, ∃ i, i < m.length ∧ r = m.getD i [] := fun r hr => by
    obtain ⟨i, hi, e⟩ := List.getElem_of_mem hr
    refine ⟨i, hi, ?_⟩
    rw [List.getD_eq_getElem?_getD, List.getElem?_eq_getElem hi, ← e]
    rfl
  refine rep_any (smTt m fun r hr z hz => ?_) ?_ ?_
  · obtain ⟨i, hi, rfl⟩ := hrow r hr
    obtain ⟨j, hj, e⟩ := List.getElem_of_mem hz
    have hL := S.row i hi
    have hb := H.bnd hi j (by omega)
    have ez : z = at' m i j := by
      unfold at'
      rw [List.getD_eq_getElem?_getD (l := m.getD i []), List.getElem?_eq_getElem hj, ← e]
      rfl
    omega
  · show dpL (m.map I) + 1 ≤ 64
    have := dpTt m
    omega
  · show bkL (m.map I) ≤ 5000
    have := bkTt (n := 13) m fun r hr => by
      obtain ⟨i, hi, rfl⟩ := hrow r hr
      have := S.row i hi
      omega
    omega
theorem neR {d : D} : cmpD .ne (.rep d) (.rep d) = some false := by
  have := eq_rep (d := d)
  show (cmpD .eq (.rep d) (.rep d)).map (! ·) = some false
  rw [this]
  rfl
theorem e24n (S : Sq m) (hl : m.length ≤ 12) (hf : flt m = none) : T5.run F (k + 5) 24 [Tt m] th s = .ok (.bl true) s := by
  have hn := S.pos
  have H := holds_of hf
  have hb := H.bnd hn m.length (Nat.le_refl _)
  have hT := rep_tab S H hl
  have g23 : T5.run F (k + 4) 23 [Tt m] noT [] = .ok (oD ((flt m).map (ad m.length))) [] := e23 S (by omega)
  rw [hf] at g23
  have g9 : ∀ s, T5.run F (k + 4) 9 [Tt m] noT s = .ok (.int (at' m 0 m.length)) s := fun s => e9 S (by omega) hf
  have g13 : ∀ s, T5.run F (k + 4) 13 [Tt m] noT s = .ok (I (thr m)) s := fun s => e13 S (by omega) hf
  have g12 : ∀ s, T5.run F (k + 4) 12 [Tt m] noT s = .ok (.bl true) s := fun s => by
    have := e12 (k := k) (th := noT) (s := s) S (by omega)
    rwa [hf] at this
  have g21 : ∀ s, T5.run F (k + 4) 21 [I (thr m)] noT s = .ok (Tt m) s := fun s => by
    have := e21 (k := k + 1) (t := thr m) (th := noT) (s := s) (by rw [thr_len]; exact hn) (by rw [thr_len]; omega)
    rwa [H.tbl S] at this
  have g11 : ∀ s, T5.run F (k + 4) 11 [I (thr m)] noT s = .ok (Tt m) s := fun s => by
    have := e11 (k := k + 1) (t := thr m) (th := noT) (s := s) (by rw [thr_len]; exact hn) (by rw [thr_len]; omega)
    rwa [H.tbl S] at this
  have p22 : ∀ (th : Thk) (s : Sto) (d : D), th s = .ok d s → pfS 0 s = true → Cl s → clean s.length d = true → pf 0 d = true → T5.run F (k + 4) 22 [] th s = .ok (.tup [.str "got", d]) s := fun th s d a b c e f => e22 a b c e f
  have sg : smD (.str "got") = true := by decide +kernel
  have bg : bkD (.str "got") = 3 := by decide +kernel
  obtain ⟨z, hz⟩ : ∃ z, at' m 0 m.length = z := ⟨_, rfl⟩
  rw [hz] at hb g9
  have hr : biD .repr [.lst [.tup [.str "got", .int z], .bl true]] = some (.rep (.lst [.tup [.str "got", .int z], .bl true])) := by
    refine rep_any ?_ (Nat.le_of_ble_eq_true rfl) ?_
    · show ((smD (.str "got") && (decide (z.natAbs < 400) && true)) && (true && true)) = true
      rw [sg, decide_eq_true (by omega)]
      rfl
    · show (bkD (.str "got") + 1 + (0 + 1 + 0)) + 1 + (0 + 1 + 0) ≤ 5000
      rw [bg]
      decide
  refine sld (env0 := [some (Tt m), none, none, none]) F24 rfl rfl rfl (cc1 (clTt 0 m)) rfl (e := [.lst [.tup [.str "got", .int z], .tup [.str "got", I (thr m)], .bl true]]) ?_ rfl
  generalize T5.run F (k + 4) = cl at g23 g9 g13 g12 g21 g11 p22 ⊢
  refine (w_asg (d := .non) (s1 := []) (by simp only [evSs, evS, evE, evEs, ok_bind, ok_thn, nx_seq, rt_seq, ok_calm, lift_some, rd_int, rd_bl, rd_tup, rd_lst, rd_rep, rd_scr, seqO_lst, seqO_tup, setTg1, bAdd, bSub, cLt, cLe, cGt, cGe, cEq, cNe, cmpS, lenT, lenL, bInt, getT, getLs, idT, idL, omap, List.map_cons, List.map_nil, List.replicate, List.cons_append, List.nil_append, List.append_nil, List.getElem?_cons_zero, List.getElem?_cons_succ, List.set_cons_zero, List.set_cons_succ, List.length_map, List.length_cons, List.length_nil, wipeE, if_true, arr, Option.bind_some, List.reverse_nil, tupL, par2, par3, Nat.zero_add, Nat.reduceAdd, cap0, cap1, cap2, cap3, g23]; rfl)).trans ?_
  simp only [List.set_cons_zero, List.set_cons_succ]
  refine (w_asg (d := .loc 0) (s1 := [.lst [.tup [.str "got", .int z]]]) ?_).trans ?_
  · have q : evE cl (.lam 22 (.call 9 [.inl 0] (.cons (.var 0) .nil) .nil)) [some (Tt m), some .non, none, none] [] = .ok (.tup [.str "got", .int z]) [] := by
      rw [evE]
      exact p22 _ _ _ (by simp only [evSs, evS, evE, evEs, ok_bind, ok_thn, nx_seq, rt_seq, ok_calm, lift_some, rd_int, rd_bl, rd_tup, rd_lst, rd_rep, rd_scr, seqO_lst, seqO_tup, setTg1, bAdd, bSub, cLt, cLe, cGt, cGe, cEq, cNe, cmpS, lenT, lenL, bInt, getT, getLs, idT, idL, omap, List.map_cons, List.map_nil, List.replicate, List.cons_append, List.nil_append, List.append_nil, List.getElem?_cons_zero, List.getElem?_cons_succ, List.set_cons_zero, List.set_cons_succ, List.length_map, List.length_cons, List.length_nil, wipeE, if_true, arr, Option.bind_some, List.reverse_nil, tupL, par2, par3, Nat.zero_add, Nat.reduceAdd, cap0, cap1, cap2, cap3, g9]) rfl rfl rfl rfl
    rw [evE, evE, evEs, q, ok_bind, evEs]
    rfl
  simp only [List.set_cons_zero, List.set_cons_succ]
  refine (w_app (x := .loc 0) (s1 := [.lst [.tup [.str "got", .int z]]]) (v := .tup [.str "got", I (thr m)]) (s2 := [.lst [.tup [.str "got", .int z]]]) (by simp only [evSs, evS, evE, evEs, ok_bind, ok_thn, nx_seq, rt_seq, ok_calm, lift_some, rd_int, rd_bl, rd_tup, rd_lst, rd_rep, rd_scr, seqO_lst, seqO_tup, setTg1, bAdd, bSub, cLt, cLe, cGt, cGe, cEq, cNe, cmpS, lenT, lenL, bInt, getT, getLs, idT, idL, omap, List.map_cons, List.map_nil, List.replicate, List.cons_append, List.nil_append, List.append_nil, List.getElem?_cons_zero, List.getElem?_cons_succ, List.set_cons_zero, List.set_cons_succ, List.length_map, List.length_cons, List.length_nil, wipeE, if_true, arr, Option.bind_some, List.reverse_nil, tupL, par2, par3, Nat.zero_add, Nat.reduceAdd, cap0, cap1, cap2, cap3]) rfl ?_ (app1 (by simp))).trans ?_
  · rw [evE]
    exact p22 _ _ _ (by simp only [evSs, evS, evE, evEs, ok_bind, ok_thn, nx_seq, rt_seq, ok_calm, lift_some, rd_int, rd_bl, rd_tup, rd_lst, rd_rep, rd_scr, seqO_lst, seqO_tup, setTg1, bAdd, bSub, cLt, cLe, cGt, cGe, cEq, cNe, cmpS, lenT, lenL, bInt, getT, getLs, idT, idL, omap, List.map_cons, List.map_nil, List.replicate, List.cons_append, List.nil_append, List.append_nil, List.getElem?_cons_zero, List.getElem?_cons_succ, List.set_cons_zero, List.set_cons_succ, List.length_map, List.length_cons, List.length_nil, wipeE, if_true, arr, Option.bind_some, List.reverse_nil, tupL, par2, par3, Nat.zero_add, Nat.reduceAdd, cap0, cap1, cap2, cap3, g13]) rfl rfl (ccI _ _) (pfI 0 _)
  simp only [List.cons_append, List.nil_append]
  refine (w_app (x := .loc 0) (s1 := [.lst [.tup [.str "got", .int z], .tup [.str "got", I (thr m)]]]) (v := .bl true) (s2 := [.lst [.tup [.str "got", .int z], .tup [.str "got", I (thr m)]]]) (by simp only [evSs, evS, evE, evEs, ok_bind, ok_thn, nx_seq, rt_seq, ok_calm, lift_some, rd_int, rd_bl, rd_tup, rd_lst, rd_rep, rd_scr, seqO_lst, seqO_tup, setTg1, bAdd, bSub, cLt, cLe, cGt, cGe, cEq, cNe, cmpS, lenT, lenL, bInt, getT, getLs, idT, idL, omap, List.map_cons, List.map_nil, List.replicate, List.cons_append, List.nil_append, List.append_nil, List.getElem?_cons_zero, List.getElem?_cons_succ, List.set_cons_zero, List.set_cons_succ, List.length_map, List.length_cons, List.length_nil, wipeE, if_true, arr, Option.bind_some, List.reverse_nil, tupL, par2, par3, Nat.zero_add, Nat.reduceAdd, cap0, cap1, cap2, cap3]) rfl (by simp only [evSs, evS, evE, evEs, ok_bind, ok_thn, nx_seq, rt_seq, ok_calm, lift_some, rd_int, rd_bl, rd_tup, rd_lst, rd_rep, rd_scr, seqO_lst, seqO_tup, setTg1, bAdd, bSub, cLt, cLe, cGt, cGe, cEq, cNe, cmpS, lenT, lenL, bInt, getT, getLs, idT, idL, omap, List.map_cons, List.map_nil, List.replicate, List.cons_append, List.nil_append, List.append_nil, List.getElem?_cons_zero, List.getElem?_cons_succ, List.set_cons_zero, List.set_cons_succ, List.length_map, List.length_cons, List.length_nil, wipeE, if_true, arr, Option.bind_some, List.reverse_nil, tupL, par2, par3, Nat.zero_add, Nat.reduceAdd, cap0, cap1, cap2, cap3, g12]) (app1 (by simp))).trans ?_
  simp only [List.cons_append, List.nil_append]
  obtain ⟨A, hA⟩ : ∃ A, [SO.lst [.tup [.str "got", .int z], .tup [.str "got", I (thr m)], .bl true]] = A := ⟨_, rfl⟩
  have i0 : T5.getD A (.loc 0) (.int 0) = some (.tup [.str "got", .int z]) := by rw [← hA]; rfl
  have i1 : T5.getD A (.loc 0) (.int 1) = some (.tup [.str "got", I (thr m)]) := by rw [← hA]; rfl
  have i2 : T5.getD A (.loc 0) (.int 2) = some (.bl true) := by rw [← hA]; rfl
  have en : (-(1 : Int)) = -1 := rfl
  have c2 : Nat.ble 2 cap = true := Nat.ble_eq.mpr (by unfold cap; omega)
  have sne : cmpD .ne (.str "got") (.str "got") = some false := by decide +kernel
  have eL := entL S hn
  rw [hz] at eL
  rw [hA]
  refine (w_skip (s1 := A) (by simp only [evSs, evS, evE, evEs, ok_bind, ok_thn, nx_seq, rt_seq, ok_calm, lift_some, rd_int, rd_bl, rd_tup, rd_lst, rd_rep, rd_scr, seqO_lst, seqO_tup, setTg1, bAdd, bSub, cLt, cLe, cGt, cGe, cEq, cNe, cmpS, lenT, lenL, bInt, getT, getLs, idT, idL, omap, List.map_cons, List.map_nil, List.replicate, List.cons_append, List.nil_append, List.append_nil, List.getElem?_cons_zero, List.getElem?_cons_succ, List.set_cons_zero, List.set_cons_succ, List.length_map, List.length_cons, List.length_nil, wipeE, if_true, arr, Option.bind_some, List.reverse_nil, tupL, par2, par3, Nat.zero_add, Nat.reduceAdd, cap0, cap1, cap2, cap3, rdN, isnN])).trans ?_
  refine (w_skip (s1 := A) (by simp only [evSs, evS, evE, evEs, ok_bind, ok_thn, nx_seq, rt_seq, ok_calm, lift_some, rd_int, rd_bl, rd_tup, rd_lst, rd_rep, rd_scr, seqO_lst, seqO_tup, setTg1, bAdd, bSub, cLt, cLe, cGt, cGe, cEq, cNe, cmpS, lenT, lenL, bInt, getT, getLs, idT, idL, omap, List.map_cons, List.map_nil, List.replicate, List.cons_append, List.nil_append, List.append_nil, List.getElem?_cons_zero, List.getElem?_cons_succ, List.set_cons_zero, List.set_cons_succ, List.length_map, List.length_cons, List.length_nil, wipeE, if_true, arr, Option.bind_some, List.reverse_nil, tupL, par2, par3, Nat.zero_add, Nat.reduceAdd, cap0, cap1, cap2, cap3, i0, i1, i2, c2, hr, rdR, neR, en, row0 S, eL, ix0, rdS, sne])).trans ?_
  refine (w_asg (d := I (thr m)) (s1 := A) (by simp only [evSs, evS, evE, evEs, ok_bind, ok_thn, nx_seq, rt_seq, ok_calm, lift_some, rd_int, rd_bl, rd_tup, rd_lst, rd_rep, rd_scr, seqO_lst, seqO_tup, setTg1, bAdd, bSub, cLt, cLe, cGt, cGe, cEq, cNe, cmpS, lenT, lenL, bInt, getT, getLs, idT, idL, omap, List.map_cons, List.map_nil, List.replicate, List.cons_append, List.nil_append, List.append_nil, List.getElem?_cons_zero, List.getElem?_cons_succ, List.set_cons_zero, List.set_cons_succ, List.length_map, List.length_cons, List.length_nil, wipeE, if_true, arr, Option.bind_some, List.reverse_nil, tupL, par2, par3, Nat.zero_add, Nat.reduceAdd, cap0, cap1, cap2, cap3, i1, ix1])).trans ?_
  exact w_ret (by simp only [evSs, evS, evE, evEs, ok_bind, ok_thn, nx_seq, rt_seq, ok_calm, lift_some, rd_int, rd_bl, rd_tup, rd_lst, rd_rep, rd_scr, seqO_lst, seqO_tup, setTg1, bAdd, bSub, cLt, cLe, cGt, cGe, cEq, cNe, cmpS, lenT, lenL, bInt, getT, getLs, idT, idL, omap, List.map_cons, List.map_nil, List.replicate, List.cons_append, List.nil_append, List.append_nil, List.getElem?_cons_zero, List.getElem?_cons_succ, List.set_cons_zero, List.set_cons_succ, List.length_map, List.length_cons, List.length_nil, wipeE, if_true, arr, Option.bind_some, List.reverse_nil, tupL, par2, par3, Nat.zero_add, Nat.reduceAdd, cap0, cap1, cap2, cap3, g21, g11, hT, rdR, eq_rep])
theorem e24 (S : Sq m) (hl : m.length ≤ 12) : T5.run F (k + 5) 24 [Tt m] th s = .ok (.bl true) s := by
  cases h : flt m with
  | none => exact e24n S hl h
  | some f =>
    obtain ⟨w, x, rfl, _⟩ := (isF h).two
    exact e24f S (by omega) h
end
end K14

set_option Elab.async false
set_option linter.all false
set_option maxRecDepth 100000
set_option maxHeartbeats 2000000
/-! T5: a law's feed: a dict of four names, whatever they are. -/
namespace T5
open PySem
def kq (a b : Str) : Bool := decide ((Sum.inr a : L2.Key) = Sum.inr b)
/-- four names, no two alike -/
def four4 (n1 n2 n3 n4 : Str) : Bool := !kq n1 n2 && !kq n1 n3 && !kq n1 n4 && !kq n2 n3 && !kq n2 n4 && !kq n3 n4
def fdg (n1 n2 n3 n4 : Str) (x : D) (a l c : Int) : SO := .dic [(.inr n1, x), (.inr n2, .int a), (.inr n3, .int l), (.inr n4, .int c)]
section
variable {n1 n2 n3 n4 : Str} {x : D} {a l c v : Int} {r : Sto}
theorem four_of (h : four4 n1 n2 n3 n4 = true) : decide ((Sum.inr n1 : L2.Key) = Sum.inr n2) = false ∧ decide ((Sum.inr n1 : L2.Key) = Sum.inr n3) = false ∧ decide ((Sum.inr n1 : L2.Key) = Sum.inr n4) = false ∧ decide ((Sum.inr n2 : L2.Key) = Sum.inr n3) = false ∧ decide ((Sum.inr n2 : L2.Key) = Sum.inr n4) = false ∧ decide ((Sum.inr n3 : L2.Key) = Sum.inr n4) = false := by
  unfold four4 kq at h
  simp only [Bool.and_eq_true, Bool.not_eq_true'] at h
  obtain ⟨⟨⟨⟨⟨a, b⟩, c⟩, d⟩, e⟩, f⟩ := h
  exact ⟨a, b, c, d, e, f⟩
theorem fg1 : T5.getD (fdg n1 n2 n3 n4 x a l c :: r) (.loc 0) (.str n1) = some x := by
  show look (Sum.inr n1) [(.inr n1, x), (.inr n2, .int a), (.inr n3, .int l), (.inr n4, .int c)] = _
  simp only [look, k7, decide_true, if_true]
theorem fg2 (h : four4 n1 n2 n3 n4 = true) : T5.getD (fdg n1 n2 n3 n4 x a l c :: r) (.loc 0) (.str n2) = some (.int a) := by
  obtain ⟨q1, q2, q3, q4, q5, q6⟩ := four_of h
  show look (Sum.inr n2) [(.inr n1, x), (.inr n2, .int a), (.inr n3, .int l), (.inr n4, .int c)] = _
  simp only [look, q1, k7, decide_true, if_true, Bool.false_eq_true, if_false]
theorem fg3 (h : four4 n1 n2 n3 n4 = true) : T5.getD (fdg n1 n2 n3 n4 x a l c :: r) (.loc 0) (.str n3) = some (.int l) := by
  obtain ⟨q1, q2, q3, q4, q5, q6⟩ := four_of h
  show look (Sum.inr n3) [(.inr n1, x), (.inr n2, .int a), (.inr n3, .int l), (.inr n4, .int c)] = _
  simp only [look, q2, q4, k7, decide_true, if_true, Bool.false_eq_true, if_false]
theorem fg4 (h : four4 n1 n2 n3 n4 = true) : T5.getD (fdg n1 n2 n3 n4 x a l c :: r) (.loc 0) (.str n4) = some (.int c) := by
  obtain ⟨q1, q2, q3, q4, q5, q6⟩ := four_of h
  show look (Sum.inr n4) [(.inr n1, x), (.inr n2, .int a), (.inr n3, .int l), (.inr n4, .int c)] = _
  simp only [look, q3, q5, q6, k7, decide_true, if_true, Bool.false_eq_true, if_false]
theorem fs2 (h : four4 n1 n2 n3 n4 = true) : T5.setD (fdg n1 n2 n3 n4 x a l c :: r) (.loc 0) (.str n2) (.int v) = some (fdg n1 n2 n3 n4 x v l c :: r) := by
  obtain ⟨q1, q2, q3, q4, q5, q6⟩ := four_of h
  show (if Nat.blt 4 cap = true then some ((fdg n1 n2 n3 n4 x a l c :: r).set 0 (.dic (put (Sum.inr n2) (.int v) [(.inr n1, x), (.inr n2, .int a), (.inr n3, .int l), (.inr n4, .int c)]))) else none) = _
  rw [if_pos four]
  simp only [put, q1, k7, decide_true, if_true, Bool.false_eq_true, if_false]
  rfl
theorem fs3 (h : four4 n1 n2 n3 n4 = true) : T5.setD (fdg n1 n2 n3 n4 x a l c :: r) (.loc 0) (.str n3) (.int v) = some (fdg n1 n2 n3 n4 x a v c :: r) := by
  obtain ⟨q1, q2, q3, q4, q5, q6⟩ := four_of h
  show (if Nat.blt 4 cap = true then some ((fdg n1 n2 n3 n4 x a l c :: r).set 0 (.dic (put (Sum.inr n3) (.int v) [(.inr n1, x), (.inr n2, .int a), (.inr n3, .int l), (.inr n4, .int c)]))) else none) = _
  rw [if_pos four]
  simp only [put, q2, q4, k7, decide_true, if_true, Bool.false_eq_true, if_false]
  rfl
theorem fs4 (h : four4 n1 n2 n3 n4 = true) : T5.setD (fdg n1 n2 n3 n4 x a l c :: r) (.loc 0) (.str n4) (.int v) = some (fdg n1 n2 n3 n4 x a l v :: r) := by
  obtain ⟨q1, q2, q3, q4, q5, q6⟩ := four_of h
  show (if Nat.blt 4 cap = true then some ((fdg n1 n2 n3 n4 x a l c :: r).set 0 (.dic (put (Sum.inr n4) (.int v) [(.inr n1, x), (.inr n2, .int a), (.inr n3, .int l), (.inr n4, .int c)]))) else none) = _
  rw [if_pos four]
  simp only [put, q3, q5, q6, k7, decide_true, if_true, Bool.false_eq_true, if_false]
  rfl
theorem cl_fdg (hx : ∀ n, clean n x = true) (h : cleanS (r.length + 1) r = true) : Cl (fdg n1 n2 n3 n4 x a l c :: r) := by
  unfold Cl
  show ((clean (r.length + 1) x && true) && cleanS (r.length + 1) r) = true
  rw [hx, h]
  rfl
theorem fdg_new (h : four4 n1 n2 n3 n4 = true) : List.foldl (fun m (p : L2.Key × D) => put p.1 p.2 m) [] (([Sum.inr n1, Sum.inr n2, Sum.inr n3, Sum.inr n4] : List L2.Key).zip [x, .int a, .int l, .int c]) = [(.inr n1, x), (.inr n2, .int a), (.inr n3, .int l), (.inr n4, .int c)] := by
  obtain ⟨q1, q2, q3, q4, q5, q6⟩ := four_of h
  simp only [List.zip_cons_cons, List.zip_nil_right, List.foldl_cons, List.foldl_nil, put, q1, q2, q3, q4, q5, q6, Bool.false_eq_true, if_false]
end
/-- the def i draws: any number below m, the feed goes on (P: how often it was asked, the feed) -/
def Draws (cl : Calls) (i : Nat) (P : Int → SO → Prop) : Prop := ∀ (B m : Int) (o : SO) (r : Sto), P B o → 0 ≤ B → B ≤ 1000000 → 0 < m → m < 1073741824 → cleanS (r.length + 1) r = true →
  ∃ v o', 0 ≤ v ∧ v < m ∧ cl i [.loc 0, .int m] noT (o :: r) = .ok (.int v) (o' :: r) ∧ P (B + 1) o'
/-- a feed holds no places -/
def FClean (P : Int → SO → Prop) : Prop := ∀ B o n, P B o → cleanO n o = true
theorem cl_one {P : Int → SO → Prop} (h : FClean P) {B : Int} {o : SO} (ho : P B o) : Cl [o] := by
  unfold Cl
  show (cleanO 1 o && true) = true
  rw [h B o 1 ho]
  rfl
end T5

set_option Elab.async false
set_option linter.all false
set_option maxRecDepth 100000
set_option maxHeartbeats 4000000
/-! T5: K14, the draws. -/
namespace K14
open T5 PySem TabM
abbrev fd (u : List Int) (a l c : Int) : SO := fdg "cells" "at" "left" "count" (.lst (u.map .int)) a l c
theorem d4 : four4 "cells" "at" "left" "count" = true := by decide +kernel
def P (u : List Int) (B : Int) (o : SO) : Prop := ∃ a l c, o = fd u a l c ∧ 0 ≤ a ∧ 0 ≤ c ∧ c ≤ B
theorem clP (u : List Int) : FClean (P u) := fun B o n ⟨a, l, c, h, _⟩ => by
  subst h
  show (cleanL n (u.map .int) && true) = true
  rw [clean_ints]
  rfl
theorem P.mono {u : List Int} {B C : Int} {o : SO} (h : P u B o) (hc : B ≤ C) : P u C o := by
  obtain ⟨a, l, c, q1, q2, q3, q4⟩ := h
  exact ⟨a, l, c, q1, q2, q3, by omega⟩
section
variable {k : Nat} {u : List Int}
theorem dr : Draws (T5.run F (k + 1)) 15 (P u) := fun B m o r ⟨a, l, c, h, ha, hc, hcB⟩ hB0 hB hm hm2 hr => by
  subst h
  have m1 : ∀ i, binD .mod (.int i) (.int m) = some (.int (i % m)) := fun i => bMod hm
  have m2 : ∀ i, binD .mod (.int i) (.int 1000001423) = some (.int (i % 1000001423)) := fun i => bMod (by decide)
  have m3 : ∀ i, binD .mod (.int i) (.int 2147480897) = some (.int (i % 2147480897)) := fun i => bMod (by decide)
  have m4 : ∀ i, binD .mod (.int i) (.int 2147480893) = some (.int (i % 2147480893)) := fun i => bMod (by decide)
  have m5 : ∀ i, binD .mod (.int i) (.int 2147480863) = some (.int (i % 2147480863)) := fun i => bMod (by decide)
  have v1 : ∀ i, binD .fdiv (.int i) (.int m) = some (.int (i / m)) := fun i => bDiv hm hm2
  have v2 : ∀ i, binD .fdiv (.int i) (.int 32) = some (.int (i / 32)) := fun i => bDiv (by decide) (by decide)
  have p1 : ∀ i, binD .mul (.int 65003) (.int i) = some (.int (65003 * i)) := fun i => bMul (.inl (by decide))
  have p2 : ∀ i, binD .mul (.int 13500031) (.int i) = some (.int (13500031 * i)) := fun i => bMul (.inl (by decide))
  have p3 : ∀ i, binD .mul (.int 617) (.int i) = some (.int (617 * i)) := fun i => bMul (.inl (by decide))
  have p4 : ∀ i, binD .mul (.int (i % 2147480897)) (.int (i % 2147480897)) = some (.int (i % 2147480897 * (i % 2147480897))) := fun i => bMul (.inl ⟨by omega, by omega⟩)
  have p5 : ∀ i, binD .mul (.int (i % 2147480893)) (.int (i % 2147480893)) = some (.int (i % 2147480893 * (i % 2147480893))) := fun i => bMul (.inl ⟨by omega, by omega⟩)
  have rng : ∀ i, 0 ≤ i % m ∧ i % m < m := fun i => ⟨Int.emod_nonneg _ (by omega), Int.emod_lt_of_pos _ hm⟩
  have hcl : ∀ a l c, Cl (fd u a l c :: r) := fun a l c => cl_fdg (fun n => clean_ints n u) hr
  rw [run_at F15 rfl rfl rfl]
  generalize T5.run F k = cl
  have key : ∃ v o', 0 ≤ v ∧ v < m ∧ evSs cl f15.body [some (.loc 0), some (.int m), none, none, none, none] (fd u a l c :: r) = .rt (.int v) (o' :: r) ∧ P u (B + 1) o' := by
    rw [show evSs cl f15.body [some (.loc 0), some (.int m), none, none, none, none] (fd u a l c :: r) = _ from w_setI (v := .int (c + 1)) (x := .loc 0) (y := .str "count") (s1 := fd u a l c :: r) (s2 := fd u a l c :: r) (s3 := fd u a l c :: r) (by simp only [evSs, evS, evE, evEs, ok_bind, ok_thn, nx_seq, rt_seq, ok_calm, lift_some, rd_int, rd_bl, rd_tup, rd_lst, rd_rep, rd_scr, seqO_lst, seqO_tup, setTg1, bAdd, bSub, cLt, cLe, cGt, cGe, cEq, cNe, cmpS, lenT, lenL, bInt, getT, getLs, idT, idL, omap, List.map_cons, List.map_nil, List.replicate, List.cons_append, List.nil_append, List.append_nil, List.getElem?_cons_zero, List.getElem?_cons_succ, List.set_cons_zero, List.set_cons_succ, List.length_map, List.length_cons, List.length_nil, wipeE, if_true, arr, Option.bind_some, List.reverse_nil, tupL, par2, par3, Nat.zero_add, Nat.reduceAdd, cap0, cap1, cap2, cap3, fg4 d4]) (by simp only [evSs, evS, evE, evEs, ok_bind, ok_thn, nx_seq, rt_seq, ok_calm, lift_some, rd_int, rd_bl, rd_tup, rd_lst, rd_rep, rd_scr, seqO_lst, seqO_tup, setTg1, bAdd, bSub, cLt, cLe, cGt, cGe, cEq, cNe, cmpS, lenT, lenL, bInt, getT, getLs, idT, idL, omap, List.map_cons, List.map_nil, List.replicate, List.cons_append, List.nil_append, List.append_nil, List.getElem?_cons_zero, List.getElem?_cons_succ, List.set_cons_zero, List.set_cons_succ, List.length_map, List.length_cons, List.length_nil, wipeE, if_true, arr, Option.bind_some, List.reverse_nil, tupL, par2, par3, Nat.zero_add, Nat.reduceAdd, cap0, cap1, cap2, cap3]) (by simp only [evSs, evS, evE, evEs, ok_bind, ok_thn, nx_seq, rt_seq, ok_calm, lift_some, rd_int, rd_bl, rd_tup, rd_lst, rd_rep, rd_scr, seqO_lst, seqO_tup, setTg1, bAdd, bSub, cLt, cLe, cGt, cGe, cEq, cNe, cmpS, lenT, lenL, bInt, getT, getLs, idT, idL, omap, List.map_cons, List.map_nil, List.replicate, List.cons_append, List.nil_append, List.append_nil, List.getElem?_cons_zero, List.getElem?_cons_succ, List.set_cons_zero, List.set_cons_succ, List.length_map, List.length_cons, List.length_nil, wipeE, if_true, arr, Option.bind_some, List.reverse_nil, tupL, par2, par3, Nat.zero_add, Nat.reduceAdd, cap0, cap1, cap2, cap3]) (fs4 d4)]
    by_cases hl : 0 < l
    · refine ⟨l % m, fd u a (l / m) (c + 1), (rng _).1, (rng _).2, ?_, ⟨a, _, c + 1, rfl, ha, by omega, by omega⟩⟩
      refine w_if_rt (s1 := fd u a l (c + 1) :: r) (by simp only [evSs, evS, evE, evEs, ok_bind, ok_thn, nx_seq, rt_seq, ok_calm, lift_some, rd_int, rd_bl, rd_tup, rd_lst, rd_rep, rd_scr, seqO_lst, seqO_tup, setTg1, bAdd, bSub, cLt, cLe, cGt, cGe, cEq, cNe, cmpS, lenT, lenL, bInt, getT, getLs, idT, idL, omap, List.map_cons, List.map_nil, List.replicate, List.cons_append, List.nil_append, List.append_nil, List.getElem?_cons_zero, List.getElem?_cons_succ, List.set_cons_zero, List.set_cons_succ, List.length_map, List.length_cons, List.length_nil, wipeE, if_true, arr, Option.bind_some, List.reverse_nil, tupL, par2, par3, Nat.zero_add, Nat.reduceAdd, cap0, cap1, cap2, cap3, fg3 d4, decide_eq_true hl]) ?_
      refine (w_asg (d := .int (l % m)) (s1 := fd u a l (c + 1) :: r) (by simp only [evSs, evS, evE, evEs, ok_bind, ok_thn, nx_seq, rt_seq, ok_calm, lift_some, rd_int, rd_bl, rd_tup, rd_lst, rd_rep, rd_scr, seqO_lst, seqO_tup, setTg1, bAdd, bSub, cLt, cLe, cGt, cGe, cEq, cNe, cmpS, lenT, lenL, bInt, getT, getLs, idT, idL, omap, List.map_cons, List.map_nil, List.replicate, List.cons_append, List.nil_append, List.append_nil, List.getElem?_cons_zero, List.getElem?_cons_succ, List.set_cons_zero, List.set_cons_succ, List.length_map, List.length_cons, List.length_nil, wipeE, if_true, arr, Option.bind_some, List.reverse_nil, tupL, par2, par3, Nat.zero_add, Nat.reduceAdd, cap0, cap1, cap2, cap3, fg3 d4, m1])).trans ?_
      refine (w_setI (v := .int (l / m)) (x := .loc 0) (y := .str "left") (s1 := fd u a l (c + 1) :: r) (s2 := fd u a l (c + 1) :: r) (s3 := fd u a l (c + 1) :: r) (by simp only [evSs, evS, evE, evEs, ok_bind, ok_thn, nx_seq, rt_seq, ok_calm, lift_some, rd_int, rd_bl, rd_tup, rd_lst, rd_rep, rd_scr, seqO_lst, seqO_tup, setTg1, bAdd, bSub, cLt, cLe, cGt, cGe, cEq, cNe, cmpS, lenT, lenL, bInt, getT, getLs, idT, idL, omap, List.map_cons, List.map_nil, List.replicate, List.cons_append, List.nil_append, List.append_nil, List.getElem?_cons_zero, List.getElem?_cons_succ, List.set_cons_zero, List.set_cons_succ, List.length_map, List.length_cons, List.length_nil, wipeE, if_true, arr, Option.bind_some, List.reverse_nil, tupL, par2, par3, Nat.zero_add, Nat.reduceAdd, cap0, cap1, cap2, cap3, fg3 d4, v1]) (by simp only [evSs, evS, evE, evEs, ok_bind, ok_thn, nx_seq, rt_seq, ok_calm, lift_some, rd_int, rd_bl, rd_tup, rd_lst, rd_rep, rd_scr, seqO_lst, seqO_tup, setTg1, bAdd, bSub, cLt, cLe, cGt, cGe, cEq, cNe, cmpS, lenT, lenL, bInt, getT, getLs, idT, idL, omap, List.map_cons, List.map_nil, List.replicate, List.cons_append, List.nil_append, List.append_nil, List.getElem?_cons_zero, List.getElem?_cons_succ, List.set_cons_zero, List.set_cons_succ, List.length_map, List.length_cons, List.length_nil, wipeE, if_true, arr, Option.bind_some, List.reverse_nil, tupL, par2, par3, Nat.zero_add, Nat.reduceAdd, cap0, cap1, cap2, cap3]) (by simp only [evSs, evS, evE, evEs, ok_bind, ok_thn, nx_seq, rt_seq, ok_calm, lift_some, rd_int, rd_bl, rd_tup, rd_lst, rd_rep, rd_scr, seqO_lst, seqO_tup, setTg1, bAdd, bSub, cLt, cLe, cGt, cGe, cEq, cNe, cmpS, lenT, lenL, bInt, getT, getLs, idT, idL, omap, List.map_cons, List.map_nil, List.replicate, List.cons_append, List.nil_append, List.append_nil, List.getElem?_cons_zero, List.getElem?_cons_succ, List.set_cons_zero, List.set_cons_succ, List.length_map, List.length_cons, List.length_nil, wipeE, if_true, arr, Option.bind_some, List.reverse_nil, tupL, par2, par3, Nat.zero_add, Nat.reduceAdd, cap0, cap1, cap2, cap3]) (fs3 d4)).trans ?_
      exact w_ret (by simp only [evSs, evS, evE, evEs, ok_bind, ok_thn, nx_seq, rt_seq, ok_calm, lift_some, rd_int, rd_bl, rd_tup, rd_lst, rd_rep, rd_scr, seqO_lst, seqO_tup, setTg1, bAdd, bSub, cLt, cLe, cGt, cGe, cEq, cNe, cmpS, lenT, lenL, bInt, getT, getLs, idT, idL, omap, List.map_cons, List.map_nil, List.replicate, List.cons_append, List.nil_append, List.append_nil, List.getElem?_cons_zero, List.getElem?_cons_succ, List.set_cons_zero, List.set_cons_succ, List.length_map, List.length_cons, List.length_nil, wipeE, if_true, arr, Option.bind_some, List.reverse_nil, tupL, par2, par3, Nat.zero_add, Nat.reduceAdd, cap0, cap1, cap2, cap3])
    · rw [w_skip (s1 := fd u a l (c + 1) :: r) (by simp only [evSs, evS, evE, evEs, ok_bind, ok_thn, nx_seq, rt_seq, ok_calm, lift_some, rd_int, rd_bl, rd_tup, rd_lst, rd_rep, rd_scr, seqO_lst, seqO_tup, setTg1, bAdd, bSub, cLt, cLe, cGt, cGe, cEq, cNe, cmpS, lenT, lenL, bInt, getT, getLs, idT, idL, omap, List.map_cons, List.map_nil, List.replicate, List.cons_append, List.nil_append, List.append_nil, List.getElem?_cons_zero, List.getElem?_cons_succ, List.set_cons_zero, List.set_cons_succ, List.length_map, List.length_cons, List.length_nil, wipeE, if_true, arr, Option.bind_some, List.reverse_nil, tupL, par2, par3, Nat.zero_add, Nat.reduceAdd, cap0, cap1, cap2, cap3, fg3 d4, decide_eq_false hl])]
      rw [w_asg (d := .int a) (s1 := fd u a l (c + 1) :: r) (by simp only [evSs, evS, evE, evEs, ok_bind, ok_thn, nx_seq, rt_seq, ok_calm, lift_some, rd_int, rd_bl, rd_tup, rd_lst, rd_rep, rd_scr, seqO_lst, seqO_tup, setTg1, bAdd, bSub, cLt, cLe, cGt, cGe, cEq, cNe, cmpS, lenT, lenL, bInt, getT, getLs, idT, idL, omap, List.map_cons, List.map_nil, List.replicate, List.cons_append, List.nil_append, List.append_nil, List.getElem?_cons_zero, List.getElem?_cons_succ, List.set_cons_zero, List.set_cons_succ, List.length_map, List.length_cons, List.length_nil, wipeE, if_true, arr, Option.bind_some, List.reverse_nil, tupL, par2, par3, Nat.zero_add, Nat.reduceAdd, cap0, cap1, cap2, cap3, fg2 d4])]
      simp only [List.set_cons_zero, List.set_cons_succ]
      rw [w_setI (v := .int (a + 1)) (x := .loc 0) (y := .str "at") (s1 := fd u a l (c + 1) :: r) (s2 := fd u a l (c + 1) :: r) (s3 := fd u a l (c + 1) :: r) (by simp only [evSs, evS, evE, evEs, ok_bind, ok_thn, nx_seq, rt_seq, ok_calm, lift_some, rd_int, rd_bl, rd_tup, rd_lst, rd_rep, rd_scr, seqO_lst, seqO_tup, setTg1, bAdd, bSub, cLt, cLe, cGt, cGe, cEq, cNe, cmpS, lenT, lenL, bInt, getT, getLs, idT, idL, omap, List.map_cons, List.map_nil, List.replicate, List.cons_append, List.nil_append, List.append_nil, List.getElem?_cons_zero, List.getElem?_cons_succ, List.set_cons_zero, List.set_cons_succ, List.length_map, List.length_cons, List.length_nil, wipeE, if_true, arr, Option.bind_some, List.reverse_nil, tupL, par2, par3, Nat.zero_add, Nat.reduceAdd, cap0, cap1, cap2, cap3]) (by simp only [evSs, evS, evE, evEs, ok_bind, ok_thn, nx_seq, rt_seq, ok_calm, lift_some, rd_int, rd_bl, rd_tup, rd_lst, rd_rep, rd_scr, seqO_lst, seqO_tup, setTg1, bAdd, bSub, cLt, cLe, cGt, cGe, cEq, cNe, cmpS, lenT, lenL, bInt, getT, getLs, idT, idL, omap, List.map_cons, List.map_nil, List.replicate, List.cons_append, List.nil_append, List.append_nil, List.getElem?_cons_zero, List.getElem?_cons_succ, List.set_cons_zero, List.set_cons_succ, List.length_map, List.length_cons, List.length_nil, wipeE, if_true, arr, Option.bind_some, List.reverse_nil, tupL, par2, par3, Nat.zero_add, Nat.reduceAdd, cap0, cap1, cap2, cap3]) (by simp only [evSs, evS, evE, evEs, ok_bind, ok_thn, nx_seq, rt_seq, ok_calm, lift_some, rd_int, rd_bl, rd_tup, rd_lst, rd_rep, rd_scr, seqO_lst, seqO_tup, setTg1, bAdd, bSub, cLt, cLe, cGt, cGe, cEq, cNe, cmpS, lenT, lenL, bInt, getT, getLs, idT, idL, omap, List.map_cons, List.map_nil, List.replicate, List.cons_append, List.nil_append, List.append_nil, List.getElem?_cons_zero, List.getElem?_cons_succ, List.set_cons_zero, List.set_cons_succ, List.length_map, List.length_cons, List.length_nil, wipeE, if_true, arr, Option.bind_some, List.reverse_nil, tupL, par2, par3, Nat.zero_add, Nat.reduceAdd, cap0, cap1, cap2, cap3]) (fs2 d4)]
      obtain ⟨A, hA⟩ : ∃ A, fd u (a + 1) l (c + 1) :: r = A := ⟨_, rfl⟩
      have g1 : T5.getD A (.loc 0) (.str "cells") = some (.lst (u.map .int)) := by rw [← hA]; exact fg1
      have g4 : T5.getD A (.loc 0) (.str "count") = some (.int (c + 1)) := by rw [← hA]; exact fg4 d4
      rw [hA]
      have hg : ∃ x : Int, evE cl (.ite (.cmp .ne (.idx (.var 0) (.con (.str "cells"))) (.lst .nil)) (.idx (.idx (.var 0) (.con (.str "cells"))) (.bin .mod (.bi .int (.cons (.var 2) .nil)) (.bi .len (.cons (.idx (.var 0) (.con (.str "cells"))) .nil)))) (.con (.int (881)))) [some (.loc 0), some (.int m), some (.int a), none, none, none] A = .ok (.int x) A := by
        by_cases hu : u.isEmpty = true
        · refine ⟨881, ?_⟩
          simp only [evSs, evS, evE, evEs, ok_bind, ok_thn, nx_seq, rt_seq, ok_calm, lift_some, rd_int, rd_bl, rd_tup, rd_lst, rd_rep, rd_scr, seqO_lst, seqO_tup, setTg1, bAdd, bSub, cLt, cLe, cGt, cGe, cEq, cNe, cmpS, lenT, lenL, bInt, getT, getLs, idT, idL, omap, List.map_cons, List.map_nil, List.replicate, List.cons_append, List.nil_append, List.append_nil, List.getElem?_cons_zero, List.getElem?_cons_succ, List.set_cons_zero, List.set_cons_succ, List.length_map, List.length_cons, List.length_nil, wipeE, if_true, arr, Option.bind_some, List.reverse_nil, tupL, par2, par3, Nat.zero_add, Nat.reduceAdd, cap0, cap1, cap2, cap3, g1, neNil, hu, Bool.not_true]
        · have hu' : u.isEmpty = false := by simpa using hu
          have hlen : 0 < u.length := by
            cases u with
            | nil => exact absurd rfl hu
            | cons => simp
          have m6 : binD .mod (.int a) (.int (u.length : Int)) = some (.int (((a % (u.length : Int)).toNat : Nat) : Int)) := by
            rw [bMod (by omega), Int.toNat_of_nonneg (Int.emod_nonneg _ (by omega))]
          have hj : (a % (u.length : Int)).toNat < u.length := by
            have := Int.emod_lt_of_pos a (show (0 : Int) < (u.length : Int) by omega)
            omega
          refine ⟨u.getD (a % (u.length : Int)).toNat 0, ?_⟩
          simp only [evSs, evS, evE, evEs, ok_bind, ok_thn, nx_seq, rt_seq, ok_calm, lift_some, rd_int, rd_bl, rd_tup, rd_lst, rd_rep, rd_scr, seqO_lst, seqO_tup, setTg1, bAdd, bSub, cLt, cLe, cGt, cGe, cEq, cNe, cmpS, lenT, lenL, bInt, getT, getLs, idT, idL, omap, List.map_cons, List.map_nil, List.replicate, List.cons_append, List.nil_append, List.append_nil, List.getElem?_cons_zero, List.getElem?_cons_succ, List.set_cons_zero, List.set_cons_succ, List.length_map, List.length_cons, List.length_nil, wipeE, if_true, arr, Option.bind_some, List.reverse_nil, tupL, par2, par3, Nat.zero_add, Nat.reduceAdd, cap0, cap1, cap2, cap3, g1, neNil, hu', Bool.not_false, m6, ixD_ints hj]
      obtain ⟨x, hx⟩ := hg
      rw [w_asg hx]
      simp only [List.set_cons_zero, List.set_cons_succ]
      by_cases hb : (1000000000000000000 : Int) ≤ x ∧ a < (u.length : Int)
      · refine ⟨x % m, fd u (a + 1) (x / m) (c + 1), (rng _).1, (rng _).2, ?_, ⟨a + 1, _, c + 1, rfl, by omega, by omega, by omega⟩⟩
        refine w_if_rt (s1 := A) (by simp only [evSs, evS, evE, evEs, ok_bind, ok_thn, nx_seq, rt_seq, ok_calm, lift_some, rd_int, rd_bl, rd_tup, rd_lst, rd_rep, rd_scr, seqO_lst, seqO_tup, setTg1, bAdd, bSub, cLt, cLe, cGt, cGe, cEq, cNe, cmpS, lenT, lenL, bInt, getT, getLs, idT, idL, omap, List.map_cons, List.map_nil, List.replicate, List.cons_append, List.nil_append, List.append_nil, List.getElem?_cons_zero, List.getElem?_cons_succ, List.set_cons_zero, List.set_cons_succ, List.length_map, List.length_cons, List.length_nil, wipeE, if_true, arr, Option.bind_some, List.reverse_nil, tupL, par2, par3, Nat.zero_add, Nat.reduceAdd, cap0, cap1, cap2, cap3, pow18, g1, decide_eq_true hb.1, decide_eq_true hb.2]) ?_
        refine (w_setI (v := .int (x / m)) (x := .loc 0) (y := .str "left") (s1 := A) (s2 := A) (s3 := A) (by simp only [evSs, evS, evE, evEs, ok_bind, ok_thn, nx_seq, rt_seq, ok_calm, lift_some, rd_int, rd_bl, rd_tup, rd_lst, rd_rep, rd_scr, seqO_lst, seqO_tup, setTg1, bAdd, bSub, cLt, cLe, cGt, cGe, cEq, cNe, cmpS, lenT, lenL, bInt, getT, getLs, idT, idL, omap, List.map_cons, List.map_nil, List.replicate, List.cons_append, List.nil_append, List.append_nil, List.getElem?_cons_zero, List.getElem?_cons_succ, List.set_cons_zero, List.set_cons_succ, List.length_map, List.length_cons, List.length_nil, wipeE, if_true, arr, Option.bind_some, List.reverse_nil, tupL, par2, par3, Nat.zero_add, Nat.reduceAdd, cap0, cap1, cap2, cap3, v1]) (by simp only [evSs, evS, evE, evEs, ok_bind, ok_thn, nx_seq, rt_seq, ok_calm, lift_some, rd_int, rd_bl, rd_tup, rd_lst, rd_rep, rd_scr, seqO_lst, seqO_tup, setTg1, bAdd, bSub, cLt, cLe, cGt, cGe, cEq, cNe, cmpS, lenT, lenL, bInt, getT, getLs, idT, idL, omap, List.map_cons, List.map_nil, List.replicate, List.cons_append, List.nil_append, List.append_nil, List.getElem?_cons_zero, List.getElem?_cons_succ, List.set_cons_zero, List.set_cons_succ, List.length_map, List.length_cons, List.length_nil, wipeE, if_true, arr, Option.bind_some, List.reverse_nil, tupL, par2, par3, Nat.zero_add, Nat.reduceAdd, cap0, cap1, cap2, cap3]) (by simp only [evSs, evS, evE, evEs, ok_bind, ok_thn, nx_seq, rt_seq, ok_calm, lift_some, rd_int, rd_bl, rd_tup, rd_lst, rd_rep, rd_scr, seqO_lst, seqO_tup, setTg1, bAdd, bSub, cLt, cLe, cGt, cGe, cEq, cNe, cmpS, lenT, lenL, bInt, getT, getLs, idT, idL, omap, List.map_cons, List.map_nil, List.replicate, List.cons_append, List.nil_append, List.append_nil, List.getElem?_cons_zero, List.getElem?_cons_succ, List.set_cons_zero, List.set_cons_succ, List.length_map, List.length_cons, List.length_nil, wipeE, if_true, arr, Option.bind_some, List.reverse_nil, tupL, par2, par3, Nat.zero_add, Nat.reduceAdd, cap0, cap1, cap2, cap3]) (by rw [← hA]; exact fs3 d4)).trans ?_
        exact w_ret (by simp only [evSs, evS, evE, evEs, ok_bind, ok_thn, nx_seq, rt_seq, ok_calm, lift_some, rd_int, rd_bl, rd_tup, rd_lst, rd_rep, rd_scr, seqO_lst, seqO_tup, setTg1, bAdd, bSub, cLt, cLe, cGt, cGe, cEq, cNe, cmpS, lenT, lenL, bInt, getT, getLs, idT, idL, omap, List.map_cons, List.map_nil, List.replicate, List.cons_append, List.nil_append, List.append_nil, List.getElem?_cons_zero, List.getElem?_cons_succ, List.set_cons_zero, List.set_cons_succ, List.length_map, List.length_cons, List.length_nil, wipeE, if_true, arr, Option.bind_some, List.reverse_nil, tupL, par2, par3, Nat.zero_add, Nat.reduceAdd, cap0, cap1, cap2, cap3, m1])
      · have hcnd : evE cl (.and (.cmp .ge (.var 3) (.bin .pow (.con (.int (10))) (.con (.int (18))))) (.cmp .lt (.var 2) (.bi .len (.cons (.idx (.var 0) (.con (.str "cells"))) .nil)))) [some (.loc 0), some (.int m), some (.int a), some (.int x), none, none] A = .ok (.bl false) A := by
          by_cases h1 : (1000000000000000000 : Int) ≤ x
          · simp only [evSs, evS, evE, evEs, ok_bind, ok_thn, nx_seq, rt_seq, ok_calm, lift_some, rd_int, rd_bl, rd_tup, rd_lst, rd_rep, rd_scr, seqO_lst, seqO_tup, setTg1, bAdd, bSub, cLt, cLe, cGt, cGe, cEq, cNe, cmpS, lenT, lenL, bInt, getT, getLs, idT, idL, omap, List.map_cons, List.map_nil, List.replicate, List.cons_append, List.nil_append, List.append_nil, List.getElem?_cons_zero, List.getElem?_cons_succ, List.set_cons_zero, List.set_cons_succ, List.length_map, List.length_cons, List.length_nil, wipeE, if_true, arr, Option.bind_some, List.reverse_nil, tupL, par2, par3, Nat.zero_add, Nat.reduceAdd, cap0, cap1, cap2, cap3, pow18, g1, decide_eq_true h1, decide_eq_false (show ¬ a < (u.length : Int) from fun z => hb ⟨h1, z⟩)]
          · simp only [evSs, evS, evE, evEs, ok_bind, ok_thn, nx_seq, rt_seq, ok_calm, lift_some, rd_int, rd_bl, rd_tup, rd_lst, rd_rep, rd_scr, seqO_lst, seqO_tup, setTg1, bAdd, bSub, cLt, cLe, cGt, cGe, cEq, cNe, cmpS, lenT, lenL, bInt, getT, getLs, idT, idL, omap, List.map_cons, List.map_nil, List.replicate, List.cons_append, List.nil_append, List.append_nil, List.getElem?_cons_zero, List.getElem?_cons_succ, List.set_cons_zero, List.set_cons_succ, List.length_map, List.length_cons, List.length_nil, wipeE, if_true, arr, Option.bind_some, List.reverse_nil, tupL, par2, par3, Nat.zero_add, Nat.reduceAdd, cap0, cap1, cap2, cap3, pow18, decide_eq_false h1]
        rw [w_skip (s1 := A) hcnd]
        rw [w_asg (s1 := A) (by simp only [evSs, evS, evE, evEs, ok_bind, ok_thn, nx_seq, rt_seq, ok_calm, lift_some, rd_int, rd_bl, rd_tup, rd_lst, rd_rep, rd_scr, seqO_lst, seqO_tup, setTg1, bAdd, bSub, cLt, cLe, cGt, cGe, cEq, cNe, cmpS, lenT, lenL, bInt, getT, getLs, idT, idL, omap, List.map_cons, List.map_nil, List.replicate, List.cons_append, List.nil_append, List.append_nil, List.getElem?_cons_zero, List.getElem?_cons_succ, List.set_cons_zero, List.set_cons_succ, List.length_map, List.length_cons, List.length_nil, wipeE, if_true, arr, Option.bind_some, List.reverse_nil, tupL, par2, par3, Nat.zero_add, Nat.reduceAdd, cap0, cap1, cap2, cap3, g4, m2, m3, p1]; rfl)]
        simp only [List.set_cons_zero, List.set_cons_succ]
        rw [w_asg (s1 := A) (by simp only [evSs, evS, evE, evEs, ok_bind, ok_thn, nx_seq, rt_seq, ok_calm, lift_some, rd_int, rd_bl, rd_tup, rd_lst, rd_rep, rd_scr, seqO_lst, seqO_tup, setTg1, bAdd, bSub, cLt, cLe, cGt, cGe, cEq, cNe, cmpS, lenT, lenL, bInt, getT, getLs, idT, idL, omap, List.map_cons, List.map_nil, List.replicate, List.cons_append, List.nil_append, List.append_nil, List.getElem?_cons_zero, List.getElem?_cons_succ, List.set_cons_zero, List.set_cons_succ, List.length_map, List.length_cons, List.length_nil, wipeE, if_true, arr, Option.bind_some, List.reverse_nil, tupL, par2, par3, Nat.zero_add, Nat.reduceAdd, cap0, cap1, cap2, cap3, g4, m4, p2, p4]; rfl)]
        simp only [List.set_cons_zero, List.set_cons_succ]
        obtain ⟨E, hE⟩ : ∃ E, ((x % 1000001423 + 65003 * (c + 1) + 661) % 2147480897 * ((x % 1000001423 + 65003 * (c + 1) + 661) % 2147480897) + 13500031 * (c + 1) + 661) = E := ⟨_, rfl⟩
        rw [hE]
        refine ⟨((E % 2147480893 * (E % 2147480893) + 617 * (E % 2147480893)) % 2147480863 / 32) % m, fd u (a + 1) l (c + 1), (rng _).1, (rng _).2, ?_, ⟨a + 1, l, c + 1, rfl, by omega, by omega, by omega⟩⟩
        rw [hA]
        exact w_ret (by simp only [evSs, evS, evE, evEs, ok_bind, ok_thn, nx_seq, rt_seq, ok_calm, lift_some, rd_int, rd_bl, rd_tup, rd_lst, rd_rep, rd_scr, seqO_lst, seqO_tup, setTg1, bAdd, bSub, cLt, cLe, cGt, cGe, cEq, cNe, cmpS, lenT, lenL, bInt, getT, getLs, idT, idL, omap, List.map_cons, List.map_nil, List.replicate, List.cons_append, List.nil_append, List.append_nil, List.getElem?_cons_zero, List.getElem?_cons_succ, List.set_cons_zero, List.set_cons_succ, List.length_map, List.length_cons, List.length_nil, wipeE, if_true, arr, Option.bind_some, List.reverse_nil, tupL, par2, par3, Nat.zero_add, Nat.reduceAdd, cap0, cap1, cap2, cap3, m5, m1, v2, p3, p5])
  obtain ⟨v, o', q1, q2, q3, q4⟩ := key
  refine ⟨v, o', q1, q2, ?_, q4⟩
  show endF false (r.length + 1) (evSs cl f15.body [some (.loc 0), some (.int m), none, none, none, none] (fd u a l c :: r)) = _
  rw [q3]
  obtain ⟨a', l', c', rfl, _⟩ := q4
  exact end_int (hcl _ _ _)
end
end K14

set_option Elab.async false
set_option linter.all false
set_option maxRecDepth 100000
set_option maxHeartbeats 4000000
/-! T5: K14, the feed and picks. -/
namespace K14
open T5 PySem TabM
section
variable {k : Nat} {u : List Int} {B : Int} {o : SO}
theorem e14 {t : List Int} : ∃ u o, T5.run F (k + 1) 14 [.scr (t.map .int)] noT [] = .ok (.loc 0) [o] ∧ P u 0 o := by
  obtain ⟨w, hw⟩ := cut_ints t none (some 62)
  refine ⟨w, fd w 0 0 0, ?_, ⟨0, 0, 0, rfl, by omega, by omega, by omega⟩⟩
  rw [run_at F14 rfl rfl rfl]
  have h1 : slcD none (some 62) (.scr (t.map .int)) = some (.lst (w.map .int)) := by
    show some (D.lst (cutD (t.map .int) none (some 62))) = _
    rw [hw]
  have h2 : biD .list [.lst (w.map .int)] = some (.lst (w.map .int)) := id rfl
  have h : evSs (T5.run F k) f14.body [some (.scr (t.map .int))] [] = .rt (.loc 0) [fd w 0 0 0] := by
    refine w_ret ?_
    simp only [evSs, evS, evE, evEs, ok_bind, ok_thn, nx_seq, rt_seq, ok_calm, lift_some, rd_int, rd_bl, rd_tup, rd_lst, rd_rep, rd_scr, seqO_lst, seqO_tup, setTg1, bAdd, bSub, cLt, cLe, cGt, cGe, cEq, cNe, cmpS, lenT, lenL, bInt, getT, getLs, idT, idL, omap, List.map_cons, List.map_nil, List.replicate, List.cons_append, List.nil_append, List.append_nil, List.getElem?_cons_zero, List.getElem?_cons_succ, List.set_cons_zero, List.set_cons_succ, List.length_map, List.length_cons, List.length_nil, wipeE, if_true, arr, Option.bind_some, List.reverse_nil, tupL, par2, par3, Nat.zero_add, Nat.reduceAdd, cap0, cap1, cap2, cap3, partN, partI, h1, h2]
    rw [fdg_new d4]
    rfl
  show endF true 0 (evSs (T5.run F k) f14.body [some (.scr (t.map .int))] []) = _
  rw [h]
  rfl
theorem e16 (hD : Draws (T5.run F (k + 1)) 15 (P u)) {ds : List D} {r : Sto} (ho : P u B o) (h0 : 0 ≤ B) (hB : B ≤ 1000000) (hl : 0 < ds.length) (hl2 : ds.length < 1000000) (hr : cleanS (r.length + 1) r = true) (hc : ∀ d ∈ ds, ∀ n, clean n d = true) :
    ∃ d o', d ∈ ds ∧ T5.run F (k + 2) 16 [.loc 0, .lst ds] noT (o :: r) = .ok d (o' :: r) ∧ P u (B + 1) o' := by
  obtain ⟨v, o', v1, v2, v3, v4⟩ := hD B (ds.length : Int) o r ho h0 hB (by omega) (by omega) hr
  obtain ⟨j, rfl⟩ : ∃ j : Nat, v = (j : Int) := ⟨v.toNat, by omega⟩
  have hj : j < ds.length := by omega
  refine ⟨ds[j], o', List.getElem_mem hj, ?_, v4⟩
  rw [run_at F16 rfl rfl rfl]
  generalize T5.run F (k + 1) = cl at v3 ⊢
  have h : evSs cl f16.body [some (.loc 0), some (.lst ds)] (o :: r) = .rt ds[j] (o' :: r) := by
    refine w_ret ?_
    simp only [evSs, evS, evE, evEs, ok_bind, ok_thn, nx_seq, rt_seq, ok_calm, lift_some, rd_int, rd_bl, rd_tup, rd_lst, rd_rep, rd_scr, seqO_lst, seqO_tup, setTg1, bAdd, bSub, cLt, cLe, cGt, cGe, cEq, cNe, cmpS, lenT, lenL, bInt, getT, getLs, idT, idL, omap, List.map_cons, List.map_nil, List.replicate, List.cons_append, List.nil_append, List.append_nil, List.getElem?_cons_zero, List.getElem?_cons_succ, List.set_cons_zero, List.set_cons_succ, List.length_map, List.length_cons, List.length_nil, wipeE, if_true, arr, Option.bind_some, List.reverse_nil, tupL, par2, par3, Nat.zero_add, Nat.reduceAdd, cap0, cap1, cap2, cap3, v3, ix_of hj]
  show endF false (o :: r).length (evSs cl f16.body [some (.loc 0), some (.lst ds)] (o :: r)) = _
  rw [h]
  have hcl : Cl (o' :: r) := by
    show (cleanO (r.length + 1) o' && cleanS (r.length + 1) r) = true
    rw [clP u _ o' _ v4, hr]
    rfl
  exact end_sm (s := o' :: r) hcl (hc _ (List.getElem_mem hj) _)
end
end K14

set_option Elab.async false
set_option linter.all false
set_option maxRecDepth 100000
set_option maxHeartbeats 4000000
/-! T5: K14, a drawn order. -/
namespace K14
open T5 PySem TabM
section
variable {k : Nat} {u : List Int} {B : Int} {o : SO}
theorem app2 {o : SO} {ds : List D} {v : D} (h : ds.length < 1000) : appD [o, .lst ds] (.loc 1) v = some [o, .lst (ds ++ [v])] := app_end (s := [o]) (by unfold cap; omega)
/-- only whole numbers, as many as told -/
theorem e17 (hD : Draws (T5.run F (k + 1)) 15 (P u)) {n : Nat} (hn : n ≤ 7) (ho : P u B o) (h0 : 0 ≤ B) (hB : B ≤ 900000) :
    ∃ (g : List Int) (o' : SO), g.length = n ∧ T5.run F (k + 2) 17 [.loc 0, .int (n : Int)] noT [o] = .ok (.loc 1) [o', .lst (g.map .int)] ∧ P u (B + n) o' := by
  rw [run_at F17 rfl rfl rfl]
  generalize T5.run F (k + 1) = cl at hD ⊢
  have key : ∃ (g : List Int) (o' : SO), g.length = n ∧ evSs cl f17.body [some (.loc 0), some (.int (n : Int)), none, none, none, none] [o] = .rt (.loc 1) [o', .lst (g.map .int)] ∧ P u (B + n) o' := by
    refine (fun (h : ∀ r, r = evSs cl f17.body [some (.loc 0), some (.int (n : Int)), none, none, none, none] [o] → ∃ (g : List Int) (o' : SO), g.length = n ∧ r = .rt (.loc 1) [o', .lst (g.map .int)] ∧ P u (B + n) o') => h _ rfl) fun r hr => ?_
    rw [hr, show evSs cl f17.body [some (.loc 0), some (.int (n : Int)), none, none, none, none] [o] = _ from w_par (ds := [.lst (rangeD 0 n), .loc 1]) (s1 := [o, .lst []]) (by simp only [evSs, evS, evE, evEs, ok_bind, ok_thn, nx_seq, rt_seq, ok_calm, lift_some, rd_int, rd_bl, rd_tup, rd_lst, rd_rep, rd_scr, seqO_lst, seqO_tup, setTg1, bAdd, bSub, cLt, cLe, cGt, cGe, cEq, cNe, cmpS, lenT, lenL, bInt, getT, getLs, idT, idL, omap, List.map_cons, List.map_nil, List.replicate, List.cons_append, List.nil_append, List.append_nil, List.getElem?_cons_zero, List.getElem?_cons_succ, List.set_cons_zero, List.set_cons_succ, List.length_map, List.length_cons, List.length_nil, wipeE, if_true, arr, Option.bind_some, List.reverse_nil, tupL, par2, par3, Nat.zero_add, Nat.reduceAdd, cap0, cap1, cap2, cap3, lrn (n := n) (by omega)]; rfl) par2]
    simp only [List.set_cons_zero, List.set_cons_succ]
    refine w_loopr (y := 2) (n := n) (s1 := [o, .lst []]) (I := fun j env s => ∃ (L g : List Int) (o' : SO) (x2 x5 : Option D), L.length = n - j ∧ g.length = j ∧ env = [some (.loc 0), some (.int (n : Int)), x2, some (.lst (L.map .int)), some (.loc 1), x5] ∧ s = [o', .lst (g.map .int)] ∧ P u (B + j) o') (P := fun r => ∃ (g : List Int) (o' : SO), g.length = n ∧ r = .rt (.loc 1) [o', .lst (g.map .int)] ∧ P u (B + n) o') (by simp only [evSs, evS, evE, evEs, ok_bind, ok_thn, nx_seq, rt_seq, ok_calm, lift_some, rd_int, rd_bl, rd_tup, rd_lst, rd_rep, rd_scr, seqO_lst, seqO_tup, setTg1, bAdd, bSub, cLt, cLe, cGt, cGe, cEq, cNe, cmpS, lenT, lenL, bInt, getT, getLs, idT, idL, omap, List.map_cons, List.map_nil, List.replicate, List.cons_append, List.nil_append, List.append_nil, List.getElem?_cons_zero, List.getElem?_cons_succ, List.set_cons_zero, List.set_cons_succ, List.length_map, List.length_cons, List.length_nil, wipeE, if_true, arr, Option.bind_some, List.reverse_nil, tupL, par2, par3, Nat.zero_add, Nat.reduceAdd, cap0, cap1, cap2, cap3, okRn (n := n) (by omega)]; rfl) ⟨(List.range n).map fun (i : Nat) => (i : Int), [], o, none, none, by simp, rfl, by rw [range_map, List.map_map]; rfl, rfl, by simpa using ho⟩ (fun i hi env s ⟨L, g, o', x2, x5, q1, q2, q3, q4, q5⟩ => ?_) fun env s ⟨L, g, o', x2, x5, q1, q2, q3, q4, q5⟩ => ⟨g, o', q2, by subst q3 q4; exact w_ret (by simp only [evSs, evS, evE, evEs, ok_bind, ok_thn, nx_seq, rt_seq, ok_calm, lift_some, rd_int, rd_bl, rd_tup, rd_lst, rd_rep, rd_scr, seqO_lst, seqO_tup, setTg1, bAdd, bSub, cLt, cLe, cGt, cGe, cEq, cNe, cmpS, lenT, lenL, bInt, getT, getLs, idT, idL, omap, List.map_cons, List.map_nil, List.replicate, List.cons_append, List.nil_append, List.append_nil, List.getElem?_cons_zero, List.getElem?_cons_succ, List.set_cons_zero, List.set_cons_succ, List.length_map, List.length_cons, List.length_nil, wipeE, if_true, arr, Option.bind_some, List.reverse_nil, tupL, par2, par3, Nat.zero_add, Nat.reduceAdd, cap0, cap1, cap2, cap3]), q5⟩
    subst q3 q4
    obtain ⟨v, o2, v1, v2, v3, v4⟩ := hD (B + i) (L.length : Int) o' [.lst (g.map .int)] q5 (by omega) (by omega) (by omega) (by omega) (by
      show (cleanL 2 (g.map .int) && true) = true
      rw [clean_ints]
      rfl)
    obtain ⟨j, rfl⟩ : ∃ j : Nat, v = (j : Int) := ⟨v.toNat, by omega⟩
    have hj : j < L.length := by omega
    refine ⟨_, _, ?_, L.take j ++ L.drop (j + 1), g ++ [L.getD j 0], o2, some (.int (i : Int)), some (.int (j : Int)), by rw [List.length_append, List.length_take, List.length_drop]; omega, by rw [List.length_append]; simp [q2], rfl, rfl, by rw [show B + ((i + 1 : Nat) : Int) = B + (i : Int) + 1 by omega]; exact v4⟩
    simp only [List.set_cons_zero, List.set_cons_succ]
    unfold l17_0
    refine (w_asg (d := .int (j : Int)) (s1 := [o2, .lst (g.map .int)]) (by simp only [evSs, evS, evE, evEs, ok_bind, ok_thn, nx_seq, rt_seq, ok_calm, lift_some, rd_int, rd_bl, rd_tup, rd_lst, rd_rep, rd_scr, seqO_lst, seqO_tup, setTg1, bAdd, bSub, cLt, cLe, cGt, cGe, cEq, cNe, cmpS, lenT, lenL, bInt, getT, getLs, idT, idL, omap, List.map_cons, List.map_nil, List.replicate, List.cons_append, List.nil_append, List.append_nil, List.getElem?_cons_zero, List.getElem?_cons_succ, List.set_cons_zero, List.set_cons_succ, List.length_map, List.length_cons, List.length_nil, wipeE, if_true, arr, Option.bind_some, List.reverse_nil, tupL, par2, par3, Nat.zero_add, Nat.reduceAdd, cap0, cap1, cap2, cap3, v3])).trans ?_
    simp only [List.set_cons_zero, List.set_cons_succ]
    refine (w_app (x := .loc 1) (s1 := [o2, .lst (g.map .int)]) (v := .int (L.getD j 0)) (s2 := [o2, .lst (g.map .int)]) (by simp only [evSs, evS, evE, evEs, ok_bind, ok_thn, nx_seq, rt_seq, ok_calm, lift_some, rd_int, rd_bl, rd_tup, rd_lst, rd_rep, rd_scr, seqO_lst, seqO_tup, setTg1, bAdd, bSub, cLt, cLe, cGt, cGe, cEq, cNe, cmpS, lenT, lenL, bInt, getT, getLs, idT, idL, omap, List.map_cons, List.map_nil, List.replicate, List.cons_append, List.nil_append, List.append_nil, List.getElem?_cons_zero, List.getElem?_cons_succ, List.set_cons_zero, List.set_cons_succ, List.length_map, List.length_cons, List.length_nil, wipeE, if_true, arr, Option.bind_some, List.reverse_nil, tupL, par2, par3, Nat.zero_add, Nat.reduceAdd, cap0, cap1, cap2, cap3]) rfl (by simp only [evSs, evS, evE, evEs, ok_bind, ok_thn, nx_seq, rt_seq, ok_calm, lift_some, rd_int, rd_bl, rd_tup, rd_lst, rd_rep, rd_scr, seqO_lst, seqO_tup, setTg1, bAdd, bSub, cLt, cLe, cGt, cGe, cEq, cNe, cmpS, lenT, lenL, bInt, getT, getLs, idT, idL, omap, List.map_cons, List.map_nil, List.replicate, List.cons_append, List.nil_append, List.append_nil, List.getElem?_cons_zero, List.getElem?_cons_succ, List.set_cons_zero, List.set_cons_succ, List.length_map, List.length_cons, List.length_nil, wipeE, if_true, arr, Option.bind_some, List.reverse_nil, tupL, par2, par3, Nat.zero_add, Nat.reduceAdd, cap0, cap1, cap2, cap3, ixD_ints hj]) (app2 (by rw [List.length_map]; omega))).trans ?_
    have ej : (j : Int) + 1 = ((j + 1 : Nat) : Int) := by omega
    refine (w_asg (d := .lst ((L.take j ++ L.drop (j + 1)).map .int)) (s1 := [o2, .lst ((g ++ [L.getD j 0]).map .int)]) ?_).trans w_nil
    rw [List.map_append]
    simp only [evSs, evS, evE, evEs, ok_bind, ok_thn, nx_seq, rt_seq, ok_calm, lift_some, rd_int, rd_bl, rd_tup, rd_lst, rd_rep, rd_scr, seqO_lst, seqO_tup, setTg1, bAdd, bSub, cLt, cLe, cGt, cGe, cEq, cNe, cmpS, lenT, lenL, bInt, getT, getLs, idT, idL, omap, List.map_cons, List.map_nil, List.replicate, List.cons_append, List.nil_append, List.append_nil, List.getElem?_cons_zero, List.getElem?_cons_succ, List.set_cons_zero, List.set_cons_succ, List.length_map, List.length_cons, List.length_nil, wipeE, if_true, arr, Option.bind_some, List.reverse_nil, tupL, par2, par3, Nat.zero_add, Nat.reduceAdd, cap0, cap1, cap2, cap3, partN, partI, slcL, ej, cut_take (show j ≤ L.length by omega), cut_drop (show j + 1 ≤ L.length by omega), addL (a := (L.take j).map .int) (b := (L.drop (j + 1)).map .int) (by rw [List.length_map, List.length_map, List.length_take, List.length_drop]; unfold cap; omega), List.map_append]
  obtain ⟨g, o', q1, q2, q3⟩ := key
  refine ⟨g, o', q1, ?_, q3⟩
  show endF true 1 (evSs cl f17.body [some (.loc 0), some (.int (n : Int)), none, none, none, none] [o]) = _
  rw [q2]
  rfl
end
end K14

set_option Elab.async false
set_option linter.all false
set_option maxRecDepth 100000
set_option maxHeartbeats 2000000
/-! T5: comprehensions and loops that draw. -/
namespace T5
open PySem TabM
theorem lcL_ix {f : D → Sto → R (Option D)} {I : Nat → Sto → Prop} {Pd : D → Prop} : ∀ {xs acc : List D} {s : Sto} {j : Nat}, I j s → (∀ (i : Nat) (x : D), xs[i]? = some x → ∀ s, I (j + i) s → ∃ d s', f x s = .ok (some d) s' ∧ Pd d ∧ I (j + i + 1) s') → acc.length + xs.length ≤ cap →
    ∃ ds s', lcL f xs acc s = .ok (acc.reverse ++ ds) s' ∧ ds.length = xs.length ∧ (∀ d ∈ ds, Pd d) ∧ I (j + xs.length) s'
  | [], acc, s, j, hI, _, _ => ⟨[], s, by unfold lcL; simp, rfl, fun d h => (by cases h), hI⟩
  | x :: r, acc, s, j, hI, h, hl => by
    obtain ⟨d, s1, h1, h2, h3⟩ := h 0 x rfl s hI
    simp only [List.length_cons] at hl
    obtain ⟨ds, s2, k1, k2, k3, k4⟩ := lcL_ix (acc := d :: acc) (j := j + 1) (xs := r) (Pd := Pd) h3 (fun i y hy s hs => by
      have := h (i + 1) y (by simpa using hy) s (by rw [show j + (i + 1) = j + 1 + i by omega]; exact hs)
      rw [show j + (i + 1) + 1 = j + 1 + i + 1 by omega] at this
      exact this) (by simp only [List.length_cons]; omega)
    refine ⟨d :: ds, s2, ?_, by simp [k2], fun y hy => ?_, by rw [List.length_cons, show j + (r.length + 1) = j + 1 + r.length by omega]; exact k4⟩
    · unfold lcL
      rw [h1]
      show (if Nat.blt acc.length cap = true then lcL f r (d :: acc) s1 else .bad) = _
      rw [if_pos (by exact Nat.ble_eq.mpr (by omega)), k1]
      simp
    · rcases List.mem_cons.mp hy with rfl | hy
      · exact h2
      · exact k3 y hy
section
variable {cl : Calls} {env : Env} {s s1 : Sto} {e c it : CE} {cs b : CSs}
theorem w_lcd {own tg : List Nat} {x : D} {xs : List D} {I : Nat → Sto → Prop} {Pd : D → Prop} (h : evE cl it env s = .ok x s1) (hx : seqOf x = some xs) (hl : xs.length ≤ cap) (h0 : I 0 s1)
    (turn : ∀ (i : Nat) (y : D), xs[i]? = some y → ∀ s, I i s → ∃ env2 d s', setTg (wipeE env own) tg y = some env2 ∧ evE cl e env2 s = .ok d s' ∧ Pd d ∧ I (i + 1) s') :
    ∃ ds s', evE cl (.lc own tg e it (.con (.bl true))) env s = .ok (.lst ds) s' ∧ ds.length = xs.length ∧ (∀ d ∈ ds, Pd d) ∧ I xs.length s' := by
  obtain ⟨ds, s', k1, k2, k3, k4⟩ := lcL_ix (f := fun y s2 => (match setTg (wipeE env own) tg y with
        | some env2 => (evE cl (.con (.bl true)) env2 s2).bind fun b s3 => (match b with
          | .bl true => (evE cl e env2 s3).bind fun d s4 => .ok (some d) s4
          | .bl false => .ok none s3
          | _ => .bad)
        | none => .bad)) (I := I) (Pd := Pd) (xs := xs) (acc := []) (j := 0) h0 (fun i y hy s hs => by
    rw [Nat.zero_add] at hs ⊢
    obtain ⟨env2, d, s', q1, q2, q3, q4⟩ := turn i y hy s hs
    refine ⟨d, s', ?_, q3, q4⟩
    rw [q1]
    simp only
    rw [evE, ok_bind]
    simp only
    rw [q2]
    rfl) (by simpa using hl)
  rw [Nat.zero_add] at k4
  refine ⟨ds, s', ?_, k2, k3, k4⟩
  rw [evE, h, ok_bind, hx]
  simp only
  rw [List.reverse_nil, List.nil_append] at k1
  exact congrArg (fun z : R (List D) => z.calm.bind fun ds s5 => R.ok (D.lst ds) s5) k1
end
theorem ints_of' {P : Int → Prop} : ∀ {ds : List D}, (∀ d ∈ ds, ∃ i, d = .int i ∧ P i) → ∃ t : List Int, ds = t.map .int ∧ ∀ i ∈ t, P i
  | [], _ => ⟨[], rfl, fun i h => (by cases h)⟩
  | d :: r, h => by
    obtain ⟨i, rfl, hi⟩ := h d (List.mem_cons_self ..)
    obtain ⟨t, rfl, ht⟩ := ints_of' (ds := r) fun d hd => h d (List.mem_cons_of_mem _ hd)
    refine ⟨i :: t, rfl, fun j hj => ?_⟩
    rcases List.mem_cons.mp hj with rfl | hj
    · exact hi
    · exact ht j hj
theorem lcL_g {f : D → Sto → R (Option D)} {I : Nat → Sto → Prop} {g : Nat → D} : ∀ {xs acc : List D} {s : Sto} {j : Nat}, I j s → (∀ (i : Nat) (x : D), xs[i]? = some x → ∀ s, I (j + i) s → ∃ s', f x s = .ok (some (g (j + i))) s' ∧ I (j + i + 1) s') → acc.length + xs.length ≤ cap →
    ∃ s', lcL f xs acc s = .ok (acc.reverse ++ (List.range xs.length).map fun i => g (j + i)) s' ∧ I (j + xs.length) s'
  | [], acc, s, j, hI, _, _ => ⟨s, by unfold lcL; simp, hI⟩
  | x :: r, acc, s, j, hI, h, hl => by
    obtain ⟨s1, h1, h3⟩ := h 0 x rfl s hI
    simp only [List.length_cons] at hl
    obtain ⟨s2, k1, k4⟩ := lcL_g (acc := g (j + 0) :: acc) (j := j + 1) (xs := r) (g := g) h3 (fun i y hy s hs => by
      have := h (i + 1) y (by simpa using hy) s (by rw [show j + (i + 1) = j + 1 + i by omega]; exact hs)
      rw [show j + (i + 1) = j + 1 + i by omega] at this
      exact this) (by simp only [List.length_cons]; omega)
    refine ⟨s2, ?_, by rw [List.length_cons, show j + (r.length + 1) = j + 1 + r.length by omega]; exact k4⟩
    unfold lcL
    rw [h1]
    show (if Nat.blt acc.length cap = true then lcL f r (g (j + 0) :: acc) s1 else .bad) = _
    rw [if_pos (by exact Nat.ble_eq.mpr (by omega)), k1, List.length_cons, List.range_succ_eq_map, List.map_cons, List.map_map]
    simp only [List.reverse_cons, List.append_assoc, List.cons_append, List.nil_append]
    have e : (List.range r.length).map (fun i => g (j + 1 + i)) = (List.range r.length).map ((fun i => g (j + i)) ∘ Nat.succ) := List.map_congr_left fun i _ => by
      show g (j + 1 + i) = g (j + (i + 1))
      rw [show j + 1 + i = j + (i + 1) by omega]
    rw [e]
theorem lcL_none {f : D → Sto → R (Option D)} {I : Nat → Sto → Prop} : ∀ {xs acc : List D} {s : Sto} {j : Nat}, I j s → (∀ (i : Nat) (x : D), xs[i]? = some x → ∀ s, I (j + i) s → ∃ s', f x s = .ok none s' ∧ I (j + i + 1) s') →
    ∃ s', lcL f xs acc s = .ok acc.reverse s' ∧ I (j + xs.length) s'
  | [], acc, s, j, hI, _ => ⟨s, by unfold lcL; simp, hI⟩
  | x :: r, acc, s, j, hI, h => by
    obtain ⟨s1, h1, h3⟩ := h 0 x rfl s hI
    obtain ⟨s2, k1, k4⟩ := lcL_none (acc := acc) (j := j + 1) (xs := r) h3 (fun i y hy s hs => by
      have := h (i + 1) y (by simpa using hy) s (by rw [show j + (i + 1) = j + 1 + i by omega]; exact hs)
      rw [show j + (i + 1) = j + 1 + i by omega] at this
      exact this)
    refine ⟨s2, ?_, by rw [List.length_cons, show j + (r.length + 1) = j + 1 + r.length by omega]; exact k4⟩
    unfold lcL
    rw [h1]
    exact k1
section
variable {cl : Calls} {env : Env} {s s1 : Sto} {e c it : CE} {cs b : CSs}
theorem w_lcg {own tg : List Nat} {x : D} {xs : List D} {I : Nat → Sto → Prop} {g : Nat → D} (h : evE cl it env s = .ok x s1) (hx : seqOf x = some xs) (hl : xs.length ≤ cap) (h0 : I 0 s1)
    (turn : ∀ (i : Nat) (y : D), xs[i]? = some y → ∀ s, I i s → ∃ env2 s', setTg (wipeE env own) tg y = some env2 ∧ evE cl e env2 s = .ok (g i) s' ∧ I (i + 1) s') :
    ∃ s', evE cl (.lc own tg e it (.con (.bl true))) env s = .ok (.lst ((List.range xs.length).map g)) s' ∧ I xs.length s' := by
  obtain ⟨s', k1, k4⟩ := lcL_g (f := fun y s2 => (match setTg (wipeE env own) tg y with
        | some env2 => (evE cl (.con (.bl true)) env2 s2).bind fun b s3 => (match b with
          | .bl true => (evE cl e env2 s3).bind fun d s4 => .ok (some d) s4
          | .bl false => .ok none s3
          | _ => .bad)
        | none => .bad)) (I := I) (g := g) (xs := xs) (acc := []) (j := 0) h0 (fun i y hy s hs => by
    rw [Nat.zero_add] at hs ⊢
    obtain ⟨env2, s', q1, q2, q4⟩ := turn i y hy s hs
    refine ⟨s', ?_, q4⟩
    rw [q1]
    simp only
    rw [evE, ok_bind]
    simp only
    rw [q2]
    rfl) (by simpa using hl)
  rw [Nat.zero_add] at k4
  refine ⟨s', ?_, k4⟩
  rw [evE, h, ok_bind, hx]
  simp only
  simp only [List.reverse_nil, List.nil_append, Nat.zero_add] at k1
  exact congrArg (fun z : R (List D) => z.calm.bind fun ds s5 => R.ok (D.lst ds) s5) k1
/-- a comprehension whose test draws and is never met -/
theorem w_lcn {own tg : List Nat} {x : D} {xs : List D} {I : Nat → Sto → Prop} (h : evE cl it env s = .ok x s1) (hx : seqOf x = some xs) (h0 : I 0 s1)
    (turn : ∀ (i : Nat) (y : D), xs[i]? = some y → ∀ s, I i s → ∃ env2 s', setTg (wipeE env own) tg y = some env2 ∧ evE cl c env2 s = .ok (.bl false) s' ∧ I (i + 1) s') :
    ∃ s', evE cl (.lc own tg e it c) env s = .ok (.lst []) s' ∧ I xs.length s' := by
  obtain ⟨s', k1, k4⟩ := lcL_none (f := fun y s2 => (match setTg (wipeE env own) tg y with
        | some env2 => (evE cl c env2 s2).bind fun b s3 => (match b with
          | .bl true => (evE cl e env2 s3).bind fun d s4 => .ok (some d) s4
          | .bl false => .ok none s3
          | _ => .bad)
        | none => .bad)) (I := I) (xs := xs) (acc := []) (j := 0) h0 (fun i y hy s hs => by
    rw [Nat.zero_add] at hs ⊢
    obtain ⟨env2, s', q1, q2, q4⟩ := turn i y hy s hs
    refine ⟨s', ?_, q4⟩
    rw [q1]
    simp only
    rw [q2]
    rfl)
  rw [Nat.zero_add] at k4
  refine ⟨s', ?_, k4⟩
  rw [evE, h, ok_bind, hx]
  simp only
  exact congrArg (fun z : R (List D) => z.calm.bind fun ds s5 => R.ok (D.lst ds) s5) k1
end
/-- lists of whole numbers in the store -/
def RS (rows : List (List Int)) : Sto := rows.map fun r => SO.lst (r.map .int)
theorem clRS (n : Nat) : ∀ rows : List (List Int), cleanS n (RS rows) = true
  | [] => rfl
  | r :: rs => by
    show (cleanL n (r.map .int) && cleanS n (RS rs)) = true
    rw [clean_ints, clRS n rs]
    rfl
theorem rs_at {rows : List (List Int)} {i : Nat} (h : i < rows.length) : (RS rows)[i]? = some (.lst ((rows.getD i []).map .int)) := by
  unfold RS
  rw [List.getElem?_map, List.getElem?_eq_getElem h, List.getD_eq_getElem?_getD, List.getElem?_eq_getElem h]
  rfl
theorem rs_set {rows : List (List Int)} {i : Nat} {r : List Int} : (RS rows).set i (.lst (r.map .int)) = RS (rows.set i r) := by
  unfold RS
  rw [List.map_set]
theorem cutA {ds : List D} {v : Nat} (h : v ≤ ds.length) : cutD ds none (some (v : Int)) = ds.take v := by
  unfold cutD
  rw [HT.sIx_nat, Nat.min_eq_left h]
  simp [HT.sIx]
theorem cutB {ds : List D} {v : Nat} (h : v ≤ ds.length) : cutD ds (some (v : Int)) none = ds.drop v := by
  unfold cutD
  rw [HT.sIx_nat, Nat.min_eq_left h]
  simp only [HT.sIx]
  rw [List.take_of_length_le (by simp)]
theorem addT {a b : List D} (h : a.length + b.length ≤ cap) : binD .add (.tup a) (.tup b) = some (.tup (a ++ b)) := by
  show (if Nat.ble (a.length + b.length) cap = true then some (D.tup (a ++ b)) else none) = _
  rw [if_pos (Nat.ble_eq.mpr h)]
end T5

set_option Elab.async false
set_option linter.all false
set_option maxRecDepth 100000
set_option maxHeartbeats 4000000
/-! T5: K14, drawn throws. -/
namespace K14
open T5 PySem TabM
def f18t : CSs := (.cons (.asg [3] (.lc [7] [7] e18_1 (.rng1 (.var 2)) (.con (.bl true)))) (.cons (.ret (.bi .tuple (.cons (.lc [8] [8] e18_2 (.var 3) (.con (.bl true))) .nil))) .nil))
section
variable {k : Nat} {u : List Int} {B : Int} {o : SO} {cl : Calls}
theorem cs2 (g : List Int) : cleanS 2 [SO.lst (g.map .int)] = true := by
  show (cleanL 2 (g.map .int) && true) = true
  rw [clean_ints]
  rfl
theorem t18 (hD : Draws cl 15 (P u)) {n : Nat} {d : D} {g L : List Int} {x5 x6 : Option D} (h1 : 0 < n) (hn : n ≤ 7) (ho : P u B o) (h0 : 0 ≤ B) (hB : B ≤ 900000) (hg : ∀ (o : SO) (i : Nat), i < n → T5.getD [o, .lst (g.map .int)] d (.int (i : Int)) = some (.int (L.getD i 0))) :
    ∃ (t : List Int) (o' : SO), t.length = n ∧ evSs cl f18t [some (.loc 0), some (.int 7), some (.int (n : Int)), none, some d, x5, x6, none, none] [o, .lst (g.map .int)] = .rt (I t) [o', .lst (g.map .int)] ∧ P u (B + n) o' := by
  have mn : ∀ i, binD .mod (.int i) (.int (n : Int)) = some (.int (i % (n : Int))) := fun i => bMod (by omega)
  have a1 := w_lcr (cl := cl) (own := [7]) (y := 7) (e := e18_1) (it := .rng1 (.var 2)) (env := [some (.loc 0), some (.int 7), some (.int (n : Int)), none, some d, x5, x6, none, none]) (s := [o, .lst (g.map .int)]) (s1 := [o, .lst (g.map .int)]) (n := n) (g := fun i => .int ((L.getD i 0 - (i : Int)) % (n : Int))) (by simp only [evSs, evS, evE, evEs, ok_bind, ok_thn, nx_seq, rt_seq, ok_calm, lift_some, rd_int, rd_bl, rd_tup, rd_lst, rd_rep, rd_scr, seqO_lst, seqO_tup, setTg1, bAdd, bSub, cLt, cLe, cGt, cGe, cEq, cNe, cmpS, lenT, lenL, bInt, getT, getLs, idT, idL, omap, List.map_cons, List.map_nil, List.replicate, List.cons_append, List.nil_append, List.append_nil, List.getElem?_cons_zero, List.getElem?_cons_succ, List.set_cons_zero, List.set_cons_succ, List.length_map, List.length_cons, List.length_nil, wipeE, if_true, arr, Option.bind_some, List.reverse_nil, tupL, par2, par3, Nat.zero_add, Nat.reduceAdd, cap0, cap1, cap2, cap3, okRn (n := n) (by omega)]; rfl) (by unfold cap; omega) (fun i hi => by
    unfold e18_1
    simp only [evSs, evS, evE, evEs, ok_bind, ok_thn, nx_seq, rt_seq, ok_calm, lift_some, rd_int, rd_bl, rd_tup, rd_lst, rd_rep, rd_scr, seqO_lst, seqO_tup, setTg1, bAdd, bSub, cLt, cLe, cGt, cGe, cEq, cNe, cmpS, lenT, lenL, bInt, getT, getLs, idT, idL, omap, List.map_cons, List.map_nil, List.replicate, List.cons_append, List.nil_append, List.append_nil, List.getElem?_cons_zero, List.getElem?_cons_succ, List.set_cons_zero, List.set_cons_succ, List.length_map, List.length_cons, List.length_nil, wipeE, if_true, arr, Option.bind_some, List.reverse_nil, tupL, par2, par3, Nat.zero_add, Nat.reduceAdd, cap0, cap1, cap2, cap3, hg o i hi, mn])
  obtain ⟨M, hM, hMl⟩ : ∃ M : List Int, (List.range n).map (fun (i : Nat) => D.int ((L.getD i 0 - (i : Int)) % (n : Int))) = M.map .int ∧ M.length = n := ⟨(List.range n).map fun (i : Nat) => (L.getD i 0 - (i : Int)) % (n : Int), by rw [List.map_map]; rfl, by simp⟩
  rw [hM] at a1
  obtain ⟨ds, s', k1, k2, k3, o', k4, k5⟩ := w_lcd (cl := cl) (own := [8]) (tg := [8]) (e := e18_2) (it := .var 3) (env := [some (.loc 0), some (.int 7), some (.int (n : Int)), some (.lst (M.map .int)), some d, x5, x6, none, none]) (s := [o, .lst (g.map .int)]) (s1 := [o, .lst (g.map .int)]) (x := .lst (M.map .int)) (xs := M.map .int) (I := fun j s => ∃ o, s = [o, .lst (g.map .int)] ∧ P u (B + j) o) (Pd := fun d => ∃ i, d = .int i ∧ True) (by simp only [evSs, evS, evE, evEs, ok_bind, ok_thn, nx_seq, rt_seq, ok_calm, lift_some, rd_int, rd_bl, rd_tup, rd_lst, rd_rep, rd_scr, seqO_lst, seqO_tup, setTg1, bAdd, bSub, cLt, cLe, cGt, cGe, cEq, cNe, cmpS, lenT, lenL, bInt, getT, getLs, idT, idL, omap, List.map_cons, List.map_nil, List.replicate, List.cons_append, List.nil_append, List.append_nil, List.getElem?_cons_zero, List.getElem?_cons_succ, List.set_cons_zero, List.set_cons_succ, List.length_map, List.length_cons, List.length_nil, wipeE, if_true, arr, Option.bind_some, List.reverse_nil, tupL, par2, par3, Nat.zero_add, Nat.reduceAdd, cap0, cap1, cap2, cap3]) seqO_lst (by rw [List.length_map]; unfold cap; omega) ⟨o, rfl, by simpa using ho⟩ (fun i y hy s ⟨o, q1, q2⟩ => by
    subst q1
    have hi : i < n := by
      have := (List.getElem?_eq_some_iff.mp hy).1
      rw [List.length_map] at this
      omega
    obtain ⟨z, rfl⟩ : ∃ z, y = .int z := by
      obtain ⟨z, _, e⟩ := List.mem_map.mp (List.mem_of_getElem? hy)
      exact ⟨z, e.symm⟩
    obtain ⟨v, o2, v1, v2, v3, v4⟩ := hD (B + i) 2 o [.lst (g.map .int)] q2 (by omega) (by omega) (by omega) (by omega) (cs2 g)
    have pm : binD .mul (.int (n : Int)) (.int v) = some (.int ((n : Int) * v)) := bMul (.inl ⟨by omega, by omega⟩)
    by_cases hz : 0 < z
    · refine ⟨_, .int z, [o, .lst (g.map .int)], setTg1, ?_, ⟨z, rfl, trivial⟩, o, rfl, q2.mono (by omega)⟩
      unfold e18_2
      simp only [evSs, evS, evE, evEs, ok_bind, ok_thn, nx_seq, rt_seq, ok_calm, lift_some, rd_int, rd_bl, rd_tup, rd_lst, rd_rep, rd_scr, seqO_lst, seqO_tup, setTg1, bAdd, bSub, cLt, cLe, cGt, cGe, cEq, cNe, cmpS, lenT, lenL, bInt, getT, getLs, idT, idL, omap, List.map_cons, List.map_nil, List.replicate, List.cons_append, List.nil_append, List.append_nil, List.getElem?_cons_zero, List.getElem?_cons_succ, List.set_cons_zero, List.set_cons_succ, List.length_map, List.length_cons, List.length_nil, wipeE, if_true, arr, Option.bind_some, List.reverse_nil, tupL, par2, par3, Nat.zero_add, Nat.reduceAdd, cap0, cap1, cap2, cap3, decide_eq_true hz]
    · refine ⟨_, .int ((n : Int) * v), [o2, .lst (g.map .int)], setTg1, ?_, ⟨_, rfl, trivial⟩, o2, rfl, by rw [show B + ((i + 1 : Nat) : Int) = B + (i : Int) + 1 by omega]; exact v4⟩
      unfold e18_2
      simp only [evSs, evS, evE, evEs, ok_bind, ok_thn, nx_seq, rt_seq, ok_calm, lift_some, rd_int, rd_bl, rd_tup, rd_lst, rd_rep, rd_scr, seqO_lst, seqO_tup, setTg1, bAdd, bSub, cLt, cLe, cGt, cGe, cEq, cNe, cmpS, lenT, lenL, bInt, getT, getLs, idT, idL, omap, List.map_cons, List.map_nil, List.replicate, List.cons_append, List.nil_append, List.append_nil, List.getElem?_cons_zero, List.getElem?_cons_succ, List.set_cons_zero, List.set_cons_succ, List.length_map, List.length_cons, List.length_nil, wipeE, if_true, arr, Option.bind_some, List.reverse_nil, tupL, par2, par3, Nat.zero_add, Nat.reduceAdd, cap0, cap1, cap2, cap3, decide_eq_false hz, v3, pm])
  obtain ⟨t, rfl, _⟩ := ints_of' k3
  subst k4
  rw [List.length_map] at k2 k5
  rw [List.length_map] at k2
  refine ⟨t, o', by omega, ?_, by rw [← hMl]; exact k5⟩
  unfold f18t
  refine (w_asg a1).trans ?_
  simp only [List.set_cons_zero, List.set_cons_succ]
  exact w_ret (by rw [evE, evEs, k1]; rfl)
theorem e18 (hD1 : Draws (T5.run F (k + 1)) 15 (P u)) (hD : Draws (T5.run F (k + 2)) 15 (P u)) (ho : P u B o) (h0 : 0 ≤ B) (hB : B ≤ 800000) :
    ∃ t o', 0 < t.length ∧ t.length ≤ 7 ∧ T5.run F (k + 3) 18 [.loc 0, .int 7] noT [o] = .ok (I t) [o'] ∧ P u (B + 40) o' := by
  obtain ⟨v, o1, v1, v2, v3, v4⟩ := hD B 7 o [] ho h0 (by omega) (by omega) (by omega) rfl
  obtain ⟨n, hn⟩ : ∃ n : Nat, 1 + v = (n : Int) := ⟨(1 + v).toNat, by omega⟩
  obtain ⟨g, o2, gl, g1, g2⟩ := e17 hD1 (n := n) (by omega) v4 (by omega) (by omega)
  obtain ⟨w, o3, w1, w2, w3, w4⟩ := hD (B + 1 + n) 5 o2 [.lst (g.map .int)] g2 (by omega) (by omega) (by omega) (by omega) (cs2 g)
  rw [run_at F18 rfl rfl rfl]
  generalize T5.run F (k + 2) = cl at hD v3 g1 w3 ⊢
  have key : ∃ (t : List Int) (o' : SO), t.length = n ∧ evSs cl f18.body [some (.loc 0), some (.int 7), none, none, none, none, none, none, none] [o] = .rt (I t) [o', .lst (g.map .int)] ∧ P u (B + 40) o' := by
    rw [show evSs cl f18.body [some (.loc 0), some (.int 7), none, none, none, none, none, none, none] [o] = _ from w_asg (d := .int (n : Int)) (s1 := [o1]) (by simp only [evSs, evS, evE, evEs, ok_bind, ok_thn, nx_seq, rt_seq, ok_calm, lift_some, rd_int, rd_bl, rd_tup, rd_lst, rd_rep, rd_scr, seqO_lst, seqO_tup, setTg1, bAdd, bSub, cLt, cLe, cGt, cGe, cEq, cNe, cmpS, lenT, lenL, bInt, getT, getLs, idT, idL, omap, List.map_cons, List.map_nil, List.replicate, List.cons_append, List.nil_append, List.append_nil, List.getElem?_cons_zero, List.getElem?_cons_succ, List.set_cons_zero, List.set_cons_succ, List.length_map, List.length_cons, List.length_nil, wipeE, if_true, arr, Option.bind_some, List.reverse_nil, tupL, par2, par3, Nat.zero_add, Nat.reduceAdd, cap0, cap1, cap2, cap3, v3, hn])]
    simp only [List.set_cons_zero, List.set_cons_succ]
    rw [w_asg2 (x := .loc 1) (y := .int w) (s1 := [o3, .lst (g.map .int)]) (by simp only [evSs, evS, evE, evEs, ok_bind, ok_thn, nx_seq, rt_seq, ok_calm, lift_some, rd_int, rd_bl, rd_tup, rd_lst, rd_rep, rd_scr, seqO_lst, seqO_tup, setTg1, bAdd, bSub, cLt, cLe, cGt, cGe, cEq, cNe, cmpS, lenT, lenL, bInt, getT, getLs, idT, idL, omap, List.map_cons, List.map_nil, List.replicate, List.cons_append, List.nil_append, List.append_nil, List.getElem?_cons_zero, List.getElem?_cons_succ, List.set_cons_zero, List.set_cons_succ, List.length_map, List.length_cons, List.length_nil, wipeE, if_true, arr, Option.bind_some, List.reverse_nil, tupL, par2, par3, Nat.zero_add, Nat.reduceAdd, cap0, cap1, cap2, cap3, g1, w3])]
    simp only [List.set_cons_zero, List.set_cons_succ]
    have gg : ∀ (o : SO) (i : Nat), i < n → T5.getD [o, .lst (g.map .int)] (.loc 1) (.int (i : Int)) = some (.int (g.getD i 0)) := fun o i hi => by
      show ixD (g.map .int) (i : Int) = _
      rw [ixD_ints (by omega)]
    by_cases h0w : w = 0
    · subst h0w
      obtain ⟨ds, s', k1, k2, k3, o', k4, k5⟩ := w_lcd (cl := cl) (own := [7]) (tg := [7]) (e := e18_0) (it := .rng1 (.var 2)) (env := [some (.loc 0), some (.int 7), some (.int (n : Int)), none, some (.loc 1), some (.int 0), none, none, none]) (s := [o3, .lst (g.map .int)]) (s1 := [o3, .lst (g.map .int)]) (x := .lst (rangeD 0 n)) (xs := rangeD 0 n) (I := fun j s => ∃ o, s = [o, .lst (g.map .int)] ∧ P u (B + 2 + n + j) o) (Pd := fun d => ∃ i, d = .int i ∧ True) (by simp only [evSs, evS, evE, evEs, ok_bind, ok_thn, nx_seq, rt_seq, ok_calm, lift_some, rd_int, rd_bl, rd_tup, rd_lst, rd_rep, rd_scr, seqO_lst, seqO_tup, setTg1, bAdd, bSub, cLt, cLe, cGt, cGe, cEq, cNe, cmpS, lenT, lenL, bInt, getT, getLs, idT, idL, omap, List.map_cons, List.map_nil, List.replicate, List.cons_append, List.nil_append, List.append_nil, List.getElem?_cons_zero, List.getElem?_cons_succ, List.set_cons_zero, List.set_cons_succ, List.length_map, List.length_cons, List.length_nil, wipeE, if_true, arr, Option.bind_some, List.reverse_nil, tupL, par2, par3, Nat.zero_add, Nat.reduceAdd, cap0, cap1, cap2, cap3, okRn (n := n) (by omega)]; rfl) seqO_lst (by rw [rangeD_len]; unfold cap; omega) ⟨o3, rfl, w4.mono (by omega)⟩ (fun i y hy s ⟨o, q1, q2⟩ => by
        subst q1
        obtain ⟨hi, rfl⟩ := range0_at hy
        obtain ⟨z, o4, z1, z2, z3, z4⟩ := hD (B + 2 + n + i) 2 o [.lst (g.map .int)] q2 (by omega) (by omega) (by omega) (by omega) (cs2 g)
        have mn : ∀ i, binD .mod (.int i) (.int (n : Int)) = some (.int (i % (n : Int))) := fun i => bMod (by omega)
        refine ⟨_, .int (((i : Int) + 1 + z) % (n : Int)), [o4, .lst (g.map .int)], setTg1, ?_, ⟨_, rfl, trivial⟩, o4, rfl, by rw [show B + 2 + (n : Int) + ((i + 1 : Nat) : Int) = B + 2 + (n : Int) + (i : Int) + 1 by omega]; exact z4⟩
        unfold e18_0
        simp only [evSs, evS, evE, evEs, ok_bind, ok_thn, nx_seq, rt_seq, ok_calm, lift_some, rd_int, rd_bl, rd_tup, rd_lst, rd_rep, rd_scr, seqO_lst, seqO_tup, setTg1, bAdd, bSub, cLt, cLe, cGt, cGe, cEq, cNe, cmpS, lenT, lenL, bInt, getT, getLs, idT, idL, omap, List.map_cons, List.map_nil, List.replicate, List.cons_append, List.nil_append, List.append_nil, List.getElem?_cons_zero, List.getElem?_cons_succ, List.set_cons_zero, List.set_cons_succ, List.length_map, List.length_cons, List.length_nil, wipeE, if_true, arr, Option.bind_some, List.reverse_nil, tupL, par2, par3, Nat.zero_add, Nat.reduceAdd, cap0, cap1, cap2, cap3, z3, mn])
      obtain ⟨L, rfl, _⟩ := ints_of' k3
      subst k4
      rw [rangeD_len] at k2 k5
      rw [List.length_map] at k2
      obtain ⟨M, hM, hMe⟩ : ∃ M : List Int, M.length = n ∧ evE cl (.ite (.cmp .eq (.bi .lenset (.cons (.var 4) .nil)) (.var 2)) (.var 4) (.lr1 (.var 2))) [some (.loc 0), some (.int 7), some (.int (n : Int)), none, some (.lst (L.map .int)), some (.int 0), none, none, none] [o', .lst (g.map .int)] = .ok (.lst (M.map .int)) [o', .lst (g.map .int)] := by
        obtain ⟨c, hc⟩ : ∃ c : Int, biD .lenset [.lst (L.map .int)] = some (.int c) := by
          refine ⟨((PyProof.Rows.firstMet (fun i => L.getD i 0) L.length).length : Int), ?_⟩
          show ((intsOf (L.map .int)).bind fun ns => if Nat.ble ns.length 4000 then some (D.int (PyProof.Rows.firstMet (fun i => ns.getD i 0) ns.length).length) else none) = _
          rw [intsOf_ints, Option.bind_some, if_pos (Nat.ble_eq.mpr (by omega))]
        cases hq : c == (n : Int) with
        | true => exact ⟨L, k2, by simp only [evSs, evS, evE, evEs, ok_bind, ok_thn, nx_seq, rt_seq, ok_calm, lift_some, rd_int, rd_bl, rd_tup, rd_lst, rd_rep, rd_scr, seqO_lst, seqO_tup, setTg1, bAdd, bSub, cLt, cLe, cGt, cGe, cEq, cNe, cmpS, lenT, lenL, bInt, getT, getLs, idT, idL, omap, List.map_cons, List.map_nil, List.replicate, List.cons_append, List.nil_append, List.append_nil, List.getElem?_cons_zero, List.getElem?_cons_succ, List.set_cons_zero, List.set_cons_succ, List.length_map, List.length_cons, List.length_nil, wipeE, if_true, arr, Option.bind_some, List.reverse_nil, tupL, par2, par3, Nat.zero_add, Nat.reduceAdd, cap0, cap1, cap2, cap3, hc, hq]⟩
        | false => exact ⟨(List.range n).map fun (i : Nat) => (i : Int), by simp, by simp only [evSs, evS, evE, evEs, ok_bind, ok_thn, nx_seq, rt_seq, ok_calm, lift_some, rd_int, rd_bl, rd_tup, rd_lst, rd_rep, rd_scr, seqO_lst, seqO_tup, setTg1, bAdd, bSub, cLt, cLe, cGt, cGe, cEq, cNe, cmpS, lenT, lenL, bInt, getT, getLs, idT, idL, omap, List.map_cons, List.map_nil, List.replicate, List.cons_append, List.nil_append, List.append_nil, List.getElem?_cons_zero, List.getElem?_cons_succ, List.set_cons_zero, List.set_cons_succ, List.length_map, List.length_cons, List.length_nil, wipeE, if_true, arr, Option.bind_some, List.reverse_nil, tupL, par2, par3, Nat.zero_add, Nat.reduceAdd, cap0, cap1, cap2, cap3, hc, hq, lrn (n := n) (by omega)]; rw [List.map_map]; show R.ok (D.lst (rangeD 0 n)) _ = _; rw [range_map]; rfl⟩
      obtain ⟨t, o5, p1, p2, p3⟩ := t18 (cl := cl) (n := n) (B := B + 2 + n + n) (d := .lst (M.map .int)) (g := g) (L := M) (x5 := some (.int 0)) (x6 := none) hD (by omega) (by omega) k5 (by omega) (by omega) (fun o i hi => by
        show ixD (M.map .int) (i : Int) = _
        rw [ixD_ints (by omega)])
      refine ⟨t, o5, p1, ?_, p3.mono (by omega)⟩
      refine (w_if_nx (s1 := [o3, .lst (g.map .int)]) (env1 := [some (.loc 0), some (.int 7), some (.int (n : Int)), none, some (.lst (M.map .int)), some (.int 0), none, none, none]) (s2 := [o', .lst (g.map .int)]) (by simp only [evSs, evS, evE, evEs, ok_bind, ok_thn, nx_seq, rt_seq, ok_calm, lift_some, rd_int, rd_bl, rd_tup, rd_lst, rd_rep, rd_scr, seqO_lst, seqO_tup, setTg1, bAdd, bSub, cLt, cLe, cGt, cGe, cEq, cNe, cmpS, lenT, lenL, bInt, getT, getLs, idT, idL, omap, List.map_cons, List.map_nil, List.replicate, List.cons_append, List.nil_append, List.append_nil, List.getElem?_cons_zero, List.getElem?_cons_succ, List.set_cons_zero, List.set_cons_succ, List.length_map, List.length_cons, List.length_nil, wipeE, if_true, arr, Option.bind_some, List.reverse_nil, tupL, par2, par3, Nat.zero_add, Nat.reduceAdd, cap0, cap1, cap2, cap3, beq_self_eq_true]) ?_).trans ?_
      · refine (w_asg k1).trans ?_
        simp only [List.set_cons_zero, List.set_cons_succ]
        exact (w_asg hMe).trans w_nil
      · refine (w_skip (s1 := [o', .lst (g.map .int)]) (by simp only [evSs, evS, evE, evEs, ok_bind, ok_thn, nx_seq, rt_seq, ok_calm, lift_some, rd_int, rd_bl, rd_tup, rd_lst, rd_rep, rd_scr, seqO_lst, seqO_tup, setTg1, bAdd, bSub, cLt, cLe, cGt, cGe, cEq, cNe, cmpS, lenT, lenL, bInt, getT, getLs, idT, idL, omap, List.map_cons, List.map_nil, List.replicate, List.cons_append, List.nil_append, List.append_nil, List.getElem?_cons_zero, List.getElem?_cons_succ, List.set_cons_zero, List.set_cons_succ, List.length_map, List.length_cons, List.length_nil, wipeE, if_true, arr, Option.bind_some, List.reverse_nil, tupL, par2, par3, Nat.zero_add, Nat.reduceAdd, cap0, cap1, cap2, cap3]; rfl)).trans ?_
        exact p2
    · have h0' : (w == 0) = false := beq_eq_false_iff_ne.mpr h0w
      rw [w_skip (s1 := [o3, .lst (g.map .int)]) (by simp only [evSs, evS, evE, evEs, ok_bind, ok_thn, nx_seq, rt_seq, ok_calm, lift_some, rd_int, rd_bl, rd_tup, rd_lst, rd_rep, rd_scr, seqO_lst, seqO_tup, setTg1, bAdd, bSub, cLt, cLe, cGt, cGe, cEq, cNe, cmpS, lenT, lenL, bInt, getT, getLs, idT, idL, omap, List.map_cons, List.map_nil, List.replicate, List.cons_append, List.nil_append, List.append_nil, List.getElem?_cons_zero, List.getElem?_cons_succ, List.set_cons_zero, List.set_cons_succ, List.length_map, List.length_cons, List.length_nil, wipeE, if_true, arr, Option.bind_some, List.reverse_nil, tupL, par2, par3, Nat.zero_add, Nat.reduceAdd, cap0, cap1, cap2, cap3, h0'])]
      by_cases h1w : w = 1
      · subst h1w
        obtain ⟨z, o4, z1, z2, z3, z4⟩ := hD (B + 1 + n + 1) ((n : Int) + 1) o3 [.lst (g.map .int)] w4 (by omega) (by omega) (by omega) (by omega) (cs2 g)
        refine ⟨List.replicate n z, o4, by simp, ?_, z4.mono (by omega)⟩
        have hm : binD .mul (.tup [.int z]) (.int (n : Int)) = some (I (List.replicate n z)) := by
          show (if (decide (1 ≤ (n : Int)) && decide ((n : Int) ≤ 1000) && Nat.ble 1 1000 && Nat.blt 0 1) = true then some (D.tup (List.replicate ((n : Int)).toNat [D.int z]).flatten) else none) = _
          rw [decide_eq_true (by omega), decide_eq_true (by omega), if_pos (by rfl), Int.toNat_natCast]
          have : ∀ m : Nat, (List.replicate m [D.int z]).flatten = (List.replicate m z).map D.int := fun m => by
            induction m with
            | zero => rfl
            | succ m ih => rw [List.replicate_succ, List.replicate_succ, List.flatten_cons, List.map_cons, ih]; rfl
          rw [this]
        refine w_if_rt (s1 := [o3, .lst (g.map .int)]) (by simp only [evSs, evS, evE, evEs, ok_bind, ok_thn, nx_seq, rt_seq, ok_calm, lift_some, rd_int, rd_bl, rd_tup, rd_lst, rd_rep, rd_scr, seqO_lst, seqO_tup, setTg1, bAdd, bSub, cLt, cLe, cGt, cGe, cEq, cNe, cmpS, lenT, lenL, bInt, getT, getLs, idT, idL, omap, List.map_cons, List.map_nil, List.replicate, List.cons_append, List.nil_append, List.append_nil, List.getElem?_cons_zero, List.getElem?_cons_succ, List.set_cons_zero, List.set_cons_succ, List.length_map, List.length_cons, List.length_nil, wipeE, if_true, arr, Option.bind_some, List.reverse_nil, tupL, par2, par3, Nat.zero_add, Nat.reduceAdd, cap0, cap1, cap2, cap3, beq_self_eq_true]) ?_
        refine (w_asg (d := .int z) (s1 := [o4, .lst (g.map .int)]) (by simp only [evSs, evS, evE, evEs, ok_bind, ok_thn, nx_seq, rt_seq, ok_calm, lift_some, rd_int, rd_bl, rd_tup, rd_lst, rd_rep, rd_scr, seqO_lst, seqO_tup, setTg1, bAdd, bSub, cLt, cLe, cGt, cGe, cEq, cNe, cmpS, lenT, lenL, bInt, getT, getLs, idT, idL, omap, List.map_cons, List.map_nil, List.replicate, List.cons_append, List.nil_append, List.append_nil, List.getElem?_cons_zero, List.getElem?_cons_succ, List.set_cons_zero, List.set_cons_succ, List.length_map, List.length_cons, List.length_nil, wipeE, if_true, arr, Option.bind_some, List.reverse_nil, tupL, par2, par3, Nat.zero_add, Nat.reduceAdd, cap0, cap1, cap2, cap3, z3])).trans ?_
        simp only [List.set_cons_zero, List.set_cons_succ]
        exact w_ret (by simp only [evSs, evS, evE, evEs, ok_bind, ok_thn, nx_seq, rt_seq, ok_calm, lift_some, rd_int, rd_bl, rd_tup, rd_lst, rd_rep, rd_scr, seqO_lst, seqO_tup, setTg1, bAdd, bSub, cLt, cLe, cGt, cGe, cEq, cNe, cmpS, lenT, lenL, bInt, getT, getLs, idT, idL, omap, List.map_cons, List.map_nil, List.replicate, List.cons_append, List.nil_append, List.append_nil, List.getElem?_cons_zero, List.getElem?_cons_succ, List.set_cons_zero, List.set_cons_succ, List.length_map, List.length_cons, List.length_nil, wipeE, if_true, arr, Option.bind_some, List.reverse_nil, tupL, par2, par3, Nat.zero_add, Nat.reduceAdd, cap0, cap1, cap2, cap3, hm])
      · have h1' : (w == 1) = false := beq_eq_false_iff_ne.mpr h1w
        obtain ⟨t, o5, p1, p2, p3⟩ := t18 (cl := cl) (n := n) (d := .loc 1) (g := g) (L := g) (x5 := some (.int w)) (x6 := none) hD (by omega) (by omega) w4 (by omega) (by omega) gg
        refine ⟨t, o5, p1, ?_, p3.mono (by omega)⟩
        refine (w_skip (s1 := [o3, .lst (g.map .int)]) (by simp only [evSs, evS, evE, evEs, ok_bind, ok_thn, nx_seq, rt_seq, ok_calm, lift_some, rd_int, rd_bl, rd_tup, rd_lst, rd_rep, rd_scr, seqO_lst, seqO_tup, setTg1, bAdd, bSub, cLt, cLe, cGt, cGe, cEq, cNe, cmpS, lenT, lenL, bInt, getT, getLs, idT, idL, omap, List.map_cons, List.map_nil, List.replicate, List.cons_append, List.nil_append, List.append_nil, List.getElem?_cons_zero, List.getElem?_cons_succ, List.set_cons_zero, List.set_cons_succ, List.length_map, List.length_cons, List.length_nil, wipeE, if_true, arr, Option.bind_some, List.reverse_nil, tupL, par2, par3, Nat.zero_add, Nat.reduceAdd, cap0, cap1, cap2, cap3, h1'])).trans ?_
        exact p2
  obtain ⟨t, o', q1, q2, q3⟩ := key
  refine ⟨t, o', by omega, by omega, ?_, q3⟩
  show endF false 1 (evSs cl f18.body [some (.loc 0), some (.int 7), none, none, none, none, none, none, none] [o]) = _
  rw [q2]
  exact end_ext (s := [o']) (e := [.lst (g.map .int)]) (cl_one (clP u) q3) (clean_ints _ _)
end
end K14

set_option Elab.async false
set_option linter.all false
set_option maxRecDepth 100000
set_option maxHeartbeats 4000000
/-! T5: K14, a table changed. -/
namespace K14
open T5 PySem TabM
/-- rows of one length -/
def Rws (n : Nat) (m : Tab) : Prop := m.length = n ∧ ∀ r ∈ m, r.length = n + 1
theorem Rws.of {m : Tab} (S : Sq m) : Rws m.length m := ⟨rfl, fun r hr => by
  obtain ⟨i, hi, e⟩ := List.getElem_of_mem hr
  have := S.row i hi
  rw [List.getD_eq_getElem?_getD, List.getElem?_eq_getElem hi] at this
  rw [← e]
  exact this⟩
theorem Rws.at {n i : Nat} {m : Tab} (h : Rws n m) (hi : i < n) : (m.getD i []).length = n + 1 := by
  have hi' : i < m.length := by rw [h.1]; exact hi
  rw [List.getD_eq_getElem?_getD, List.getElem?_eq_getElem hi']
  exact h.2 _ (List.getElem_mem hi')
theorem Rws.sq {n : Nat} {m : Tab} (h : Rws n m) (h0 : 0 < n) : Sq m := ⟨by rw [h.1]; exact h0, fun i hi => by rw [h.1] at hi ⊢; exact h.at hi⟩
theorem Rws.set {n i : Nat} {m : Tab} {r : List Int} (h : Rws n m) (hr : r.length = n + 1) : Rws n (m.set i r) := ⟨by rw [List.length_set]; exact h.1, fun x hx => by
  rcases List.mem_or_eq_of_mem_set hx with hx | rfl
  · exact h.2 x hx
  · exact hr⟩
def locs (n : Nat) : List D := (List.range n).map fun i => D.loc (i + 1)
theorem loc_at {n i : Nat} (h : i < n) : ixD (locs n) (i : Int) = some (.loc (i + 1)) := by
  unfold locs
  rw [ix_of (by simpa using h)]
  simp
section
variable {k : Nat} {u : List Int} {B : Int} {o : SO} {cl : Calls} {rows : Tab} {n : Nat}
theorem gLoc (R : Rws n rows) {i j : Nat} (hi : i < n) (hj : j ≤ n) : T5.getD (o :: RS rows) (.loc (i + 1)) (.int (j : Int)) = some (.int ((rows.getD i []).getD j 0)) := by
  show (match (o :: RS rows)[i + 1]? with
    | some (.lst ds) => idxD (.lst ds) (.int (j : Int))
    | some (.dic kvs) => (keyOf (.int (j : Int))).bind fun k => look k kvs
    | none => none) = _
  rw [List.getElem?_cons_succ, rs_at (by rw [R.1]; exact hi)]
  show ixD _ _ = _
  rw [ixD_ints (by rw [R.at hi]; omega)]
theorem sLoc (R : Rws n rows) {i j : Nat} {x : Int} (hi : i < n) (hj : j ≤ n) : setD (o :: RS rows) (.loc (i + 1)) (.int (j : Int)) (.int x) = some (o :: RS (rows.set i ((rows.getD i []).set j x))) := by
  rw [set_ix (t := rows.getD i []) (by rw [R.at hi]; omega) (by rw [List.getElem?_cons_succ]; exact rs_at (by rw [R.1]; exact hi)), List.set_cons_succ, rs_set]
theorem pow50 : binD .pow (.int 10) (.int 50) = some (.int (10 ^ 50)) := by
  show (if (decide ((0 : Int) ≤ 50) && decide ((50 : Int) ≤ 1000000) && big64 10) = true then some (D.int (10 ^ (50 : Int).toNat)) else none) = _
  rw [if_pos (by decide +kernel)]
  rfl
theorem clO1 {o : SO} (hP : P u B o) (rows : Tab) : cleanS ((RS rows).length + 1) (RS rows) = true := clRS _ _
/-- one integer more or less -/
theorem b25 (hD : Draws cl 15 (P u)) (hk : ∀ (B : Int) (o : SO) (ds : List D) (r : Sto), P u B o → 0 ≤ B → B ≤ 1000000 → 0 < ds.length → ds.length < 1000000 → cleanS (r.length + 1) r = true → (∀ d ∈ ds, ∀ n, clean n d = true) → ∃ d o', d ∈ ds ∧ cl 16 [.loc 0, .lst ds] noT (o :: r) = .ok d (o' :: r) ∧ P u (B + 1) o')
    (h1 : 0 < n) (hn : n ≤ 7) (R : Rws n rows) (ho : P u B o) (h0 : 0 ≤ B) (hB : B ≤ 900000) {e1 x3 x5 x6 x7 x8 x9 x10 : Option D} :
    ∃ rows' o' y9 y10, Rws n rows' ∧ evSs cl l25_1 [some (.loc 0), e1, some (.lst (locs n)), x3, some (.int (n : Int)), x5, x6, x7, x8, x9, x10] (o :: RS rows) = .nx [some (.loc 0), e1, some (.lst (locs n)), x3, some (.int (n : Int)), x5, x6, x7, x8, y9, y10] (o' :: RS rows') ∧ P u (B + 3) o' := by
  obtain ⟨v, o1, v1, v2, v3, v4⟩ := hD B (n : Int) o (RS rows) ho h0 (by omega) (by omega) (by omega) (clRS _ _)
  obtain ⟨w, o2, w1, w2, w3, w4⟩ := hD (B + 1) ((n : Int) + 1) o1 (RS rows) v4 (by omega) (by omega) (by omega) (by omega) (clRS _ _)
  obtain ⟨i, rfl⟩ : ∃ i : Nat, v = (i : Int) := ⟨v.toNat, by omega⟩
  obtain ⟨j, rfl⟩ : ∃ j : Nat, w = (j : Int) := ⟨w.toNat, by omega⟩
  have hi : i < n := by omega
  have hj : j ≤ n := by omega
  obtain ⟨d, o3, d1, d2, d3⟩ := hk (B + 1 + 1) o2 [.int 1, .int (-1), .int 1, .int 2, .int (10 ^ 50)] (RS rows) w4 (by omega) (by omega) (by simp) (by simp) (clRS _ _) (fun d hd n => by
    simp only [List.mem_cons, List.not_mem_nil, or_false] at hd
    rcases hd with rfl | rfl | rfl | rfl | rfl <;> rfl)
  obtain ⟨z, rfl⟩ : ∃ z, d = .int z := by
    simp only [List.mem_cons, List.not_mem_nil, or_false] at d1
    rcases d1 with rfl | rfl | rfl | rfl | rfl <;> exact ⟨_, rfl⟩
  refine ⟨rows.set i ((rows.getD i []).set j ((rows.getD i []).getD j 0 + z)), o3, some (.int (i : Int)), some (.int (j : Int)), R.set (by rw [List.length_set]; exact R.at hi), ?_, by rw [show B + 3 = B + 1 + 1 + 1 by omega]; exact d3⟩
  unfold l25_1
  refine (w_par (ds := [.int (i : Int), .int (j : Int)]) (s1 := o2 :: RS rows) (by simp only [evSs, evS, evE, evEs, ok_bind, ok_thn, nx_seq, rt_seq, ok_calm, lift_some, rd_int, rd_bl, rd_tup, rd_lst, rd_rep, rd_scr, seqO_lst, seqO_tup, setTg1, bAdd, bSub, cLt, cLe, cGt, cGe, cEq, cNe, cmpS, lenT, lenL, bInt, getT, getLs, idT, idL, omap, List.map_cons, List.map_nil, List.replicate, List.cons_append, List.nil_append, List.append_nil, List.getElem?_cons_zero, List.getElem?_cons_succ, List.set_cons_zero, List.set_cons_succ, List.length_map, List.length_cons, List.length_nil, wipeE, if_true, arr, Option.bind_some, List.reverse_nil, tupL, par2, par3, Nat.zero_add, Nat.reduceAdd, cap0, cap1, cap2, cap3, v3, w3]) par2).trans ?_
  simp only [List.set_cons_zero, List.set_cons_succ]
  have c5 : Nat.ble 5 cap = true := Nat.ble_eq.mpr (by unfold cap; omega)
  have en : (-(1 : Int)) = -1 := rfl
  refine (w_setI (v := .int ((rows.getD i []).getD j 0 + z)) (x := .loc (i + 1)) (y := .int (j : Int)) (s1 := o3 :: RS rows) (s2 := o3 :: RS rows) (s3 := o3 :: RS rows) ?_ ?_ ?_ (sLoc R hi hj)).trans w_nil
  · simp only [evSs, evS, evE, evEs, ok_bind, ok_thn, nx_seq, rt_seq, ok_calm, lift_some, rd_int, rd_bl, rd_tup, rd_lst, rd_rep, rd_scr, seqO_lst, seqO_tup, setTg1, bAdd, bSub, cLt, cLe, cGt, cGe, cEq, cNe, cmpS, lenT, lenL, bInt, getT, getLs, idT, idL, omap, List.map_cons, List.map_nil, List.replicate, List.cons_append, List.nil_append, List.append_nil, List.getElem?_cons_zero, List.getElem?_cons_succ, List.set_cons_zero, List.set_cons_succ, List.length_map, List.length_cons, List.length_nil, wipeE, if_true, arr, Option.bind_some, List.reverse_nil, tupL, par2, par3, Nat.zero_add, Nat.reduceAdd, cap0, cap1, cap2, cap3, loc_at hi, gLoc R hi hj, c5, pow50, en, d2]
  · simp only [evSs, evS, evE, evEs, ok_bind, ok_thn, nx_seq, rt_seq, ok_calm, lift_some, rd_int, rd_bl, rd_tup, rd_lst, rd_rep, rd_scr, seqO_lst, seqO_tup, setTg1, bAdd, bSub, cLt, cLe, cGt, cGe, cEq, cNe, cmpS, lenT, lenL, bInt, getT, getLs, idT, idL, omap, List.map_cons, List.map_nil, List.replicate, List.cons_append, List.nil_append, List.append_nil, List.getElem?_cons_zero, List.getElem?_cons_succ, List.set_cons_zero, List.set_cons_succ, List.length_map, List.length_cons, List.length_nil, wipeE, if_true, arr, Option.bind_some, List.reverse_nil, tupL, par2, par3, Nat.zero_add, Nat.reduceAdd, cap0, cap1, cap2, cap3, loc_at hi]
  · simp only [evSs, evS, evE, evEs, ok_bind, ok_thn, nx_seq, rt_seq, ok_calm, lift_some, rd_int, rd_bl, rd_tup, rd_lst, rd_rep, rd_scr, seqO_lst, seqO_tup, setTg1, bAdd, bSub, cLt, cLe, cGt, cGe, cEq, cNe, cmpS, lenT, lenL, bInt, getT, getLs, idT, idL, omap, List.map_cons, List.map_nil, List.replicate, List.cons_append, List.nil_append, List.append_nil, List.getElem?_cons_zero, List.getElem?_cons_succ, List.set_cons_zero, List.set_cons_succ, List.length_map, List.length_cons, List.length_nil, wipeE, if_true, arr, Option.bind_some, List.reverse_nil, tupL, par2, par3, Nat.zero_add, Nat.reduceAdd, cap0, cap1, cap2, cap3]
theorem e25 (hD1 : Draws (T5.run F (k + 1)) 15 (P u)) (hD : Draws (T5.run F (k + 2)) 15 (P u)) {m : Tab} (S : Sq m) (hl : m.length ≤ 7) (ho : P u B o) (h0 : 0 ≤ B) (hB : B ≤ 800000) :
    ∃ m' o', Sq m' ∧ m'.length = m.length ∧ T5.run F (k + 3) 25 [.loc 0, Tt m] noT [o] = .ok (Tt m') [o'] ∧ P u (B + 20) o' := by
  have hk : ∀ (B : Int) (o : SO) (ds : List D) (r : Sto), P u B o → 0 ≤ B → B ≤ 1000000 → 0 < ds.length → ds.length < 1000000 → cleanS (r.length + 1) r = true → (∀ d ∈ ds, ∀ n, clean n d = true) → ∃ d o', d ∈ ds ∧ T5.run F (k + 2) 16 [.loc 0, .lst ds] noT (o :: r) = .ok d (o' :: r) ∧ P u (B + 1) o' := fun B o ds r a b c d e f g => e16 hD1 a b c d e f g
  have hn := S.pos
  obtain ⟨w, o1, w1, w2, w3, w4⟩ := hD B 8 o [] ho h0 (by omega) (by omega) (by omega) rfl
  rw [run_at F25 rfl rfl rfl]
  generalize T5.run F (k + 2) = cl at hD hk w3 ⊢
  have key : ∃ m' o' e, Rws m.length m' ∧ evSs cl f25.body [some (.loc 0), some (Tt m), none, none, none, none, none, none, none, none, none] [o] = .rt (Tt m') (o' :: e) ∧ P u (B + 20) o' := by
    rw [show evSs cl f25.body [some (.loc 0), some (Tt m), none, none, none, none, none, none, none, none, none] [o] = _ from w_par (ds := [.int (m.length : Int), .int w]) (s1 := [o1]) (by simp only [evSs, evS, evE, evEs, ok_bind, ok_thn, nx_seq, rt_seq, ok_calm, lift_some, rd_int, rd_bl, rd_tup, rd_lst, rd_rep, rd_scr, seqO_lst, seqO_tup, setTg1, bAdd, bSub, cLt, cLe, cGt, cGe, cEq, cNe, cmpS, lenT, lenL, bInt, getT, getLs, idT, idL, omap, List.map_cons, List.map_nil, List.replicate, List.cons_append, List.nil_append, List.append_nil, List.getElem?_cons_zero, List.getElem?_cons_succ, List.set_cons_zero, List.set_cons_succ, List.length_map, List.length_cons, List.length_nil, wipeE, if_true, arr, Option.bind_some, List.reverse_nil, tupL, par2, par3, Nat.zero_add, Nat.reduceAdd, cap0, cap1, cap2, cap3, w3]) par2]
    simp only [List.set_cons_zero, List.set_cons_succ]
    by_cases h0w : w = 0
    · subst h0w
      obtain ⟨v, o2, v1, v2, v3, v4⟩ := hD (B + 1) (m.length : Int) o1 [] w4 (by omega) (by omega) (by omega) (by omega) rfl
      obtain ⟨j, rfl⟩ : ∃ j : Nat, v = (j : Int) := ⟨v.toNat, by omega⟩
      have hj : j ≤ (m.map I).length := by rw [List.length_map]; omega
      refine ⟨m.drop j ++ m.take j, o2, [], ⟨by rw [List.length_append, List.length_drop, List.length_take]; omega, fun r hr => ?_⟩, ?_, v4.mono (by omega)⟩
      · rcases List.mem_append.mp hr with hr | hr
        · exact (Rws.of S).2 r (List.mem_of_mem_drop hr)
        · exact (Rws.of S).2 r (List.mem_of_mem_take hr)
      · refine w_if_rt (s1 := [o1]) (by simp only [evSs, evS, evE, evEs, ok_bind, ok_thn, nx_seq, rt_seq, ok_calm, lift_some, rd_int, rd_bl, rd_tup, rd_lst, rd_rep, rd_scr, seqO_lst, seqO_tup, setTg1, bAdd, bSub, cLt, cLe, cGt, cGe, cEq, cNe, cmpS, lenT, lenL, bInt, getT, getLs, idT, idL, omap, List.map_cons, List.map_nil, List.replicate, List.cons_append, List.nil_append, List.append_nil, List.getElem?_cons_zero, List.getElem?_cons_succ, List.set_cons_zero, List.set_cons_succ, List.length_map, List.length_cons, List.length_nil, wipeE, if_true, arr, Option.bind_some, List.reverse_nil, tupL, par2, par3, Nat.zero_add, Nat.reduceAdd, cap0, cap1, cap2, cap3, beq_self_eq_true]) ?_
        refine (w_asg (d := .int (j : Int)) (s1 := [o2]) (by simp only [evSs, evS, evE, evEs, ok_bind, ok_thn, nx_seq, rt_seq, ok_calm, lift_some, rd_int, rd_bl, rd_tup, rd_lst, rd_rep, rd_scr, seqO_lst, seqO_tup, setTg1, bAdd, bSub, cLt, cLe, cGt, cGe, cEq, cNe, cmpS, lenT, lenL, bInt, getT, getLs, idT, idL, omap, List.map_cons, List.map_nil, List.replicate, List.cons_append, List.nil_append, List.append_nil, List.getElem?_cons_zero, List.getElem?_cons_succ, List.set_cons_zero, List.set_cons_succ, List.length_map, List.length_cons, List.length_nil, wipeE, if_true, arr, Option.bind_some, List.reverse_nil, tupL, par2, par3, Nat.zero_add, Nat.reduceAdd, cap0, cap1, cap2, cap3, v3])).trans ?_
        simp only [List.set_cons_zero, List.set_cons_succ]
        refine w_ret ?_
        simp only [evSs, evS, evE, evEs, ok_bind, ok_thn, nx_seq, rt_seq, ok_calm, lift_some, rd_int, rd_bl, rd_tup, rd_lst, rd_rep, rd_scr, seqO_lst, seqO_tup, setTg1, bAdd, bSub, cLt, cLe, cGt, cGe, cEq, cNe, cmpS, lenT, lenL, bInt, getT, getLs, idT, idL, omap, List.map_cons, List.map_nil, List.replicate, List.cons_append, List.nil_append, List.append_nil, List.getElem?_cons_zero, List.getElem?_cons_succ, List.set_cons_zero, List.set_cons_succ, List.length_map, List.length_cons, List.length_nil, wipeE, if_true, arr, Option.bind_some, List.reverse_nil, tupL, par2, par3, Nat.zero_add, Nat.reduceAdd, cap0, cap1, cap2, cap3, partN, partI, slcT, cutA hj, cutB hj, addT (a := (m.map I).drop j) (b := (m.map I).take j) (by rw [List.length_drop, List.length_take, List.length_map]; unfold cap; omega)]
        rw [← List.map_drop, ← List.map_take, ← List.map_append]
    have h0' : (w == 0) = false := beq_eq_false_iff_ne.mpr h0w
    rw [w_skip (s1 := [o1]) (by simp only [evSs, evS, evE, evEs, ok_bind, ok_thn, nx_seq, rt_seq, ok_calm, lift_some, rd_int, rd_bl, rd_tup, rd_lst, rd_rep, rd_scr, seqO_lst, seqO_tup, setTg1, bAdd, bSub, cLt, cLe, cGt, cGe, cEq, cNe, cmpS, lenT, lenL, bInt, getT, getLs, idT, idL, omap, List.map_cons, List.map_nil, List.replicate, List.cons_append, List.nil_append, List.append_nil, List.getElem?_cons_zero, List.getElem?_cons_succ, List.set_cons_zero, List.set_cons_succ, List.length_map, List.length_cons, List.length_nil, wipeE, if_true, arr, Option.bind_some, List.reverse_nil, tupL, par2, par3, Nat.zero_add, Nat.reduceAdd, cap0, cap1, cap2, cap3, h0'])]
    by_cases h1w : w = 1
    · subst h1w
      refine ⟨m.reverse, o1, [], ⟨by rw [List.length_reverse], fun r hr => (Rws.of S).2 r (List.mem_reverse.mp hr)⟩, ?_, w4.mono (by omega)⟩
      refine w_if_rt (s1 := [o1]) (by simp only [evSs, evS, evE, evEs, ok_bind, ok_thn, nx_seq, rt_seq, ok_calm, lift_some, rd_int, rd_bl, rd_tup, rd_lst, rd_rep, rd_scr, seqO_lst, seqO_tup, setTg1, bAdd, bSub, cLt, cLe, cGt, cGe, cEq, cNe, cmpS, lenT, lenL, bInt, getT, getLs, idT, idL, omap, List.map_cons, List.map_nil, List.replicate, List.cons_append, List.nil_append, List.append_nil, List.getElem?_cons_zero, List.getElem?_cons_succ, List.set_cons_zero, List.set_cons_succ, List.length_map, List.length_cons, List.length_nil, wipeE, if_true, arr, Option.bind_some, List.reverse_nil, tupL, par2, par3, Nat.zero_add, Nat.reduceAdd, cap0, cap1, cap2, cap3, beq_self_eq_true]) (w_ret ?_)
      simp only [evSs, evS, evE, evEs, ok_bind, ok_thn, nx_seq, rt_seq, ok_calm, lift_some, rd_int, rd_bl, rd_tup, rd_lst, rd_rep, rd_scr, seqO_lst, seqO_tup, setTg1, bAdd, bSub, cLt, cLe, cGt, cGe, cEq, cNe, cmpS, lenT, lenL, bInt, getT, getLs, idT, idL, omap, List.map_cons, List.map_nil, List.replicate, List.cons_append, List.nil_append, List.append_nil, List.getElem?_cons_zero, List.getElem?_cons_succ, List.set_cons_zero, List.set_cons_succ, List.length_map, List.length_cons, List.length_nil, wipeE, if_true, arr, Option.bind_some, List.reverse_nil, tupL, par2, par3, Nat.zero_add, Nat.reduceAdd, cap0, cap1, cap2, cap3]
      rw [← List.map_reverse]
    have h1' : (w == 1) = false := beq_eq_false_iff_ne.mpr h1w
    rw [w_skip (s1 := [o1]) (by simp only [evSs, evS, evE, evEs, ok_bind, ok_thn, nx_seq, rt_seq, ok_calm, lift_some, rd_int, rd_bl, rd_tup, rd_lst, rd_rep, rd_scr, seqO_lst, seqO_tup, setTg1, bAdd, bSub, cLt, cLe, cGt, cGe, cEq, cNe, cmpS, lenT, lenL, bInt, getT, getLs, idT, idL, omap, List.map_cons, List.map_nil, List.replicate, List.cons_append, List.nil_append, List.append_nil, List.getElem?_cons_zero, List.getElem?_cons_succ, List.set_cons_zero, List.set_cons_succ, List.length_map, List.length_cons, List.length_nil, wipeE, if_true, arr, Option.bind_some, List.reverse_nil, tupL, par2, par3, Nat.zero_add, Nat.reduceAdd, cap0, cap1, cap2, cap3, h1'])]
    obtain ⟨s', k1, k2⟩ := w_lcg (cl := cl) (own := [8]) (tg := [8]) (e := e25_0) (it := .var 1) (env := [some (.loc 0), some (Tt m), none, none, some (.int (m.length : Int)), some (.int w), none, none, none, none, none]) (s := [o1]) (s1 := [o1]) (x := Tt m) (xs := m.map I) (I := fun j s => s = o1 :: RS (m.take j)) (g := fun i => .loc (i + 1)) (by simp only [evSs, evS, evE, evEs, ok_bind, ok_thn, nx_seq, rt_seq, ok_calm, lift_some, rd_int, rd_bl, rd_tup, rd_lst, rd_rep, rd_scr, seqO_lst, seqO_tup, setTg1, bAdd, bSub, cLt, cLe, cGt, cGe, cEq, cNe, cmpS, lenT, lenL, bInt, getT, getLs, idT, idL, omap, List.map_cons, List.map_nil, List.replicate, List.cons_append, List.nil_append, List.append_nil, List.getElem?_cons_zero, List.getElem?_cons_succ, List.set_cons_zero, List.set_cons_succ, List.length_map, List.length_cons, List.length_nil, wipeE, if_true, arr, Option.bind_some, List.reverse_nil, tupL, par2, par3, Nat.zero_add, Nat.reduceAdd, cap0, cap1, cap2, cap3]) seqO_tup (by rw [List.length_map]; unfold cap; omega) rfl (fun i y hy s q => by
      subst q
      rw [List.getElem?_map] at hy
      by_cases hi : i < m.length
      · rw [List.getElem?_eq_getElem hi] at hy
        cases hy
        have e1 : (RS (m.take i)).length + 1 = i + 1 := by
          unfold RS
          rw [List.length_map, List.length_take]
          omega
        refine ⟨_, o1 :: RS (m.take (i + 1)), setTg1, ?_, rfl⟩
        unfold e25_0
        simp only [evSs, evS, evE, evEs, ok_bind, ok_thn, nx_seq, rt_seq, ok_calm, lift_some, rd_int, rd_bl, rd_tup, rd_lst, rd_rep, rd_scr, seqO_lst, seqO_tup, setTg1, bAdd, bSub, cLt, cLe, cGt, cGe, cEq, cNe, cmpS, lenT, lenL, bInt, getT, getLs, idT, idL, omap, List.map_cons, List.map_nil, List.replicate, List.cons_append, List.nil_append, List.append_nil, List.getElem?_cons_zero, List.getElem?_cons_succ, List.set_cons_zero, List.set_cons_succ, List.length_map, List.length_cons, List.length_nil, wipeE, if_true, arr, Option.bind_some, List.reverse_nil, tupL, par2, par3, Nat.zero_add, Nat.reduceAdd, cap0, cap1, cap2, cap3, listT]
        rw [e1]
        congr 1
        show o1 :: (RS (m.take i) ++ [SO.lst (m[i].map .int)]) = _
        unfold RS
        rw [List.take_add_one, List.getElem?_eq_getElem hi, Option.toList_some, List.map_append]
        rfl
      · rw [List.getElem?_eq_none (by omega)] at hy
        cases hy)
    rw [List.length_map] at k1 k2
    subst k2
    rw [List.take_length] at k1
    rw [w_asg (d := .lst (locs m.length)) k1]
    simp only [List.set_cons_zero, List.set_cons_succ]
    obtain ⟨v, o2, v1, v2, v3, v4⟩ := hD (B + 1) 3 o1 (RS m) w4 (by omega) (by omega) (by omega) (by omega) (clRS _ _)
    obtain ⟨j, rfl⟩ : ∃ j : Nat, v = (j : Int) := ⟨v.toNat, by omega⟩
    have ej : 1 + (j : Int) = ((1 + j : Nat) : Int) := by omega
    refine w_loopr (y := 3) (n := 1 + j) (s1 := o2 :: RS m) (I := fun q env s => ∃ rows o x3 x9 x10, Rws m.length rows ∧ env = [some (.loc 0), some (Tt m), some (.lst (locs m.length)), x3, some (.int (m.length : Int)), some (.int w), none, none, none, x9, x10] ∧ s = o :: RS rows ∧ P u (B + 2 + 3 * (q : Int)) o)
      (P := fun z => ∃ m' o' e, Rws m.length m' ∧ z = .rt (Tt m') (o' :: e) ∧ P u (B + 20) o') (by simp only [evSs, evS, evE, evEs, ok_bind, ok_thn, nx_seq, rt_seq, ok_calm, lift_some, rd_int, rd_bl, rd_tup, rd_lst, rd_rep, rd_scr, seqO_lst, seqO_tup, setTg1, bAdd, bSub, cLt, cLe, cGt, cGe, cEq, cNe, cmpS, lenT, lenL, bInt, getT, getLs, idT, idL, omap, List.map_cons, List.map_nil, List.replicate, List.cons_append, List.nil_append, List.append_nil, List.getElem?_cons_zero, List.getElem?_cons_succ, List.set_cons_zero, List.set_cons_succ, List.length_map, List.length_cons, List.length_nil, wipeE, if_true, arr, Option.bind_some, List.reverse_nil, tupL, par2, par3, Nat.zero_add, Nat.reduceAdd, cap0, cap1, cap2, cap3, v3, ej, okRn (n := 1 + j) (by omega)]; rfl) ⟨m, o2, none, none, none, Rws.of S, rfl, rfl, v4.mono (by omega)⟩ (fun q hq env s ⟨rows, o, x3, x9, x10, r1, r2, r3, r4⟩ => ?_) fun env s ⟨rows, o, x3, x9, x10, r1, r2, r3, r4⟩ => ?_
    · subst r2 r3
      obtain ⟨rows', o', y9, y10, t1, t2, t3⟩ := b25 (x3 := some (.int (q : Int))) (x5 := some (.int w)) (x6 := none) (x7 := none) (x8 := none) (x9 := x9) (x10 := x10) (e1 := some (Tt m)) hD hk hn hl r1 r4 (by omega) (by omega)
      exact ⟨_, _, t2, rows', o', _, _, _, t1, rfl, rfl, by rw [show B + 2 + 3 * ((q + 1 : Nat) : Int) = B + 2 + 3 * (q : Int) + 3 by omega]; exact t3⟩
    · subst r2 r3
      have fin : ∀ (rows : Tab) (o : SO) (x7 x9 x10 : Option D), Rws m.length rows → evSs cl (.cons (.ret (.bi .tuple (.cons (.lc [8] [8] e25_3 (.var 2) (.con (.bl true))) .nil))) .nil) [some (.loc 0), some (Tt m), some (.lst (locs m.length)), x3, some (.int (m.length : Int)), some (.int w), none, x7, none, x9, x10] (o :: RS rows) = .rt (Tt rows) (o :: RS rows) := fun rows o x7 x9 x10 R => by
        obtain ⟨s', k1, k2⟩ := w_lcg (cl := cl) (own := [8]) (tg := [8]) (e := e25_3) (it := .var 2) (env := [some (.loc 0), some (Tt m), some (.lst (locs m.length)), x3, some (.int (m.length : Int)), some (.int w), none, x7, none, x9, x10]) (s := o :: RS rows) (s1 := o :: RS rows) (x := .lst (locs m.length)) (xs := locs m.length) (I := fun j s => s = o :: RS rows) (g := fun i => I (rows.getD i [])) (by simp only [evSs, evS, evE, evEs, ok_bind, ok_thn, nx_seq, rt_seq, ok_calm, lift_some, rd_int, rd_bl, rd_tup, rd_lst, rd_rep, rd_scr, seqO_lst, seqO_tup, setTg1, bAdd, bSub, cLt, cLe, cGt, cGe, cEq, cNe, cmpS, lenT, lenL, bInt, getT, getLs, idT, idL, omap, List.map_cons, List.map_nil, List.replicate, List.cons_append, List.nil_append, List.append_nil, List.getElem?_cons_zero, List.getElem?_cons_succ, List.set_cons_zero, List.set_cons_succ, List.length_map, List.length_cons, List.length_nil, wipeE, if_true, arr, Option.bind_some, List.reverse_nil, tupL, par2, par3, Nat.zero_add, Nat.reduceAdd, cap0, cap1, cap2, cap3]) seqO_lst (by unfold locs; rw [List.length_map, List.length_range]; unfold cap; omega) rfl (fun i y hy s q => by
          subst q
          unfold locs at hy
          rw [List.getElem?_map] at hy
          by_cases hi : i < m.length
          · rw [List.getElem?_range hi] at hy
            cases hy
            refine ⟨_, o :: RS rows, setTg1, ?_, rfl⟩
            have hr : rd (o :: RS rows) (.loc (i + 1)) = .lst ((rows.getD i []).map .int) := by
              show (match (o :: RS rows)[i + 1]? with
                | some (.lst ds) => D.lst ds
                | _ => .loc (i + 1)) = _
              rw [List.getElem?_cons_succ, rs_at (by rw [R.1]; exact hi)]
            unfold e25_3
            simp only [evSs, evS, evE, evEs, ok_bind, ok_thn, nx_seq, rt_seq, ok_calm, lift_some, rd_int, rd_bl, rd_tup, rd_lst, rd_rep, rd_scr, seqO_lst, seqO_tup, setTg1, bAdd, bSub, cLt, cLe, cGt, cGe, cEq, cNe, cmpS, lenT, lenL, bInt, getT, getLs, idT, idL, omap, List.map_cons, List.map_nil, List.replicate, List.cons_append, List.nil_append, List.append_nil, List.getElem?_cons_zero, List.getElem?_cons_succ, List.set_cons_zero, List.set_cons_succ, List.length_map, List.length_cons, List.length_nil, wipeE, if_true, arr, Option.bind_some, List.reverse_nil, tupL, par2, par3, Nat.zero_add, Nat.reduceAdd, cap0, cap1, cap2, cap3, hr]
          · rw [List.getElem?_eq_none (by simpa using hi)] at hy
            cases hy)
        subst k2
        refine w_ret ?_
        rw [evE, evEs, k1]
        have e : (List.range (locs m.length).length).map (fun i => I (rows.getD i [])) = rows.map I := by
          unfold locs
          rw [List.length_map, List.length_range]
          refine List.ext_getElem? fun i => ?_
          rw [List.getElem?_map, List.getElem?_map]
          by_cases hi : i < m.length
          · have hi' : i < rows.length := by rw [R.1]; exact hi
            rw [List.getElem?_range hi, List.getElem?_eq_getElem hi']
            show some (I (rows.getD i [])) = some (I rows[i])
            rw [List.getD_eq_getElem?_getD, List.getElem?_eq_getElem hi']
            rfl
          · have hi' : ¬ i < rows.length := by rw [R.1]; exact hi
            rw [List.getElem?_eq_none (by simpa using hi), List.getElem?_eq_none (by omega)]
            rfl
        rw [e]
        rfl
      by_cases h2w : w = 2
      · subst h2w
        obtain ⟨p, o3, p1, p2, p3, p4⟩ := hD (B + 12) (m.length : Int) o (RS rows) (r4.mono (by omega)) (by omega) (by omega) (by omega) (by omega) (clRS _ _)
        obtain ⟨q, o4, q1, q2, q3, q4⟩ := hD (B + 12 + 1) (m.length : Int) o3 (RS rows) p4 (by omega) (by omega) (by omega) (by omega) (clRS _ _)
        obtain ⟨i, rfl⟩ : ∃ i : Nat, p = (i : Int) := ⟨p.toNat, by omega⟩
        obtain ⟨l, rfl⟩ : ∃ l : Nat, q = (l : Int) := ⟨q.toNat, by omega⟩
        have hi : i < m.length := by omega
        have e2 : ((m.length : Int) + 1 - (1 + (l : Int))).toNat = m.length - l := by omega
        have ok1 : okR (1 + (l : Int)) = true := by have := okRn (n := 1 + l) (by omega); rwa [show ((1 + l : Nat) : Int) = 1 + (l : Int) by omega] at this
        have ok2 : okR ((m.length : Int) + 1) = true := by have := okRn (n := m.length + 1) (by omega); rwa [show ((m.length + 1 : Nat) : Int) = (m.length : Int) + 1 by omega] at this
        have lp : ∃ rows' x7, Rws m.length rows' ∧ evSs cl (.cons (.par [9, 10] (.cons (.call 15 [.inl 0, .inl 1] (.cons (.var 0) (.cons (.var 4) .nil)) .nil) (.cons (.bin .add (.con (.int (1))) (.call 15 [.inl 0, .inl 1] (.cons (.var 0) (.cons (.var 4) .nil)) .nil)) .nil))) (.cons (.loop [7] (.rng2 (.var 10) (.bin .add (.var 4) (.con (.int (1))))) l25_2) .nil)) [some (.loc 0), some (Tt m), some (.lst (locs m.length)), x3, some (.int (m.length : Int)), some (.int 2), none, none, none, x9, x10] (o :: RS rows) = .nx [some (.loc 0), some (Tt m), some (.lst (locs m.length)), x3, some (.int (m.length : Int)), some (.int 2), none, x7, none, some (.int (i : Int)), some (.int (1 + (l : Int)))] (o4 :: RS rows') := by
          rw [w_par (ds := [.int (i : Int), .int (1 + (l : Int))]) (s1 := o4 :: RS rows) (by simp only [evSs, evS, evE, evEs, ok_bind, ok_thn, nx_seq, rt_seq, ok_calm, lift_some, rd_int, rd_bl, rd_tup, rd_lst, rd_rep, rd_scr, seqO_lst, seqO_tup, setTg1, bAdd, bSub, cLt, cLe, cGt, cGe, cEq, cNe, cmpS, lenT, lenL, bInt, getT, getLs, idT, idL, omap, List.map_cons, List.map_nil, List.replicate, List.cons_append, List.nil_append, List.append_nil, List.getElem?_cons_zero, List.getElem?_cons_succ, List.set_cons_zero, List.set_cons_succ, List.length_map, List.length_cons, List.length_nil, wipeE, if_true, arr, Option.bind_some, List.reverse_nil, tupL, par2, par3, Nat.zero_add, Nat.reduceAdd, cap0, cap1, cap2, cap3, p3, q3]) par2]
          simp only [List.set_cons_zero, List.set_cons_succ]
          refine w_loopa (y := 7) (n := m.length - l) (a := 1 + (l : Int)) (s1 := o4 :: RS rows) (I := fun _ env s => ∃ rows' x7, Rws m.length rows' ∧ env = [some (.loc 0), some (Tt m), some (.lst (locs m.length)), x3, some (.int (m.length : Int)), some (.int 2), none, x7, none, some (.int (i : Int)), some (.int (1 + (l : Int)))] ∧ s = o4 :: RS rows')
            (P := fun z => ∃ rows' x7, Rws m.length rows' ∧ z = .nx [some (.loc 0), some (Tt m), some (.lst (locs m.length)), x3, some (.int (m.length : Int)), some (.int 2), none, x7, none, some (.int (i : Int)), some (.int (1 + (l : Int)))] (o4 :: RS rows')) (by simp only [evSs, evS, evE, evEs, ok_bind, ok_thn, nx_seq, rt_seq, ok_calm, lift_some, rd_int, rd_bl, rd_tup, rd_lst, rd_rep, rd_scr, seqO_lst, seqO_tup, setTg1, bAdd, bSub, cLt, cLe, cGt, cGe, cEq, cNe, cmpS, lenT, lenL, bInt, getT, getLs, idT, idL, omap, List.map_cons, List.map_nil, List.replicate, List.cons_append, List.nil_append, List.append_nil, List.getElem?_cons_zero, List.getElem?_cons_succ, List.set_cons_zero, List.set_cons_succ, List.length_map, List.length_cons, List.length_nil, wipeE, if_true, arr, Option.bind_some, List.reverse_nil, tupL, par2, par3, Nat.zero_add, Nat.reduceAdd, cap0, cap1, cap2, cap3, ok1, ok2, Bool.and_self, e2]) ⟨rows, none, r1, rfl, rfl⟩ (fun c hc env s ⟨rows', x7, t1, t2, t3⟩ => ?_) fun env s ⟨rows', x7, t1, t2, t3⟩ => ⟨rows', x7, t1, by subst t2 t3; exact w_nil⟩
          subst t2 t3
          have ec : 1 + (l : Int) + (c : Int) = ((1 + l + c : Nat) : Int) := by omega
          rw [ec]
          have hj : 1 + l + c ≤ m.length := by omega
          refine ⟨_, _, ?_, rows'.set i ((rows'.getD i []).set (1 + l + c) ((rows'.getD i []).getD (1 + l + c) 0 + 1)), some (.int ((1 + l + c : Nat) : Int)), t1.set (by rw [List.length_set]; exact t1.at hi), rfl, rfl⟩
          simp only [List.set_cons_zero, List.set_cons_succ]
          unfold l25_2
          refine (w_setI (v := .int ((rows'.getD i []).getD (1 + l + c) 0 + 1)) (x := .loc (i + 1)) (y := .int ((1 + l + c : Nat) : Int)) (s1 := o4 :: RS rows') (s2 := o4 :: RS rows') (s3 := o4 :: RS rows') ?_ ?_ ?_ (sLoc t1 hi hj)).trans w_nil
          · simp only [evSs, evS, evE, evEs, ok_bind, ok_thn, nx_seq, rt_seq, ok_calm, lift_some, rd_int, rd_bl, rd_tup, rd_lst, rd_rep, rd_scr, seqO_lst, seqO_tup, setTg1, bAdd, bSub, cLt, cLe, cGt, cGe, cEq, cNe, cmpS, lenT, lenL, bInt, getT, getLs, idT, idL, omap, List.map_cons, List.map_nil, List.replicate, List.cons_append, List.nil_append, List.append_nil, List.getElem?_cons_zero, List.getElem?_cons_succ, List.set_cons_zero, List.set_cons_succ, List.length_map, List.length_cons, List.length_nil, wipeE, if_true, arr, Option.bind_some, List.reverse_nil, tupL, par2, par3, Nat.zero_add, Nat.reduceAdd, cap0, cap1, cap2, cap3, loc_at hi, gLoc t1 hi hj]
          · simp only [evSs, evS, evE, evEs, ok_bind, ok_thn, nx_seq, rt_seq, ok_calm, lift_some, rd_int, rd_bl, rd_tup, rd_lst, rd_rep, rd_scr, seqO_lst, seqO_tup, setTg1, bAdd, bSub, cLt, cLe, cGt, cGe, cEq, cNe, cmpS, lenT, lenL, bInt, getT, getLs, idT, idL, omap, List.map_cons, List.map_nil, List.replicate, List.cons_append, List.nil_append, List.append_nil, List.getElem?_cons_zero, List.getElem?_cons_succ, List.set_cons_zero, List.set_cons_succ, List.length_map, List.length_cons, List.length_nil, wipeE, if_true, arr, Option.bind_some, List.reverse_nil, tupL, par2, par3, Nat.zero_add, Nat.reduceAdd, cap0, cap1, cap2, cap3, loc_at hi]
          · simp only [evSs, evS, evE, evEs, ok_bind, ok_thn, nx_seq, rt_seq, ok_calm, lift_some, rd_int, rd_bl, rd_tup, rd_lst, rd_rep, rd_scr, seqO_lst, seqO_tup, setTg1, bAdd, bSub, cLt, cLe, cGt, cGe, cEq, cNe, cmpS, lenT, lenL, bInt, getT, getLs, idT, idL, omap, List.map_cons, List.map_nil, List.replicate, List.cons_append, List.nil_append, List.append_nil, List.getElem?_cons_zero, List.getElem?_cons_succ, List.set_cons_zero, List.set_cons_succ, List.length_map, List.length_cons, List.length_nil, wipeE, if_true, arr, Option.bind_some, List.reverse_nil, tupL, par2, par3, Nat.zero_add, Nat.reduceAdd, cap0, cap1, cap2, cap3]
        obtain ⟨rows', x7, l1, l2⟩ := lp
        refine ⟨rows', o4, RS rows', l1, ?_, q4.mono (by omega)⟩
        refine (w_if_nx (s1 := o :: RS rows) (by simp only [evSs, evS, evE, evEs, ok_bind, ok_thn, nx_seq, rt_seq, ok_calm, lift_some, rd_int, rd_bl, rd_tup, rd_lst, rd_rep, rd_scr, seqO_lst, seqO_tup, setTg1, bAdd, bSub, cLt, cLe, cGt, cGe, cEq, cNe, cmpS, lenT, lenL, bInt, getT, getLs, idT, idL, omap, List.map_cons, List.map_nil, List.replicate, List.cons_append, List.nil_append, List.append_nil, List.getElem?_cons_zero, List.getElem?_cons_succ, List.set_cons_zero, List.set_cons_succ, List.length_map, List.length_cons, List.length_nil, wipeE, if_true, arr, Option.bind_some, List.reverse_nil, tupL, par2, par3, Nat.zero_add, Nat.reduceAdd, cap0, cap1, cap2, cap3, beq_self_eq_true]) l2).trans ?_
        exact fin rows' o4 _ _ _ l1
      · have h2' : (w == 2) = false := beq_eq_false_iff_ne.mpr h2w
        refine ⟨rows, o, RS rows, r1, ?_, r4.mono (by omega)⟩
        refine (w_skip (s1 := o :: RS rows) (by simp only [evSs, evS, evE, evEs, ok_bind, ok_thn, nx_seq, rt_seq, ok_calm, lift_some, rd_int, rd_bl, rd_tup, rd_lst, rd_rep, rd_scr, seqO_lst, seqO_tup, setTg1, bAdd, bSub, cLt, cLe, cGt, cGe, cEq, cNe, cmpS, lenT, lenL, bInt, getT, getLs, idT, idL, omap, List.map_cons, List.map_nil, List.replicate, List.cons_append, List.nil_append, List.append_nil, List.getElem?_cons_zero, List.getElem?_cons_succ, List.set_cons_zero, List.set_cons_succ, List.length_map, List.length_cons, List.length_nil, wipeE, if_true, arr, Option.bind_some, List.reverse_nil, tupL, par2, par3, Nat.zero_add, Nat.reduceAdd, cap0, cap1, cap2, cap3, h2'])).trans ?_
        exact fin rows o _ _ _ r1
  obtain ⟨m', o', e, q1, q2, q3⟩ := key
  refine ⟨m', o', q1.sq hn, q1.1, ?_, q3⟩
  show endF false 1 (evSs cl f25.body [some (.loc 0), some (Tt m), none, none, none, none, none, none, none, none, none] [o]) = _
  rw [q2]
  exact end_ext (s := [o']) (e := e) (cl_one (clP u) q3) (clTt _ m')
end
end K14

set_option Elab.async false
set_option linter.all false
set_option maxRecDepth 100000
set_option maxHeartbeats 4000000
/-! T5: K14, a small table of any integers. -/
namespace K14
open T5 PySem TabM
section
variable {k : Nat} {u : List Int} {B : Int} {o : SO} {cl : Calls}
/-- the feed, the rows so far, other lists -/
def St (o : SO) (M : Tab) (J : List (List Int)) : Sto := o :: .lst (M.map I) :: RS J
theorem clSt2 (M : Tab) (J : List (List Int)) (n : Nat) : cleanS n (SO.lst (M.map I) :: RS J) = true := by
  show (cleanL n (M.map I) && cleanS n (RS J)) = true
  rw [clTt, clRS]
  rfl
theorem rs_end {J : List (List Int)} {r : List Int} : (RS (J ++ [r]))[J.length]? = some (.lst (r.map .int)) := by
  unfold RS
  rw [List.getElem?_map, List.getElem?_append_right (Nat.le_refl _), Nat.sub_self]
  rfl
theorem st_end {M : Tab} {J : List (List Int)} {r : List Int} : (St o M (J ++ [r]))[J.length + 2]? = some (.lst (r.map .int)) := by
  unfold St
  rw [List.getElem?_cons_succ, List.getElem?_cons_succ]
  exact rs_end
theorem st_set {M : Tab} {J : List (List Int)} {r r' : List Int} : (St o M (J ++ [r])).set (J.length + 2) (.lst (r'.map .int)) = St o M (J ++ [r']) := by
  unfold St
  rw [List.set_cons_succ, List.set_cons_succ]
  congr 2
  unfold RS
  rw [List.map_append, List.map_append]
  have : (J.map fun r => SO.lst (r.map D.int)).length = J.length := List.length_map ..
  rw [List.set_append_right _ _ (by rw [this]; exact Nat.le_refl _), this, Nat.sub_self]
  rfl
theorem st_app {M : Tab} {J : List (List Int)} {r : List Int} {x : Int} (h : r.length ≤ 100) : appD (St o M (J ++ [r])) (.loc (J.length + 2)) (.int x) = some (St o M (J ++ [r ++ [x]])) := by
  unfold appD
  simp only
  rw [st_end]
  simp only
  rw [if_pos (show Nat.blt (r.map D.int).length cap = true from Nat.ble_eq.mpr (by rw [List.length_map]; unfold cap; omega))]
  have e : r.map D.int ++ [.int x] = (r ++ [x]).map D.int := by rw [List.map_append]; rfl
  rw [e, st_set]
theorem st_ll {M : Tab} {J : List (List Int)} {r : List Int} : isLL (St o M (J ++ [r])) (.loc (J.length + 2)) = true := by
  unfold isLL
  simp only
  rw [st_end]
theorem st_rd {M : Tab} {J : List (List Int)} {r : List Int} : rd (St o M (J ++ [r])) (.loc (J.length + 2)) = .lst (r.map .int) := by
  unfold rd
  simp only
  rw [st_end]
theorem st_last {M : Tab} {J : List (List Int)} {r : List Int} (h : 0 < r.length) : T5.getD (St o M (J ++ [r])) (.loc (J.length + 2)) (.int (-1)) = some (.int (r.getD (r.length - 1) 0)) := by
  unfold T5.getD
  simp only
  rw [st_end]
  show ixD _ _ = _
  rw [ix_last h]
theorem ixN_last {n : Nat} (h : 0 < n) : L2.ixN n (-1) = some (n - 1) := by
  unfold L2.ixN
  rw [if_neg (by omega), if_pos (by omega)]
  congr 1
  omega
theorem st_setl {M : Tab} {J : List (List Int)} {r : List Int} {x : Int} (h : 0 < r.length) : setD (St o M (J ++ [r])) (.loc (J.length + 2)) (.int (-1)) (.int x) = some (St o M (J ++ [r.set (r.length - 1) x])) := by
  unfold setD
  simp only
  rw [st_end]
  simp only
  rw [List.length_map, ixN_last h, Option.map_some, ← List.map_set, st_set]
theorem st_push {M : Tab} {J : List (List Int)} {r : List Int} : St o M J ++ [.lst (r.map .int)] = St o M (J ++ [r]) := by
  unfold St RS
  rw [List.map_append]
  rfl
theorem st_len {M : Tab} {J : List (List Int)} : (St o M J).length = J.length + 2 := by
  unfold St RS
  simp
theorem st_rows {M : Tab} {J : List (List Int)} {r : List Int} (h : M.length ≤ 100) : appD (St o M J) (.loc 1) (I r) = some (St o (M ++ [r]) J) := by
  show (if Nat.blt (M.map I).length cap = true then some (o :: SO.lst (M.map I ++ [I r]) :: RS J) else none) = _
  rw [if_pos (show Nat.blt (M.map I).length cap = true from Nat.ble_eq.mpr (by rw [List.length_map]; unfold cap; omega))]
  unfold St
  rw [List.map_append]
  rfl
/-- one row -/
theorem b26 (hD : Draws cl 15 (P u)) (hk : ∀ (B : Int) (o : SO) (ds : List D) (r : Sto), P u B o → 0 ≤ B → B ≤ 1000000 → 0 < ds.length → ds.length < 1000000 → cleanS (r.length + 1) r = true → (∀ d ∈ ds, ∀ n, clean n d = true) → ∃ d o', d ∈ ds ∧ cl 16 [.loc 0, .lst ds] noT (o :: r) = .ok d (o' :: r) ∧ P u (B + 1) o')
    {n : Nat} {b : Int} {M : Tab} {J : List (List Int)} (h1 : 0 < n) (hn : n ≤ 3) (hM : M.length ≤ 10) (hR : ∀ r ∈ M, r.length = n + 1) (ho : P u B o) (h0 : 0 ≤ B) (hB : B ≤ 900000) {x1 x5 x6 : Option D} :
    ∃ (r : List Int) (J' : List (List Int)) (o' : SO) (y5 y6 : Option D), r.length = n + 1 ∧ evSs cl l26_1 [some (.loc 0), x1, some (.int (n : Int)), some (.int b), some (.loc 1), x5, x6] (St o M J) = .nx [some (.loc 0), x1, some (.int (n : Int)), some (.int b), some (.loc 1), y5, y6] (St o' (M ++ [r]) J') ∧ P u (B + 6) o' := by
  obtain ⟨v, o1, v1, v2, v3, v4⟩ := hD B 12 o (SO.lst (M.map I) :: RS J) ho h0 (by omega) (by omega) (by omega) (clSt2 M J _)
  have v3 : cl 15 [.loc 0, .int 12] noT (St o M J) = .ok (.int v) (St o1 M J) := v3
  have en : (-(1 : Int)) = -1 := rfl
  have c8 : Nat.ble 8 cap = true := Nat.ble_eq.mpr (by unfold cap; omega)
  obtain ⟨z, hz⟩ : ∃ z : Int, evE cl (.box (.lst (.cons (.ite (.cmp .gt (.call 15 [.inl 0, .inl 1] (.cons (.var 0) (.cons (.con (.int (12))) .nil)) .nil) (.con (.int (0)))) (.con (.int (0))) (.con (.int (1)))) .nil))) [some (.loc 0), x1, some (.int (n : Int)), some (.int b), some (.loc 1), x5, x6] (St o M J) = .ok (.loc (J.length + 2)) (St o1 M (J ++ [[z]])) := by
    by_cases hv : 0 < v
    · refine ⟨0, ?_⟩
      simp only [evSs, evS, evE, evEs, ok_bind, ok_thn, nx_seq, rt_seq, ok_calm, lift_some, rd_int, rd_bl, rd_tup, rd_lst, rd_rep, rd_scr, seqO_lst, seqO_tup, setTg1, bAdd, bSub, cLt, cLe, cGt, cGe, cEq, cNe, cmpS, lenT, lenL, bInt, getT, getLs, idT, idL, omap, List.map_cons, List.map_nil, List.replicate, List.cons_append, List.nil_append, List.append_nil, List.getElem?_cons_zero, List.getElem?_cons_succ, List.set_cons_zero, List.set_cons_succ, List.length_map, List.length_cons, List.length_nil, wipeE, if_true, arr, Option.bind_some, List.reverse_nil, tupL, par2, par3, Nat.zero_add, Nat.reduceAdd, cap0, cap1, cap2, cap3, v3, decide_eq_true hv]
      rw [st_len]
      exact congrArg (R.ok _) (st_push (r := [0]))
    · refine ⟨1, ?_⟩
      simp only [evSs, evS, evE, evEs, ok_bind, ok_thn, nx_seq, rt_seq, ok_calm, lift_some, rd_int, rd_bl, rd_tup, rd_lst, rd_rep, rd_scr, seqO_lst, seqO_tup, setTg1, bAdd, bSub, cLt, cLe, cGt, cGe, cEq, cNe, cmpS, lenT, lenL, bInt, getT, getLs, idT, idL, omap, List.map_cons, List.map_nil, List.replicate, List.cons_append, List.nil_append, List.append_nil, List.getElem?_cons_zero, List.getElem?_cons_succ, List.set_cons_zero, List.set_cons_succ, List.length_map, List.length_cons, List.length_nil, wipeE, if_true, arr, Option.bind_some, List.reverse_nil, tupL, par2, par3, Nat.zero_add, Nat.reduceAdd, cap0, cap1, cap2, cap3, v3, decide_eq_false hv]
      rw [st_len]
      exact congrArg (R.ok _) (st_push (r := [1]))
  refine (fun (h : ∀ q, q = evSs cl l26_1 [some (.loc 0), x1, some (.int (n : Int)), some (.int b), some (.loc 1), x5, x6] (St o M J) → ∃ (r : List Int) (J' : List (List Int)) (o' : SO) (y5 y6 : Option D), r.length = n + 1 ∧ q = .nx [some (.loc 0), x1, some (.int (n : Int)), some (.int b), some (.loc 1), y5, y6] (St o' (M ++ [r]) J') ∧ P u (B + 6) o') => h _ rfl) fun q hq => ?_
  rw [hq]
  unfold l26_1
  rw [w_asg hz]
  simp only [List.set_cons_zero, List.set_cons_succ]
  refine w_loopr (y := 6) (n := n) (s1 := St o1 M (J ++ [[z]])) (I := fun j env s => ∃ (r : List Int) (o2 : SO) (x6 : Option D), r.length = j + 1 ∧ env = [some (.loc 0), x1, some (.int (n : Int)), some (.int b), some (.loc 1), some (.loc (J.length + 2)), x6] ∧ s = St o2 M (J ++ [r]) ∧ P u (B + 1 + j) o2)
    (P := fun q => ∃ (r : List Int) (J' : List (List Int)) (o' : SO) (y5 y6 : Option D), r.length = n + 1 ∧ q = .nx [some (.loc 0), x1, some (.int (n : Int)), some (.int b), some (.loc 1), y5, y6] (St o' (M ++ [r]) J') ∧ P u (B + 6) o') (by simp only [evSs, evS, evE, evEs, ok_bind, ok_thn, nx_seq, rt_seq, ok_calm, lift_some, rd_int, rd_bl, rd_tup, rd_lst, rd_rep, rd_scr, seqO_lst, seqO_tup, setTg1, bAdd, bSub, cLt, cLe, cGt, cGe, cEq, cNe, cmpS, lenT, lenL, bInt, getT, getLs, idT, idL, omap, List.map_cons, List.map_nil, List.replicate, List.cons_append, List.nil_append, List.append_nil, List.getElem?_cons_zero, List.getElem?_cons_succ, List.set_cons_zero, List.set_cons_succ, List.length_map, List.length_cons, List.length_nil, wipeE, if_true, arr, Option.bind_some, List.reverse_nil, tupL, par2, par3, Nat.zero_add, Nat.reduceAdd, cap0, cap1, cap2, cap3, okRn (n := n) (by omega)]; rfl) ⟨[z], o1, x6, rfl, rfl, rfl, v4.mono (by omega)⟩ (fun i hi env s ⟨r, o2, x6, r1, r2, r3, r4⟩ => ?_) fun env s ⟨r, o2, x6, r1, r2, r3, r4⟩ => ?_
  · subst r2 r3
    obtain ⟨d, o3, d1, d2, d3⟩ := hk (B + 1 + i) o2 [.int 0, .int 1, .int 0, .int 1, .int 0, .int 1, .int 2, .int (-1)] (SO.lst (M.map I) :: RS (J ++ [r])) r4 (by omega) (by omega) (by simp) (by simp) (clSt2 M _ _) (fun d hd n => by
      simp only [List.mem_cons, List.not_mem_nil, or_false] at hd
      rcases hd with rfl | rfl | rfl | rfl | rfl | rfl | rfl | rfl <;> rfl)
    have d2 : cl 16 [.loc 0, .lst [.int 0, .int 1, .int 0, .int 1, .int 0, .int 1, .int 2, .int (-1)]] noT (St o2 M (J ++ [r])) = .ok d (St o3 M (J ++ [r])) := d2
    obtain ⟨w, rfl⟩ : ∃ w, d = .int w := by
      simp only [List.mem_cons, List.not_mem_nil, or_false] at d1
      rcases d1 with rfl | rfl | rfl | rfl | rfl | rfl | rfl | rfl <;> exact ⟨_, rfl⟩
    refine ⟨_, _, ?_, r ++ [r.getD (r.length - 1) 0 + w], o3, some (.int (i : Int)), by rw [List.length_append, r1]; rfl, rfl, rfl, by rw [show B + 1 + ((i + 1 : Nat) : Int) = B + 1 + (i : Int) + 1 by omega]; exact d3⟩
    simp only [List.set_cons_zero, List.set_cons_succ]
    unfold l26_0
    refine (w_app (x := .loc (J.length + 2)) (s1 := St o2 M (J ++ [r])) (v := .int (r.getD (r.length - 1) 0 + w)) (s2 := St o3 M (J ++ [r])) (by simp only [evSs, evS, evE, evEs, ok_bind, ok_thn, nx_seq, rt_seq, ok_calm, lift_some, rd_int, rd_bl, rd_tup, rd_lst, rd_rep, rd_scr, seqO_lst, seqO_tup, setTg1, bAdd, bSub, cLt, cLe, cGt, cGe, cEq, cNe, cmpS, lenT, lenL, bInt, getT, getLs, idT, idL, omap, List.map_cons, List.map_nil, List.replicate, List.cons_append, List.nil_append, List.append_nil, List.getElem?_cons_zero, List.getElem?_cons_succ, List.set_cons_zero, List.set_cons_succ, List.length_map, List.length_cons, List.length_nil, wipeE, if_true, arr, Option.bind_some, List.reverse_nil, tupL, par2, par3, Nat.zero_add, Nat.reduceAdd, cap0, cap1, cap2, cap3]) st_ll ?_ (st_app (by omega))).trans w_nil
    simp only [evSs, evS, evE, evEs, ok_bind, ok_thn, nx_seq, rt_seq, ok_calm, lift_some, rd_int, rd_bl, rd_tup, rd_lst, rd_rep, rd_scr, seqO_lst, seqO_tup, setTg1, bAdd, bSub, cLt, cLe, cGt, cGe, cEq, cNe, cmpS, lenT, lenL, bInt, getT, getLs, idT, idL, omap, List.map_cons, List.map_nil, List.replicate, List.cons_append, List.nil_append, List.append_nil, List.getElem?_cons_zero, List.getElem?_cons_succ, List.set_cons_zero, List.set_cons_succ, List.length_map, List.length_cons, List.length_nil, wipeE, if_true, arr, Option.bind_some, List.reverse_nil, tupL, par2, par3, Nat.zero_add, Nat.reduceAdd, cap0, cap1, cap2, cap3, en, st_last (r := r) (by omega), c8, d2]
  · subst r2 r3
    obtain ⟨w, o3, w1, w2, w3, w4⟩ := hD (B + 1 + n) 6 o2 (SO.lst (M.map I) :: RS (J ++ [r])) r4 (by omega) (by omega) (by omega) (by omega) (clSt2 M _ _)
    have w3 : cl 15 [.loc 0, .int 6] noT (St o2 M (J ++ [r])) = .ok (.int w) (St o3 M (J ++ [r])) := w3
    obtain ⟨y, hy⟩ : ∃ y : Int, evE cl (.ite (.cmp .gt (.call 15 [.inl 0, .inl 1] (.cons (.var 0) (.cons (.con (.int (6))) .nil)) .nil) (.con (.int (0)))) (.var 3) (.idx (.var 5) (.neg (.con (.int (1)))))) [some (.loc 0), x1, some (.int (n : Int)), some (.int b), some (.loc 1), some (.loc (J.length + 2)), x6] (St o2 M (J ++ [r])) = .ok (.int y) (St o3 M (J ++ [r])) := by
      by_cases hw : 0 < w
      · exact ⟨b, by simp only [evSs, evS, evE, evEs, ok_bind, ok_thn, nx_seq, rt_seq, ok_calm, lift_some, rd_int, rd_bl, rd_tup, rd_lst, rd_rep, rd_scr, seqO_lst, seqO_tup, setTg1, bAdd, bSub, cLt, cLe, cGt, cGe, cEq, cNe, cmpS, lenT, lenL, bInt, getT, getLs, idT, idL, omap, List.map_cons, List.map_nil, List.replicate, List.cons_append, List.nil_append, List.append_nil, List.getElem?_cons_zero, List.getElem?_cons_succ, List.set_cons_zero, List.set_cons_succ, List.length_map, List.length_cons, List.length_nil, wipeE, if_true, arr, Option.bind_some, List.reverse_nil, tupL, par2, par3, Nat.zero_add, Nat.reduceAdd, cap0, cap1, cap2, cap3, w3, decide_eq_true hw]⟩
      · exact ⟨r.getD (r.length - 1) 0, by simp only [evSs, evS, evE, evEs, ok_bind, ok_thn, nx_seq, rt_seq, ok_calm, lift_some, rd_int, rd_bl, rd_tup, rd_lst, rd_rep, rd_scr, seqO_lst, seqO_tup, setTg1, bAdd, bSub, cLt, cLe, cGt, cGe, cEq, cNe, cmpS, lenT, lenL, bInt, getT, getLs, idT, idL, omap, List.map_cons, List.map_nil, List.replicate, List.cons_append, List.nil_append, List.append_nil, List.getElem?_cons_zero, List.getElem?_cons_succ, List.set_cons_zero, List.set_cons_succ, List.length_map, List.length_cons, List.length_nil, wipeE, if_true, arr, Option.bind_some, List.reverse_nil, tupL, par2, par3, Nat.zero_add, Nat.reduceAdd, cap0, cap1, cap2, cap3, en, w3, decide_eq_false hw, st_last (r := r) (by omega)]⟩
    refine ⟨r.set (r.length - 1) y, J ++ [r.set (r.length - 1) y], o3, some (.loc (J.length + 2)), x6, by rw [List.length_set, r1], ?_, w4.mono (by omega)⟩
    refine (w_setI (x := .loc (J.length + 2)) (y := .int (-1)) (s2 := St o3 M (J ++ [r])) (s3 := St o3 M (J ++ [r])) hy (by simp only [evSs, evS, evE, evEs, ok_bind, ok_thn, nx_seq, rt_seq, ok_calm, lift_some, rd_int, rd_bl, rd_tup, rd_lst, rd_rep, rd_scr, seqO_lst, seqO_tup, setTg1, bAdd, bSub, cLt, cLe, cGt, cGe, cEq, cNe, cmpS, lenT, lenL, bInt, getT, getLs, idT, idL, omap, List.map_cons, List.map_nil, List.replicate, List.cons_append, List.nil_append, List.append_nil, List.getElem?_cons_zero, List.getElem?_cons_succ, List.set_cons_zero, List.set_cons_succ, List.length_map, List.length_cons, List.length_nil, wipeE, if_true, arr, Option.bind_some, List.reverse_nil, tupL, par2, par3, Nat.zero_add, Nat.reduceAdd, cap0, cap1, cap2, cap3]) (by simp only [evSs, evS, evE, evEs, ok_bind, ok_thn, nx_seq, rt_seq, ok_calm, lift_some, rd_int, rd_bl, rd_tup, rd_lst, rd_rep, rd_scr, seqO_lst, seqO_tup, setTg1, bAdd, bSub, cLt, cLe, cGt, cGe, cEq, cNe, cmpS, lenT, lenL, bInt, getT, getLs, idT, idL, omap, List.map_cons, List.map_nil, List.replicate, List.cons_append, List.nil_append, List.append_nil, List.getElem?_cons_zero, List.getElem?_cons_succ, List.set_cons_zero, List.set_cons_succ, List.length_map, List.length_cons, List.length_nil, wipeE, if_true, arr, Option.bind_some, List.reverse_nil, tupL, par2, par3, Nat.zero_add, Nat.reduceAdd, cap0, cap1, cap2, cap3, en]) (st_setl (by omega))).trans ?_
    refine (w_app (x := .loc 1) (s1 := St o3 M (J ++ [r.set (r.length - 1) y])) (v := I (r.set (r.length - 1) y)) (s2 := St o3 M (J ++ [r.set (r.length - 1) y])) (by simp only [evSs, evS, evE, evEs, ok_bind, ok_thn, nx_seq, rt_seq, ok_calm, lift_some, rd_int, rd_bl, rd_tup, rd_lst, rd_rep, rd_scr, seqO_lst, seqO_tup, setTg1, bAdd, bSub, cLt, cLe, cGt, cGe, cEq, cNe, cmpS, lenT, lenL, bInt, getT, getLs, idT, idL, omap, List.map_cons, List.map_nil, List.replicate, List.cons_append, List.nil_append, List.append_nil, List.getElem?_cons_zero, List.getElem?_cons_succ, List.set_cons_zero, List.set_cons_succ, List.length_map, List.length_cons, List.length_nil, wipeE, if_true, arr, Option.bind_some, List.reverse_nil, tupL, par2, par3, Nat.zero_add, Nat.reduceAdd, cap0, cap1, cap2, cap3]) rfl (by simp only [evSs, evS, evE, evEs, ok_bind, ok_thn, nx_seq, rt_seq, ok_calm, lift_some, rd_int, rd_bl, rd_tup, rd_lst, rd_rep, rd_scr, seqO_lst, seqO_tup, setTg1, bAdd, bSub, cLt, cLe, cGt, cGe, cEq, cNe, cmpS, lenT, lenL, bInt, getT, getLs, idT, idL, omap, List.map_cons, List.map_nil, List.replicate, List.cons_append, List.nil_append, List.append_nil, List.getElem?_cons_zero, List.getElem?_cons_succ, List.set_cons_zero, List.set_cons_succ, List.length_map, List.length_cons, List.length_nil, wipeE, if_true, arr, Option.bind_some, List.reverse_nil, tupL, par2, par3, Nat.zero_add, Nat.reduceAdd, cap0, cap1, cap2, cap3, st_rd]) (st_rows (by omega))).trans w_nil
theorem e26 (hD1 : Draws (T5.run F (k + 1)) 15 (P u)) (hD : Draws (T5.run F (k + 2)) 15 (P u)) (ho : P u B o) (h0 : 0 ≤ B) (hB : B ≤ 800000) :
    ∃ m' o', Sq m' ∧ m'.length ≤ 3 ∧ T5.run F (k + 3) 26 [.loc 0] noT [o] = .ok (Tt m') [o'] ∧ P u (B + 20) o' := by
  have hk : ∀ (B : Int) (o : SO) (ds : List D) (r : Sto), P u B o → 0 ≤ B → B ≤ 1000000 → 0 < ds.length → ds.length < 1000000 → cleanS (r.length + 1) r = true → (∀ d ∈ ds, ∀ n, clean n d = true) → ∃ d o', d ∈ ds ∧ T5.run F (k + 2) 16 [.loc 0, .lst ds] noT (o :: r) = .ok d (o' :: r) ∧ P u (B + 1) o' := fun B o ds r a b c d e f g => e16 hD1 a b c d e f g
  obtain ⟨v, o1, v1, v2, v3, v4⟩ := hD B 3 o [] ho h0 (by omega) (by omega) (by omega) rfl
  obtain ⟨b, o2, b1, b2, b3, b4⟩ := hD (B + 1) 3 o1 [] v4 (by omega) (by omega) (by omega) (by omega) rfl
  obtain ⟨n, hn⟩ : ∃ n : Nat, 1 + v = (n : Int) := ⟨(1 + v).toNat, by omega⟩
  rw [run_at F26 rfl rfl rfl]
  generalize T5.run F (k + 2) = cl at hD hk v3 b3 ⊢
  have key : ∃ (m' : Tab) (o' : SO) (e : Sto), Rws n m' ∧ evSs cl f26.body [some (.loc 0), none, none, none, none, none, none] [o] = .rt (Tt m') (o' :: e) ∧ P u (B + 20) o' := by
    rw [show evSs cl f26.body [some (.loc 0), none, none, none, none, none, none] [o] = _ from w_par (ds := [.int (n : Int), .int b, .loc 1]) (s1 := St o2 [] []) (by simp only [evSs, evS, evE, evEs, ok_bind, ok_thn, nx_seq, rt_seq, ok_calm, lift_some, rd_int, rd_bl, rd_tup, rd_lst, rd_rep, rd_scr, seqO_lst, seqO_tup, setTg1, bAdd, bSub, cLt, cLe, cGt, cGe, cEq, cNe, cmpS, lenT, lenL, bInt, getT, getLs, idT, idL, omap, List.map_cons, List.map_nil, List.replicate, List.cons_append, List.nil_append, List.append_nil, List.getElem?_cons_zero, List.getElem?_cons_succ, List.set_cons_zero, List.set_cons_succ, List.length_map, List.length_cons, List.length_nil, wipeE, if_true, arr, Option.bind_some, List.reverse_nil, tupL, par2, par3, Nat.zero_add, Nat.reduceAdd, cap0, cap1, cap2, cap3, v3, b3, hn]; rfl) par3]
    simp only [List.set_cons_zero, List.set_cons_succ]
    refine w_loopr (y := 1) (n := n) (s1 := St o2 [] []) (I := fun j env s => ∃ (M : Tab) (J : List (List Int)) (o : SO) (x1 x5 x6 : Option D), Rws n (M ++ List.replicate (n - j) (List.replicate (n + 1) 0)) ∧ M.length = j ∧ env = [some (.loc 0), x1, some (.int (n : Int)), some (.int b), some (.loc 1), x5, x6] ∧ s = St o M J ∧ P u (B + 2 + 6 * (j : Int)) o)
      (P := fun z => ∃ (m' : Tab) (o' : SO) (e : Sto), Rws n m' ∧ z = .rt (Tt m') (o' :: e) ∧ P u (B + 20) o') (by simp only [evSs, evS, evE, evEs, ok_bind, ok_thn, nx_seq, rt_seq, ok_calm, lift_some, rd_int, rd_bl, rd_tup, rd_lst, rd_rep, rd_scr, seqO_lst, seqO_tup, setTg1, bAdd, bSub, cLt, cLe, cGt, cGe, cEq, cNe, cmpS, lenT, lenL, bInt, getT, getLs, idT, idL, omap, List.map_cons, List.map_nil, List.replicate, List.cons_append, List.nil_append, List.append_nil, List.getElem?_cons_zero, List.getElem?_cons_succ, List.set_cons_zero, List.set_cons_succ, List.length_map, List.length_cons, List.length_nil, wipeE, if_true, arr, Option.bind_some, List.reverse_nil, tupL, par2, par3, Nat.zero_add, Nat.reduceAdd, cap0, cap1, cap2, cap3, okRn (n := n) (by omega)]; rfl) ⟨[], [], o2, none, none, none, ⟨by simp, fun r hr => by
        rw [List.nil_append] at hr
        rw [List.eq_of_mem_replicate hr, List.length_replicate]⟩, rfl, rfl, rfl, b4.mono (by omega)⟩ (fun j hj env s ⟨M, J, o, x1, x5, x6, q1, q2, q3, q4, q5⟩ => ?_) fun env s ⟨M, J, o, x1, x5, x6, q1, q2, q3, q4, q5⟩ => ?_
    · subst q3 q4
      obtain ⟨r, J', o', y5, y6, r1, r2, r3⟩ := b26 (b := b) (M := M) (J := J) (x1 := some (.int (j : Int))) (x5 := x5) (x6 := x6) hD hk (n := n) (by omega) (by omega) (by omega) (fun r hr => q1.2 r (List.mem_append_left _ hr)) q5 (by omega) (by omega)
      refine ⟨_, _, r2, M ++ [r], J', o', _, _, _, ⟨?_, fun x hx => ?_⟩, by simp [q2], rfl, rfl, by rw [show B + 2 + 6 * ((j + 1 : Nat) : Int) = B + 2 + 6 * (j : Int) + 6 by omega]; exact r3⟩
      · rw [List.length_append, List.length_append, List.length_replicate, q2]
        show j + 1 + (n - (j + 1)) = n
        omega
      · rcases List.mem_append.mp hx with hx | hx
        · rcases List.mem_append.mp hx with hx | hx
          · exact q1.2 x (List.mem_append_left _ hx)
          · rw [List.mem_singleton.mp hx]; exact r1
        · rw [List.eq_of_mem_replicate hx, List.length_replicate]
    · subst q3 q4
      rw [Nat.sub_self] at q1
      have q1 : Rws n M := by simpa using q1
      refine ⟨M, o, .lst (M.map I) :: RS J, q1, w_ret ?_, q5.mono (by omega)⟩
      have hr : rd (St o M J) (.loc 1) = .lst (M.map I) := rfl
      simp only [evSs, evS, evE, evEs, ok_bind, ok_thn, nx_seq, rt_seq, ok_calm, lift_some, rd_int, rd_bl, rd_tup, rd_lst, rd_rep, rd_scr, seqO_lst, seqO_tup, setTg1, bAdd, bSub, cLt, cLe, cGt, cGe, cEq, cNe, cmpS, lenT, lenL, bInt, getT, getLs, idT, idL, omap, List.map_cons, List.map_nil, List.replicate, List.cons_append, List.nil_append, List.append_nil, List.getElem?_cons_zero, List.getElem?_cons_succ, List.set_cons_zero, List.set_cons_succ, List.length_map, List.length_cons, List.length_nil, wipeE, if_true, arr, Option.bind_some, List.reverse_nil, tupL, par2, par3, Nat.zero_add, Nat.reduceAdd, cap0, cap1, cap2, cap3, hr]
      rfl
  obtain ⟨m', o', e, q1, q2, q3⟩ := key
  refine ⟨m', o', q1.sq (by omega), by rw [q1.1]; omega, ?_, q3⟩
  show endF false 1 (evSs cl f26.body [some (.loc 0), none, none, none, none, none, none] [o]) = _
  rw [q2]
  exact end_ext (s := [o']) (e := e) (cl_one (clP u) q3) (clTt _ m')
end
end K14

set_option Elab.async false
set_option linter.all false
set_option maxRecDepth 100000
set_option maxHeartbeats 4000000
/-! T5: K14, the law. -/
namespace K14
open T5 PySem TabM
section
variable {k : Nat} {u : List Int} {B : Int} {o : SO} {cl : Calls}
/-- one lap -/
theorem lap (hD1 : ∀ k, Draws (T5.run F (k + 1)) 15 (P u)) (ho : P u B o) (h0 : 0 ≤ B) (hB : B ≤ 700000) {x0 x2 x3 x4 : Option D} :
    ∃ (o' : SO) (y3 y4 : Option D), evSs (T5.run F (k + 5)) l27_1 [x0, some (.loc 0), x2, x3, x4] [o] = .nx [x0, some (.loc 0), x2, y3, y4] [o'] ∧ P u (B + 200) o' := by
  obtain ⟨t, o1, t1, t2, t3, t4⟩ := e18 (k := k + 2) (hD1 _) (hD1 _) ho h0 (by omega)
  have a1 : ∀ s, T5.run F (k + 5) 21 [I t] noT s = .ok (Tt (tbl t)) s := fun s => e21 (k := k + 2) t1 (by omega)
  have S : Sq (tbl t) := ⟨by unfold tbl; rw [List.length_map, List.length_range]; exact t1, fun i hi => by
    unfold tbl at hi ⊢
    rw [List.length_map, List.length_range] at hi ⊢
    rw [List.getD_eq_getElem?_getD, List.getElem?_map, List.getElem?_range hi]
    show ((List.range (t.length + 1)).map _).length = _
    rw [List.length_map, List.length_range]⟩
  have hl : (tbl t).length = t.length := by unfold tbl; rw [List.length_map, List.length_range]
  have a2 : ∀ s (m : Tab), Sq m → m.length ≤ 12 → T5.run F (k + 5) 24 [Tt m] noT s = .ok (.bl true) s := fun s m S h => e24 (k := k) S h
  have a3 : ∀ (B : Int) (o : SO), P u B o → 0 ≤ B → B ≤ 800000 → ∃ m' o', Sq m' ∧ m'.length = (tbl t).length ∧ T5.run F (k + 5) 25 [.loc 0, Tt (tbl t)] noT [o] = .ok (Tt m') [o'] ∧ P u (B + 20) o' := fun B o a b c => e25 (k := k + 2) (hD1 _) (hD1 _) S (by omega) a b c
  have t3 : T5.run F (k + 5) 18 [.loc 0, .int 7] noT [o] = .ok (I t) [o1] := t3
  generalize T5.run F (k + 5) = cl at a1 a2 a3 t3 ⊢
  refine (fun (h : ∀ q, q = evSs cl l27_1 [x0, some (.loc 0), x2, x3, x4] [o] → ∃ (o' : SO) (y3 y4 : Option D), q = .nx [x0, some (.loc 0), x2, y3, y4] [o'] ∧ P u (B + 200) o') => h _ rfl) fun q hq => ?_
  rw [hq]
  unfold l27_1
  rw [w_asg (d := Tt (tbl t)) (s1 := [o1]) (by simp only [evSs, evS, evE, evEs, ok_bind, ok_thn, nx_seq, rt_seq, ok_calm, lift_some, rd_int, rd_bl, rd_tup, rd_lst, rd_rep, rd_scr, seqO_lst, seqO_tup, setTg1, bAdd, bSub, cLt, cLe, cGt, cGe, cEq, cNe, cmpS, lenT, lenL, bInt, getT, getLs, idT, idL, omap, List.map_cons, List.map_nil, List.replicate, List.cons_append, List.nil_append, List.append_nil, List.getElem?_cons_zero, List.getElem?_cons_succ, List.set_cons_zero, List.set_cons_succ, List.length_map, List.length_cons, List.length_nil, wipeE, if_true, arr, Option.bind_some, List.reverse_nil, tupL, par2, par3, Nat.zero_add, Nat.reduceAdd, cap0, cap1, cap2, cap3, t3, a1])]
  simp only [List.set_cons_zero, List.set_cons_succ]
  rw [w_skip (s1 := [o1]) (by simp only [evSs, evS, evE, evEs, ok_bind, ok_thn, nx_seq, rt_seq, ok_calm, lift_some, rd_int, rd_bl, rd_tup, rd_lst, rd_rep, rd_scr, seqO_lst, seqO_tup, setTg1, bAdd, bSub, cLt, cLe, cGt, cGe, cEq, cNe, cmpS, lenT, lenL, bInt, getT, getLs, idT, idL, omap, List.map_cons, List.map_nil, List.replicate, List.cons_append, List.nil_append, List.append_nil, List.getElem?_cons_zero, List.getElem?_cons_succ, List.set_cons_zero, List.set_cons_succ, List.length_map, List.length_cons, List.length_nil, wipeE, if_true, arr, Option.bind_some, List.reverse_nil, tupL, par2, par3, Nat.zero_add, Nat.reduceAdd, cap0, cap1, cap2, cap3, a2 _ _ S (by omega), Bool.not_true])]
  refine w_loopr (y := 4) (n := 6) (s1 := [o1]) (I := fun j env s => ∃ (o : SO) (x4 : Option D), env = [x0, some (.loc 0), x2, some (Tt (tbl t)), x4] ∧ s = [o] ∧ P u (B + 40 + 20 * (j : Int)) o)
    (P := fun q => ∃ (o' : SO) (y3 y4 : Option D), q = .nx [x0, some (.loc 0), x2, y3, y4] [o'] ∧ P u (B + 200) o') (by simp only [evSs, evS, evE, evEs, ok_bind, ok_thn, nx_seq, rt_seq, ok_calm, lift_some, rd_int, rd_bl, rd_tup, rd_lst, rd_rep, rd_scr, seqO_lst, seqO_tup, setTg1, bAdd, bSub, cLt, cLe, cGt, cGe, cEq, cNe, cmpS, lenT, lenL, bInt, getT, getLs, idT, idL, omap, List.map_cons, List.map_nil, List.replicate, List.cons_append, List.nil_append, List.append_nil, List.getElem?_cons_zero, List.getElem?_cons_succ, List.set_cons_zero, List.set_cons_succ, List.length_map, List.length_cons, List.length_nil, wipeE, if_true, arr, Option.bind_some, List.reverse_nil, tupL, par2, par3, Nat.zero_add, Nat.reduceAdd, cap0, cap1, cap2, cap3, show okR 6 = true by decide +kernel]; rfl) ⟨o1, x4, rfl, rfl, by simpa using t4⟩ (fun i hi env s ⟨o, x4, r1, r2, r3⟩ => ?_) fun env s ⟨o, x4, r1, r2, r3⟩ => ⟨o, some (Tt (tbl t)), x4, by subst r1 r2; exact w_nil, r3.mono (by omega)⟩
  subst r1 r2
  obtain ⟨m', o', m1, m2, m3, m4⟩ := a3 (B + 40 + 20 * (i : Int)) o r3 (by omega) (by omega)
  refine ⟨_, _, ?_, o', some (.int (i : Int)), rfl, rfl, by rw [show B + 40 + 20 * ((i + 1 : Nat) : Int) = B + 40 + 20 * (i : Int) + 20 by omega]; exact m4⟩
  simp only [List.set_cons_zero, List.set_cons_succ]
  unfold l27_0
  exact (w_skip (s1 := [o']) (by simp only [evSs, evS, evE, evEs, ok_bind, ok_thn, nx_seq, rt_seq, ok_calm, lift_some, rd_int, rd_bl, rd_tup, rd_lst, rd_rep, rd_scr, seqO_lst, seqO_tup, setTg1, bAdd, bSub, cLt, cLe, cGt, cGe, cEq, cNe, cmpS, lenT, lenL, bInt, getT, getLs, idT, idL, omap, List.map_cons, List.map_nil, List.replicate, List.cons_append, List.nil_append, List.append_nil, List.getElem?_cons_zero, List.getElem?_cons_succ, List.set_cons_zero, List.set_cons_succ, List.length_map, List.length_cons, List.length_nil, wipeE, if_true, arr, Option.bind_some, List.reverse_nil, tupL, par2, par3, Nat.zero_add, Nat.reduceAdd, cap0, cap1, cap2, cap3, m3, a2 _ _ m1 (show m'.length ≤ 12 by omega), Bool.not_true])).trans w_nil
end
theorem e27 (ns : List Int) : ∃ s, T5.run F 10 27 [.scr (ns.map .int)] noT [] = .ok (.bl true) s := by
  obtain ⟨u, o, h1, h2⟩ := @e14 8 ns
  have hD : ∀ k, Draws (T5.run F (k + 1)) 15 (P u) := fun k => dr
  have hlap := fun (B : Int) (o : SO) (x0 x2 x3 x4 : Option D) (ho : P u B o) (h0 : 0 ≤ B) (hB : B ≤ 700000) => lap (k := 4) (x0 := x0) (x2 := x2) (x3 := x3) (x4 := x4) hD ho h0 hB
  have a26 := fun (B : Int) (o : SO) (ho : P u B o) (h0 : 0 ≤ B) (hB : B ≤ 800000) => e26 (k := 6) (hD _) (hD _) ho h0 hB
  have a24 : ∀ s (m : Tab), Sq m → m.length ≤ 12 → T5.run F 9 24 [Tt m] noT s = .ok (.bl true) s := fun s m S h => e24 (k := 4) S h
  refine ⟨[], ?_⟩
  rw [show (10 : Nat) = 9 + 1 from rfl, run_at F27 rfl rfl rfl]
  simp only [Nat.reduceAdd] at h1 hlap a26
  generalize T5.run F 9 = cl at h1 hlap a26 a24 ⊢
  have key : ∃ s, evSs cl f27.body [some (.scr (ns.map .int)), none, none, none, none] [] = .rt (.bl true) s := by
    rw [show evSs cl f27.body [some (.scr (ns.map .int)), none, none, none, none] [] = _ from w_asg (d := .loc 0) (s1 := [o]) (by simp only [evSs, evS, evE, evEs, ok_bind, ok_thn, nx_seq, rt_seq, ok_calm, lift_some, rd_int, rd_bl, rd_tup, rd_lst, rd_rep, rd_scr, seqO_lst, seqO_tup, setTg1, bAdd, bSub, cLt, cLe, cGt, cGe, cEq, cNe, cmpS, lenT, lenL, bInt, getT, getLs, idT, idL, omap, List.map_cons, List.map_nil, List.replicate, List.cons_append, List.nil_append, List.append_nil, List.getElem?_cons_zero, List.getElem?_cons_succ, List.set_cons_zero, List.set_cons_succ, List.length_map, List.length_cons, List.length_nil, wipeE, if_true, arr, Option.bind_some, List.reverse_nil, tupL, par2, par3, Nat.zero_add, Nat.reduceAdd, cap0, cap1, cap2, cap3, h1])]
    simp only [List.set_cons_zero, List.set_cons_succ]
    refine w_loopr (y := 2) (n := 2) (s1 := [o]) (I := fun j env s => ∃ (o : SO) (x2 x3 x4 : Option D), P u (200 * (j : Int)) o ∧ env = [some (.scr (ns.map .int)), some (.loc 0), x2, x3, x4] ∧ s = [o]) (P := fun z => ∃ s, z = .rt (.bl true) s) (by simp only [evSs, evS, evE, evEs, ok_bind, ok_thn, nx_seq, rt_seq, ok_calm, lift_some, rd_int, rd_bl, rd_tup, rd_lst, rd_rep, rd_scr, seqO_lst, seqO_tup, setTg1, bAdd, bSub, cLt, cLe, cGt, cGe, cEq, cNe, cmpS, lenT, lenL, bInt, getT, getLs, idT, idL, omap, List.map_cons, List.map_nil, List.replicate, List.cons_append, List.nil_append, List.append_nil, List.getElem?_cons_zero, List.getElem?_cons_succ, List.set_cons_zero, List.set_cons_succ, List.length_map, List.length_cons, List.length_nil, wipeE, if_true, arr, Option.bind_some, List.reverse_nil, tupL, par2, par3, Nat.zero_add, Nat.reduceAdd, cap0, cap1, cap2, cap3, show okR 2 = true by decide +kernel]; rfl) ⟨o, none, none, none, by simpa using h2, rfl, rfl⟩ (fun i hi env s ⟨o, x2, x3, x4, q1, q2, q3⟩ => ?_) fun env s ⟨o, x2, x3, x4, q1, q2, q3⟩ => ?_
    · subst q2 q3
      obtain ⟨o', y3, y4, r2, r3⟩ := hlap (200 * (i : Int)) o (some (.scr (ns.map .int))) (some (.int (i : Int))) x3 x4 q1 (by omega) (by omega)
      exact ⟨_, [o'], r2, o', _, _, _, by rw [show 200 * ((i + 1 : Nat) : Int) = 200 * (i : Int) + 200 by omega]; exact r3, rfl, rfl⟩
    · subst q2 q3
      obtain ⟨s', k1, o', k2, k3⟩ := w_lcn (cl := cl) (own := [2]) (tg := [2]) (e := .var 2) (c := c27_2) (it := .rng1 (.con (.int (12)))) (env := [some (.scr (ns.map .int)), some (.loc 0), x2, x3, x4]) (s := [o]) (s1 := [o]) (x := .lst (rangeD 0 12)) (xs := rangeD 0 12) (I := fun j s => ∃ o, s = [o] ∧ P u (400 + 20 * (j : Int)) o) (by simp only [evSs, evS, evE, evEs, ok_bind, ok_thn, nx_seq, rt_seq, ok_calm, lift_some, rd_int, rd_bl, rd_tup, rd_lst, rd_rep, rd_scr, seqO_lst, seqO_tup, setTg1, bAdd, bSub, cLt, cLe, cGt, cGe, cEq, cNe, cmpS, lenT, lenL, bInt, getT, getLs, idT, idL, omap, List.map_cons, List.map_nil, List.replicate, List.cons_append, List.nil_append, List.append_nil, List.getElem?_cons_zero, List.getElem?_cons_succ, List.set_cons_zero, List.set_cons_succ, List.length_map, List.length_cons, List.length_nil, wipeE, if_true, arr, Option.bind_some, List.reverse_nil, tupL, par2, par3, Nat.zero_add, Nat.reduceAdd, cap0, cap1, cap2, cap3, show okR 12 = true by decide +kernel]; rfl) seqO_lst ⟨o, rfl, by simpa using q1⟩ (fun i y hy s ⟨o, r1, r2⟩ => by
        subst r1
        obtain ⟨hi, rfl⟩ := range0_at hy
        obtain ⟨m', o', m1, m2, m3, m4⟩ := a26 (400 + 20 * (i : Int)) o r2 (by omega) (by omega)
        refine ⟨_, [o'], setTg1, ?_, o', rfl, by rw [show 400 + 20 * ((i + 1 : Nat) : Int) = 400 + 20 * (i : Int) + 20 by omega]; exact m4⟩
        unfold c27_2
        simp only [evSs, evS, evE, evEs, ok_bind, ok_thn, nx_seq, rt_seq, ok_calm, lift_some, rd_int, rd_bl, rd_tup, rd_lst, rd_rep, rd_scr, seqO_lst, seqO_tup, setTg1, bAdd, bSub, cLt, cLe, cGt, cGe, cEq, cNe, cmpS, lenT, lenL, bInt, getT, getLs, idT, idL, omap, List.map_cons, List.map_nil, List.replicate, List.cons_append, List.nil_append, List.append_nil, List.getElem?_cons_zero, List.getElem?_cons_succ, List.set_cons_zero, List.set_cons_succ, List.length_map, List.length_cons, List.length_nil, wipeE, if_true, arr, Option.bind_some, List.reverse_nil, tupL, par2, par3, Nat.zero_add, Nat.reduceAdd, cap0, cap1, cap2, cap3, m3, a24 _ _ m1 (show m'.length ≤ 12 by omega), Bool.not_true])
      subst k2
      refine ⟨[o'], w_ret ?_⟩
      have en : cmpD .eq (.lst []) (.lst []) = some true := by decide +kernel
      rw [evE, k1]
      simp only [evSs, evS, evE, evEs, ok_bind, ok_thn, nx_seq, rt_seq, ok_calm, lift_some, rd_int, rd_bl, rd_tup, rd_lst, rd_rep, rd_scr, seqO_lst, seqO_tup, setTg1, bAdd, bSub, cLt, cLe, cGt, cGe, cEq, cNe, cmpS, lenT, lenL, bInt, getT, getLs, idT, idL, omap, List.map_cons, List.map_nil, List.replicate, List.cons_append, List.nil_append, List.append_nil, List.getElem?_cons_zero, List.getElem?_cons_succ, List.set_cons_zero, List.set_cons_succ, List.length_map, List.length_cons, List.length_nil, wipeE, if_true, arr, Option.bind_some, List.reverse_nil, tupL, par2, par3, Nat.zero_add, Nat.reduceAdd, cap0, cap1, cap2, cap3, en]
  obtain ⟨s, hs⟩ := key
  show endF false 0 (evSs cl f27.body [some (.scr (ns.map .int)), none, none, none, none] []) = _
  rw [hs]
  rfl
end K14

set_option Elab.async false
set_option linter.all false
set_option maxRecDepth 100000
set_option maxHeartbeats 0
open PySem PySem.W PySem.Calls PyProof.Rows
theorem PySem.Challenge.cw_throwshelves_k14_whole_tables_judged_holds : PySem.Challenge.rw_throwshelves_k14_whole_tables_judged.Holds := by
  w_on; o_law
  refine HandSHeadRun.head_any (r := K14.Rw) (q := view K14.Rw.prog [K14.lawAt]) (H := K14.hk) (ob := K14.ob) (M := 20000) (loose := K14.loose) (d := HandSHeadRun.topDef K14.Rw.prog K14.lawAt) (kwd := []) K14.ob_eq
    (by kernel_rfl) (fun s => by kernel_rfl) K14.runTop (by kernel_rfl) (by kernel_rfl) (by kernel_rfl) (by rfl) (by first | assumption | decide +kernel) (by decide +kernel) ⟨rfl, rfl, rfl, rfl, rfl, by decide +kernel⟩ ?hw ?hc
  case hw => w_witness2
  case hc =>
    refine T5.walk_G (l := PySem.Challenge.rw_throwshelves_k14_whole_tables_judged) (n := 63) (k := 10) (gt := K14.gt) (Ds := K14.ds) (i := 27) (x := "_law_script") rfl (by decide) (by kernel_rfl) ⟨rfl, by decide, by decide⟩ rfl (by kernel_rfl) rfl (by kernel_rfl) ?_ ?_
    · intro w mg h Y G
      obtain ⟨K, KX, c⟩ := Y
      exact T5.top_F KX G c K14.bok K14.scs rfl K14.enl K14.eok K14.ebs K14.sup rfl K14.fok K14.lok
    · intro ns _ _
      rw [K14.F_eq]
      exact K14.e27 ns
