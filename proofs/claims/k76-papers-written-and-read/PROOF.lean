import PyProof.Rows.All
import Wide.All
import OpenK.AllK
import Wide.FinOn
import KE.KStateDown
import Lean
import HandS.Head3
import HandS.ForMost
import HandS.TupMul
import HandS.TupAny
import HandS.TupLe
import HandS.Deep
import KE.LtSeq
import KE.DataFind
import HandS.Style
import KE.SortKeyHeap
import HandS.SortKw
import KE.KDictKeyed
import HandS.Dict
import HandS.Keys
import HandS.EndTab
import HandS.Nested
import HandS.Words
import HandS.Iter
import KE.DataMinKey
import KE.KDictPairs
import KE.KDictList
import KE.KDictWalk
import HandS.TupLen
import HandS.Call
import KE.SortData
import HandS.Text
import KE.IntText
import HandS.Codes
import KE.IntTextText
import PyProof.Rows.StrIntSpec
import HandS.HeadHook1
import HandS.HeadHook2
import HandS.Wide
import HandS.Gcd
import HandS.IsInst
import HandS.RaiseMore
import KE.DataMinMax
import HandS.DictComp
import HandS.Flow
import HandS.Zip
import HandS.TryOnly
import HandS.Conv
import HandS.CallLocal
import HandS.FStr
import HandS.Strs
import HandS.Defaults
import HandS.HeadEnd
import HandS.Head0
import HandS.Head1
import HandS.Head2
import PySem.Challenge.RW_idealstold_k76_papers_written_and_read

section
set_option Elab.async false
set_option linter.all false
set_option maxRecDepth 100000
set_option maxHeartbeats 4000000
/-! rules that the hand layer lacks: t[::-1], t * 1, sum of a tuple, t > u -/
namespace Dl
open PySem PySem.Spec PyProof.Rows L2 HT

/-! ### t[::-1] of a tuple -/
section
variable {prog : Program} {w : World} {A : Around} {E : Value → Shared → Prop} {s : Shared}
theorem sliceApplied_rev {sl : Addr} {vl vu vs : Value} {n : Nat} {Q : Int × Int × Nat → Shared → Prop} (hs : s.heap.IsSliceOf sl vl vu vs) (pl : IsPart vl none) (pu : IsPart vu none) (ps : IsPart vs (some (-1)))
    (h : Q ((n : Int) - 1, -1, n) s) : wpAny (model prog w) A (Builtin.Slice.sliceApplied (.ref sl) (pure (n : Int))) Q E s := by
  obtain ⟨os, hos, hcs, hds⟩ := id hs
  unfold Builtin.Slice.sliceApplied Builtin.Slice.sliceFields
  refine wpAny_bind (wpAny_bind (wpAny_field hos hds (x := vl) rfl (wpAny_bind (wpAny_field hos hds (x := vu) rfl (wpAny_bind (wpAny_field hos hds (x := vs) rfl (wpAny_pure ?_)))))))
  refine wpAny_bind (slicePart_ ps ?_)
  show wpAny _ _ (if ((-1 : Int) == 0) = true then _ else _) _ _ s
  rw [if_neg (by decide)]
  refine wpAny_bind (slicePart_ pl (wpAny_bind (slicePart_ pu (wpAny_bind (wpAny_pure ?_)))))
  have e : Builtin.Slice.slicePlaces ((n : Int) - 1) (-1) (-1) = n := by
    unfold Builtin.Slice.slicePlaces
    simp only [show ¬ ((-1 : Int) > 0) by decide, if_false, show (- (-1 : Int)) = 1 by decide, Int.ediv_one]
    split <;> omega
  show wpAny _ _ (pure ((n : Int) - 1, (-1 : Int), Builtin.Slice.slicePlaces ((n : Int) - 1) (-1) (-1))) _ _ s
  rw [e]
  exact wpAny_pure h
theorem fm_congr {α β : Type} {f g : α → Option β} : ∀ l : List α, (∀ x ∈ l, f x = g x) → l.filterMap f = l.filterMap g
  | [], _ => rfl
  | a :: l, h => by rw [List.filterMap_cons, List.filterMap_cons, h a List.mem_cons_self, fm_congr l fun x hx => h x (List.mem_cons_of_mem _ hx)]
theorem pick_rev (items : Array Value) : ((List.range items.size).filterMap fun (k : Nat) => items[(((items.size : Int) - 1) + (k : Int) * (-1)).toNat]?).toArray = items.toList.reverse.toArray := by
  have e : ((List.range items.size).filterMap fun (k : Nat) => items[(((items.size : Int) - 1) + (k : Int) * (-1)).toNat]?) = ((List.range items.size).map fun k => items.size - 1 - k).filterMap (items[·]?) := by
    rw [List.filterMap_map]
    refine fm_congr _ fun k hk => ?_
    have := List.mem_range.mp hk
    show items[(((items.size : Int) - 1) + (k : Int) * (-1)).toNat]? = items[items.size - 1 - k]?
    rw [show (((items.size : Int) - 1) + (k : Int) * (-1)).toNat = items.size - 1 - k by omega]
  rw [e, PySem.W.krv_range, List.filterMap_reverse, PySem.W.krv_all]
theorem getItem_tuple_rev {t sl : Addr} {items : Array Value} {vl vu vs : Value} {Q : Value → Shared → Prop} (ht : IsTup s.heap t items) (hs : s.heap.IsSliceOf sl vl vu vs) (pl : IsPart vl none) (pu : IsPart vu none) (ps : IsPart vs (some (-1)))
    (h : Q (.ref s.heap.objs.size) { s with heap := s.heap.push { cls := .type "tuple", data := .seq items.toList.reverse.toArray } })
    (hsz : items.size ≤ sizeLine) : wpAny (model prog w) A (getItem (.ref t) (.ref sl)) Q E s := by
  have htake : sizeOk (.seq items.toList.reverse.toArray) := by
    show items.toList.reverse.toArray.size ≤ sizeLine
    rw [List.size_toArray, List.length_reverse, Array.length_toList]
    exact hsz
  obtain ⟨os, hos, hcs, hds⟩ := id hs
  have hTs : s.TypeIs (.ref sl) "slice" := ⟨os, hos, hcs⟩
  unfold getItem
  try with_reducible refine wpAny_holding ?_
  first | refine wpAny_bind (wpAny_pure ?_) | skip
  refine wpAny_bind (wpAny_sequenceKey ht.typeIs (by decide) ?_)
  refine wpAny_bind (wpAny_callSpecial?_slot (name := Str.ofString "__getitem__") ht.typeIs PyProof.Rows.slot_tuple_getitem
    (wpAny_call_entry PyProof.Rows.slot_tuple_getitem ht.typeIs entry_tuple_getitem ?_ (args_tuple_getitem _ _)))
  show wpAny _ _ (Builtin.Tuple.tupleItemsOf (.ref t) >>= _) _ _ s
  refine wpAny_bind (tupleItemsOf_ ht ?_)
  refine wpAny_bind (wpAny_typeOf hTs ?_)
  rw [if_pos (by decide)]
  refine wpAny_bind (sliceApplied_rev hs pl pu ps ?_)
  have hno : ¬ ((((items.size : Int) - 1) == 0 && (-1 : Int) == 1 && items.size == items.size) = true) := by
    intro q
    rw [Bool.and_eq_true, Bool.and_eq_true] at q
    exact absurd q.1.2 (by decide)
  show wpAny _ _ (if (((items.size : Int) - 1) == 0 && (-1 : Int) == 1 && items.size == items.size) = true then _ else _) _ _ s
  rw [if_neg hno, pick_rev]
  first
    | exact wpAny_bind (m := Builtin.Tuple.tupleExact _) (wpAny_newObj_type (wpAny_pure ⟨_, rfl, wpAny_pure h⟩) htake)
    | exact wpAny_bind (m := Builtin.Tuple.tupleExact _) (wpAny_newObj_type (wpAny_bind (wpAny_pure (wpAny_pure ⟨_, rfl, wpAny_pure h⟩))) htake)
    | exact wpAny_bind (wpAny_bind (m := Builtin.Tuple.tupleExact _) (wpAny_newObj_type (wpAny_pure (wpAny_pure ⟨_, rfl, wpAny_pure h⟩)) htake))
    | exact wpAny_bind (wpAny_bind (m := Builtin.Tuple.tupleExact _) (wpAny_newObj_type (wpAny_pure ⟨_, rfl, wpAny_pure h⟩) htake))
/-! ### sum of a tuple -/
theorem sum_rawT {l : Addr} {its : List Value} {ns : List Int} {Q : Value → Shared → Prop} (hh : A.handled = none) (hl : s.heap.IsTuple l its.toArray) (hi : IntsAre its ns)
    (h : ∀ h' tk t', (∀ b o, s.heap.get? b = some o → h'.get? b = some o) → Q (.int ns.sum t') { s with heap := h', toks := tk }) : wpAny (model prog w) A (call (.builtin "sum") [.ref l]) Q E s := by
  obtain ⟨xs, e⟩ := hi.allInts.items
  have hn : numsOf (intItems xs).toList = ns := by rw [← e]; exact hi.numsOf
  rw [nums_intItems] at hn
  rw [e] at hl
  have hlt : l < s.heap.objs.size := by obtain ⟨_, e, _⟩ := hl; exact Heap.lt_size e
  have kp : ∀ b o, s.heap.get? b = some o → (s.heap.push { cls := .type "tuple_iterator", data := .fields #[.ref l, .int 0 0] }).get? b = some o := fun b o e => Heap.get?_push_of_some _ e
  refine call_sum_walkG (wpAny_pyIter_tuple hl ?_)
  refine ⟨_, [s.heap.objs.size, l], [s.heap.objs.size], _, _, _, numAt xs, rfl, Walks.tuple (A := A.in1) hh s.heap.objs.size l (Nat.ne_of_lt hlt) (intItems xs), ⟨⟨_, Heap.get?_push_size _ rfl, rfl, rfl⟩, ?_⟩, fun b hb => ?_, (fun _ _ => intItems_at), fun h' tk t' hk => ?_⟩
  · obtain ⟨o, e1, e2⟩ := hl
    exact ⟨o, kp _ _ e1, e2⟩
  · show b < (s.heap.push _).objs.size
    rw [Heap.size_push]
    rcases List.mem_cons.mp hb with rfl | hb
    · exact Nat.lt_succ_self _
    · rcases List.mem_cons.mp hb with rfl | hb
      · exact Nat.lt_succ_of_lt hlt
      · cases hb
  · have := h h' tk t' fun b o e => hk b o (by simp; exact Nat.ne_of_lt (Heap.lt_size e)) (kp _ _ e)
    rw [← hn] at this
    simpa [preSum_eq, intItems, List.take_of_length_le] using this
/-! ### t * 1 -/
theorem tuple_mul1 (l : Addr) (items : Array Value) (n : Nat) (dd : Option Addr) (sl : Array (Option Value)) (u : Tok) :
    Meets (Builtin.«tuple.__mul__» ⟨[.ref l, .int 1 u], []⟩) (fun _ R s => s.heap.get? l = some { cls := .type "tuple", dict := dd, data := .seq items n, slots := sl } ∧
      R (.ok (.ret (Value.ref l))) s) :=
  .of_wp fun prog w A R s h => by
    obtain ⟨hp, g, d, tk, os⟩ := s
    obtain ⟨hl, h⟩ := h
    have f1 := AutoSeq1.idx_int
    have c1 : (items.isEmpty || (1 : Int) == 1) = true := by simp
    wp_walk using wpAny_loadPart' hl
    repeat (first
      | (refine wpAny_ite_false (decide_eq_false (by decide)) ?_; wp_walk using wpAny_loadPart' hl)
      | (refine wpAny_ite_true (decide_eq_true c1) ?_; wp_walk using wpAny_loadPart' hl))
    exact ⟨_, rfl, h⟩
end
section
variable {X : Cx}
def tRevT (K : PySem.W.Frag) (te : TE) : TE := fun σ H Q => te σ H fun x H1 => ∃ a xs, x = .ref a ∧ SqT K H1 a xs ∧ ∀ p, H1 p = none → Q (.ref p) (upd H1 p (.tup xs.reverse))
def rRepT1 (K : PySem.W.Frag) : R2 := fun x y H Q => ∃ l xs, x = .ref l ∧ y = .int 1 ∧ SqT K H l xs ∧ Q (.ref l) H
theorem op_repT1 : OpR X (binaryOp .Mult) (rRepT1 X.K) := by
  intro pins s σ H x y v u Q I rx ry h
  obtain ⟨l, xs, rfl, rfl, hT, q⟩ := h
  cases rx
  obtain ⟨t, rfl⟩ := ry
  obtain ⟨its, r, ⟨⟨cls, dd, data, sl⟩, ho, hc, n, hd⟩, hs⟩ := I.tuple hT
  simp only at hc hd
  subst hc hd
  refine wpAny_binaryOp_repeat_ref (T := "tuple") (U := "int") (by decide) ⟨_, ho, rfl⟩ (fun s' => typeIs_int s' 1 t) noFill_tuple_mul F.fills_int_mul F.slot_int_rmul repeat_tuple F.slot_int_index.lookup
    (call_meets F.slot_int_rmul (typeIs_int s 1 t) F.entry_int_rmul (F.args_int_rmul_2 _ _) (int_rmul_tuple 1 t l its.toArray n dd sl)
      ⟨ho, rfl, ⟨_, ho, rfl⟩, call_meets F.slot_tuple_mul ⟨_, ho, rfl⟩ F.entry_tuple_mul (F.args_tuple_mul_2 _ _) (tuple_mul1 l its.toArray n dd sl t) ⟨ho, ?_⟩⟩)
  exact ⟨.ref l, H, I, rfl, q⟩
def rSumT (K : PySem.W.Frag) : List V → Hp → VK → Prop := fun vs H Q => ∃ (a : Addr) (ns : List Int), vs = [V.ref a] ∧ SqT K H a (ns.map V.int) ∧ Q (.int ns.sum) H
theorem cr_sumT (hc : X.calm = true) : CallR X (.builtin "sum") (rSumT X.K) := by
  intro pins s σ H vs us Q I r h
  obtain ⟨a, ns, rfl, hs, q⟩ := h
  obtain ⟨its, rv, hl, _⟩ := I.tuple hs
  rw [Vals.ref1 r]
  exact sum_rawT (I.ok.hd hc) hl rv.ints fun h' tk t' hk => ⟨.int _, H, I.kept hk, ⟨_, rfl⟩, q⟩
/-- lexicographic order of lists of ints -/
def lexC : List Int → List Int → Ordering
  | [], [] => .eq
  | [], _ :: _ => .lt
  | _ :: _, [] => .gt
  | x :: xs, y :: ys => if x < y then .lt else if y < x then .gt else lexC xs ys
theorem lexAt_gt (ns ms : List Int) : ∀ (k i : Nat), k + i = min ns.length ms.length →
    Ob.lexAt (fun j => decide (ns.getD j 0 = ms.getD j 0)) (fun j => decide (ms.getD j 0 < ns.getD j 0)) (decide (ns.length > ms.length)) i k = (lexC (ns.drop i) (ms.drop i) == .gt)
  | 0, i, h => by
    rw [Ob.lexAt_zero]
    by_cases h1 : ns.length > ms.length
    · rw [decide_eq_true h1]
      have e : i = ms.length := by omega
      rw [e, List.drop_length]
      cases q : ns.drop ms.length with
      | nil => have := List.drop_eq_nil_iff.mp q; omega
      | cons a b => rfl
    · rw [decide_eq_false h1]
      have e : i = ns.length := by omega
      rw [e, List.drop_length]
      cases q : ms.drop ns.length with
      | nil => rfl
      | cons a b => rfl
  | k + 1, i, h => by
    have h1 : i < ns.length := by omega
    have h2 : i < ms.length := by omega
    rw [Ob.lexAt_succ, List.drop_eq_getElem_cons h1, List.drop_eq_getElem_cons h2]
    have g1 : ns.getD i 0 = ns[i] := by simp [h1]
    have g2 : ms.getD i 0 = ms[i] := by simp [h2]
    simp only [g1, g2]
    by_cases he : ns[i] = ms[i]
    · simp only [he, decide_true, if_true]
      rw [lexAt_gt ns ms k (i + 1) (by omega)]
      simp [lexC]
    · simp only [he, decide_false, Bool.false_eq_true, if_false]
      unfold lexC
      by_cases hl : ns[i] < ms[i]
      · have : ¬ ms[i] < ns[i] := by omega
        simp [hl, this]
      · have : ms[i] < ns[i] := by omega
        simp [hl, this]
theorem lexAt_lt (ns ms : List Int) : ∀ (k i : Nat), k + i = min ns.length ms.length →
    Ob.lexAt (fun j => decide (ns.getD j 0 = ms.getD j 0)) (fun j => decide (ns.getD j 0 < ms.getD j 0)) (decide (ns.length < ms.length)) i k = (lexC (ns.drop i) (ms.drop i) == .lt)
  | 0, i, h => by
    rw [Ob.lexAt_zero]
    by_cases h1 : ns.length < ms.length
    · rw [decide_eq_true h1]
      have e : i = ns.length := by omega
      rw [e, List.drop_length]
      cases q : ms.drop ns.length with
      | nil => have := List.drop_eq_nil_iff.mp q; omega
      | cons a b => rfl
    · rw [decide_eq_false h1]
      have e : i = ms.length := by omega
      rw [e, List.drop_length]
      cases q : ns.drop ms.length with
      | nil => rfl
      | cons a b => rfl
  | k + 1, i, h => by
    have h1 : i < ns.length := by omega
    have h2 : i < ms.length := by omega
    rw [Ob.lexAt_succ, List.drop_eq_getElem_cons h1, List.drop_eq_getElem_cons h2]
    have g1 : ns.getD i 0 = ns[i] := by simp [h1]
    have g2 : ms.getD i 0 = ms[i] := by simp [h2]
    simp only [g1, g2]
    by_cases he : ns[i] = ms[i]
    · simp only [he, decide_true, if_true]
      rw [lexAt_lt ns ms k (i + 1) (by omega)]
      simp [lexC]
    · simp only [he, decide_false, Bool.false_eq_true, if_false]
      unfold lexC
      by_cases hl : ns[i] < ms[i]
      · simp [hl]
      · have : ms[i] < ns[i] := by omega
        simp [hl, this]
def rGtT (K : PySem.W.Frag) : R2 := fun x y H Q => ∃ (a b : Addr) (ns ms : List Int), x = .ref a ∧ y = .ref b ∧ SqT K H a (ns.map V.int) ∧ SqT K H b (ms.map V.int) ∧ Q (.bl (lexC ns ms == .gt)) H
def rLtU (K : PySem.W.Frag) : R2 := fun x y H Q => ∃ (a b : Addr) (ns ms : List Int), x = .ref a ∧ y = .ref b ∧ SqT K H a (ns.map V.int) ∧ SqT K H b (ms.map V.int) ∧ Q (.bl (lexC ns ms == .lt)) H
theorem op_gtT (hu : X.A.units < cLine) : OpR X (compareOp .Gt) (rGtT X.K) := by
  intro pins s σ H x y v u Q I rx ry h
  obtain ⟨a, b, ns, ms, rfl, rfl, ha, hb, q⟩ := h
  cases rx
  cases ry
  obtain ⟨its, r1, p1, _⟩ := I.tuple ha
  obtain ⟨its2, r2, p2, _⟩ := I.tuple hb
  have i1 : IntsAre its ns := Vals.ints r1
  have i2 : IntsAre its2 ms := Vals.ints r2
  have e1 : its.toArray.size = ns.length := by rw [List.size_toArray]; exact i1.length
  have e2 : its2.toArray.size = ms.length := by rw [List.size_toArray]; exact i2.length
  have at1 : ∀ j (h1 : j < its.toArray.size), ∃ t, its.toArray[j] = .int (ns.getD j 0) t := fun j h1 => PyProof.Rows.IntsAre.int_at i1 _ _ (by simp at h1; simp [h1])
  have at2 : ∀ j (h1 : j < its2.toArray.size), ∃ t, its2.toArray[j] = .int (ms.getD j 0) t := fun j h1 => PyProof.Rows.IntsAre.int_at i2 _ _ (by simp at h1; simp [h1])
  have R := Ob.RcOp.tuples_gt (A := X.A) (s := s) (e := fun j => decide (ns.getD j 0 = ms.getD j 0)) (r := fun j => decide (ms.getD j 0 < ns.getD j 0)) p1 p2 hu (fun j h1 h2 => by
    obtain ⟨t, et⟩ := at1 j h1
    obtain ⟨t', et'⟩ := at2 j h2
    rw [et, et']
    have z : (ns.getD j 0 == ms.getD j 0) = decide (ns.getD j 0 = ms.getD j 0) := by
      by_cases q : ns.getD j 0 = ms.getD j 0
      · rw [decide_eq_true q]; exact beq_iff_eq.mpr q
      · rw [decide_eq_false q]; exact beq_eq_false_iff_ne.mpr q
    rw [← z]
    exact SeqAt.EqAt.int_int _ _ _ _) (fun j h1 h2 _ => by
    obtain ⟨t, et⟩ := at1 j h1
    obtain ⟨t', et'⟩ := at2 j h2
    rw [et, et']
    exact Ob.RcOp.gt_int _ _ _ _)
  rw [e1, e2, lexAt_gt ns ms _ 0 (by omega)] at R
  have z : wpAny (model X.prog X.w) X.A (compareOp .Gt (.ref a) (.ref b)) (EP X pins σ Q) X.xe s := R X.prog X.w X.xe (EP X pins σ Q) ⟨.bl _, H, I, rfl, q⟩
  exact z
theorem op_ltU (hu : X.A.units < cLine) : OpR X (compareOp .Lt) (rLtU X.K) := by
  intro pins s σ H x y v u Q I rx ry h
  obtain ⟨a, b, ns, ms, rfl, rfl, ha, hb, q⟩ := h
  cases rx
  cases ry
  obtain ⟨its, r1, p1, _⟩ := I.tuple ha
  obtain ⟨its2, r2, p2, _⟩ := I.tuple hb
  have i1 : IntsAre its ns := Vals.ints r1
  have i2 : IntsAre its2 ms := Vals.ints r2
  have e1 : its.toArray.size = ns.length := by rw [List.size_toArray]; exact i1.length
  have e2 : its2.toArray.size = ms.length := by rw [List.size_toArray]; exact i2.length
  have at1 : ∀ j (h1 : j < its.toArray.size), ∃ t, its.toArray[j] = .int (ns.getD j 0) t := fun j h1 => PyProof.Rows.IntsAre.int_at i1 _ _ (by simp at h1; simp [h1])
  have at2 : ∀ j (h1 : j < its2.toArray.size), ∃ t, its2.toArray[j] = .int (ms.getD j 0) t := fun j h1 => PyProof.Rows.IntsAre.int_at i2 _ _ (by simp at h1; simp [h1])
  have R := Ob.RcOp.tuples_lt (A := X.A) (s := s) (e := fun j => decide (ns.getD j 0 = ms.getD j 0)) (r := fun j => decide (ns.getD j 0 < ms.getD j 0)) p1 p2 hu (fun j h1 h2 => by
    obtain ⟨t, et⟩ := at1 j h1
    obtain ⟨t', et'⟩ := at2 j h2
    rw [et, et']
    have z : (ns.getD j 0 == ms.getD j 0) = decide (ns.getD j 0 = ms.getD j 0) := by
      by_cases q : ns.getD j 0 = ms.getD j 0
      · rw [decide_eq_true q]; exact beq_iff_eq.mpr q
      · rw [decide_eq_false q]; exact beq_eq_false_iff_ne.mpr q
    rw [← z]
    exact SeqAt.EqAt.int_int _ _ _ _) (fun j h1 h2 _ => by
    obtain ⟨t, et⟩ := at1 j h1
    obtain ⟨t', et'⟩ := at2 j h2
    rw [et, et']
    exact Ob.RcOp.lt_int _ _ _ _)
  rw [e1, e2, lexAt_lt ns ms _ 0 (by omega)] at R
  have z : wpAny (model X.prog X.w) X.A (compareOp .Lt (.ref a) (.ref b)) (EP X pins σ Q) X.xe s := R X.prog X.w X.xe (EP X pins σ Q) ⟨.bl _, H, I, rfl, q⟩
  exact z
def rLtL (K : PySem.W.Frag) : R2 := fun x y H Q => ∃ (a b : Addr) (ns ms : List Int), x = .ref a ∧ y = .ref b ∧ SqL K H a (ns.map V.int) ∧ SqL K H b (ms.map V.int) ∧ Q (.bl (lexC ns ms == .lt)) H
theorem firstLt_lexAt {e r : Nat → Bool} {z : Bool} : ∀ (k i : Nat), SeqAt.firstLt e r z (List.range' i k) = Ob.lexAt e r z i k
  | 0, i => by rw [List.range'_zero, Ob.lexAt_zero]; rfl
  | k + 1, i => by
    rw [List.range'_succ, Ob.lexAt_succ, ← firstLt_lexAt k (i + 1)]
    rfl
theorem op_ltL (hu : X.A.units < cLine) : OpR X (compareOp .Lt) (rLtL X.K) := by
  intro pins s σ H x y v u Q I rx ry h
  obtain ⟨a, b, ns, ms, rfl, rfl, ha, hb, q⟩ := h
  cases rx
  cases ry
  obtain ⟨its, r1, ⟨o1, n1, ho1, hc1, hd1, ht1⟩, _⟩ := I.list ha
  obtain ⟨its2, r2, ⟨o2, n2, ho2, hc2, hd2, ht2⟩, _⟩ := I.list hb
  have i1 : IntsAre its ns := Vals.ints r1
  have i2 : IntsAre its2 ms := Vals.ints r2
  have e1 : its.toArray.size = ns.length := by rw [List.size_toArray]; exact i1.length
  have e2 : its2.toArray.size = ms.length := by rw [List.size_toArray]; exact i2.length
  have at1 : ∀ j (h1 : j < its.toArray.size), ∃ t, its.toArray[j] = .int (ns.getD j 0) t := fun j h1 => PyProof.Rows.IntsAre.int_at i1 _ _ (by simp at h1; simp [h1])
  have at2 : ∀ j (h1 : j < its2.toArray.size), ∃ t, its2.toArray[j] = .int (ms.getD j 0) t := fun j h1 => PyProof.Rows.IntsAre.int_at i2 _ _ (by simp at h1; simp [h1])
  have R := SeqAt.RcLt.lists (A := X.A) (s := s) (l := a) (b := b) (items := its.toArray) (items2 := its2.toArray) (e := fun j => decide (ns.getD j 0 = ms.getD j 0)) (r := fun j => decide (ns.getD j 0 < ms.getD j 0)) ⟨_, ho1, hc1, _, ht1⟩ ⟨_, ho2, hc2, _, ht2⟩ hu (fun j h1 h2 => by
    obtain ⟨t, et⟩ := at1 j h1
    obtain ⟨t', et'⟩ := at2 j h2
    rw [et, et']
    have z : (ns.getD j 0 == ms.getD j 0) = decide (ns.getD j 0 = ms.getD j 0) := by
      by_cases q : ns.getD j 0 = ms.getD j 0
      · rw [decide_eq_true q]; exact beq_iff_eq.mpr q
      · rw [decide_eq_false q]; exact beq_eq_false_iff_ne.mpr q
    rw [← z]
    exact SeqAt.EqAt.int_int _ _ _ _) (fun j h1 h2 _ => by
    obtain ⟨t, et⟩ := at1 j h1
    obtain ⟨t', et'⟩ := at2 j h2
    rw [et, et']
    exact Ob.RcOp.lt_int _ _ _ _)
  rw [e1, e2, List.range_eq_range', firstLt_lexAt, lexAt_lt ns ms _ 0 (by omega)] at R
  have z : wpAny (model X.prog X.w) X.A (compareOp .Lt (.ref a) (.ref b)) (EP X pins σ Q) X.xe s := R X.prog X.w X.xe (EP X pins σ Q) ⟨.bl _, H, I, rfl, q⟩
  exact z
/-- l.remove(x), data of any depth -/
def rRemoveD (K : PySem.W.Frag) : V → List V → Hp → VK → Prop := fun x xs H Q => ∃ (a : Addr) (zs : List V) (y : V) (d : PyData) (ds : List PyData) (j : Nat), x = V.ref a ∧ xs = [y] ∧ H a = some (.lst zs) ∧ DpAll K H zs ds ∧ Dp K H y d ∧
  SeqAt.shaped (.list ds) = true ∧ SeqAt.shaped d = true ∧ (ds.findIdx? fun z => PyData.eqv z d) = some j ∧ Q .non (upd H a (.lst (zs.eraseIdx j)))
theorem mt_removeD (hu : X.A.units + 65 < cLine) : MtR X "list.remove" (rRemoveD X.K) := by
  intro pins s σ H x xs v us Q I rx rxs h
  obtain ⟨a, zs, y, d, ds, j, rfl, rfl, hH, ha, hy, sl, sd, hp, q⟩ := h
  cases rx
  cases rxs with
  | cons ry rt =>
    rename_i uy ut
    cases rt
    obtain ⟨bs, r1⟩ := Dp.reads I d y uy hy ry
    have hxs : PyData.canLayAll0 ds = true := SeqAt.canLay_of_shaped sl
    have hroom : X.A.units + 1 + min (PyData.depthAll ds) d.depth < cLine := room_in_shaped sd hu
    obtain ⟨z, its, n, rv, hl, e0⟩ := I.lstM hH
    obtain ⟨as, h4⟩ := Dp.readsAll I ds _ its ha rv
    have hn : its.length = ds.length := SeqAt.ReadsAll.length ds its as h4
    have hmap : its.map (SeqAt.readOf s.heap) = ds := SeqAt.readsAll_map ds its as hxs h4
    obtain ⟨hjd, hz, hno⟩ := List.findIdx?_eq_some_iff_getElem.mp hp
    have hjl : j < its.length := by omega
    have hj : j < its.toArray.size := by simpa using hjl
    have at_ : ∀ (m : Nat) (hm : m < its.toArray.size) (z' : PyData), ds[m]? = some z' → SeqAt.readOf s.heap its.toArray[m] = z' := by
      intro m hm z' hz'
      have hml : m < its.length := by simpa using hm
      rw [← hmap, List.getElem?_map, List.getElem?_eq_getElem hml] at hz'
      have e1 : SeqAt.readOf s.heap its[m] = z' := Option.some.inj (show some (SeqAt.readOf s.heap its[m]) = some z' from hz')
      simpa using e1
    refine call_meets PySem.F.slot_list_remove ⟨_, e0, rfl⟩ PySem.F.entry_list_remove (PySem.F.args_list_remove_2 _ _)
      (SeqAt.list_removeAt a its.toArray n none #[] uy (fun u => PyData.eqv (SeqAt.readOf s.heap u) d) j hj ?_ ?_ (by rw [List.size_toArray, ← hl]; exact z)) ⟨e0, SeqAt.items_eqAt (vs := its.toArray) (show ReadsAll s.heap its.toArray.toList ds as from h4) r1 hxs (SeqAt.canLay_of_shaped sd) hroom, ?_⟩
    · show PyData.eqv (SeqAt.readOf s.heap its.toArray[j]) d = true
      rw [at_ j hj _ (List.getElem?_eq_getElem hjd)]
      exact hz
    · intro m hm hmj
      have hmd : m < ds.length := by omega
      show PyData.eqv (SeqAt.readOf s.heap its.toArray[m]) d = false
      rw [at_ m hm _ (List.getElem?_eq_getElem hmd)]
      have := hno m hmj
      simpa using this
    · refine ⟨.non, _, I.lset (its' := its.eraseIdx j) hH e0 ?_ (rv.eraseIdx j) ?_, rfl, q⟩
      · show its.toArray.eraseIdxIfInBounds j = (its.eraseIdx j).toArray
        rw [List.eraseIdxIfInBounds_toArray]
      · have := List.length_eraseIdx_le zs j
        omega
end
end Dl
end

section
set_option Elab.async false
set_option linter.all false
set_option maxRecDepth 100000
set_option maxHeartbeats 2000000
/-! Dl: sorted(xs, key=f) where f's calls keep an invariant of the whole state -/
namespace Dl
open PySem PySem.Calls PyProof.Rows PySem.W
/-- what stands at the two addresses that the sort itself writes -/
structure SortAt (a k : Addr) (e1 : Nat) (keys : List Value) (s : Shared) : Prop where
  at_ : s.heap.get? a = some (seqObj "list" #[] e1)
  keys : ∃ e, s.heap.get? k = some (seqObj "list" keys.toArray e)
section
variable {prog : Program} {w : World} {A : Around} {E : Value → Shared → Prop} {s : Shared} {a k : Addr} {b : Bool} {vs : List Value} {e1 : Nat} {P : PySem.Fin → Shared → Prop} {kz : List PyData} {J : Nat → List Value → Shared → Prop}
theorem sortJ_rest {f : Value} (hne : k ≠ a) (j0 : J 0 [] s) (nk : s.heap.get? k = some (seqObj "list" #[] 0)) (na : s.heap.get? a = some (seqObj "list" #[] e1))
    (hlen : kz.length = vs.length) (hZ : vs.length ≤ sizeLine) (hal : AllAlike kz) (hsk : Sortable kz) (hu : ∀ d, d ∈ kz → A.units + d.depth < cLine)
    (up : ∀ i us (s' : Shared) h' tk, J i us s' → (∀ c o, c ≠ a → c ≠ k → s'.heap.get? c = some o → h'.get? c = some o) → J i us { s' with heap := h', toks := tk })
    (turn : ∀ (i : Nat) (v : Value) (us : List Value) (s' : Shared), vs[i]? = some v → us.length = i → J i us s' → SortAt a k e1 us s' →
      wpAny (model prog w) A (call f [v]) (fun u s'' => J (i + 1) (us ++ [u]) s'' ∧ SortAt a k e1 us s'') (fun _ _ => False) s')
    (reads : ∀ us s', J vs.length us s' → EachIs (fun u d => ∃ as, Reads s'.heap u d as) us kz)
    (h : ∀ us s' out c, J vs.length us s' → s'.heap.get? a = some (seqObj "list" (List.toArray out) c) → KeyedOut b kz vs out → P (.done (.ret .none)) s') :
    wpAny (model prog w) A (ksk_rest a f b vs.toArray e1 (.ref k)) P E s := by
  unfold ksk_rest
  refine wpAny_bind (wpAny_rule ?_)
  first
    | rw [List.forIn_toArray]
    | (rw [← Array.forIn_toList]; simp only [List.toList_toArray])
    | rw [← Array.forIn_toList]
  refine wpAny_bind (ksk_fold (fun i s' => ∃ us, us.length = i ∧ J i us s' ∧ SortAt a k e1 us s') vs 0 s ⟨[], rfl, j0, na, 0, nk⟩ ?step ?done)
  case step =>
    rintro j x s' hx ⟨us, hl, jj, at_⟩
    simp only [Nat.zero_add] at hl jj ⊢
    have hj : j < vs.length := (List.getElem?_eq_some_iff.mp hx).1
    refine wpAny_bind (wpAny_attempt (wpAny_mono (turn j x us s' hx hl jj at_) (fun v s'' he => ?_) fun _ _ hF => hF.elim))
    obtain ⟨j2, at2⟩ := he
    try dsimp only
    obtain ⟨e, nk2⟩ := at2.keys
    have na2 := at2.at_
    have s1 := Heap.SameBut.update s''.heap k (Obj.mapSeq (·.push v))
    obtain ⟨c2, hc2⟩ : ∃ c2, (s''.heap.update k (Obj.mapSeq (·.push v))).get? k = some (seqObj "list" (us.toArray.push v) c2) := ⟨_, get?_update_seq nk2 (·.push v)⟩
    have ea : us.toArray.push v = (us ++ [v]).toArray := by simp
    have hz : us.toArray.size ≤ sizeLine := by rw [List.size_toArray]; omega
    refine wpAny_bind (listUpdate_at nk2 rfl ?_ hz (Nat.le_trans (Nat.le_of_eq (Array.size_push ..)) (Nat.succ_le_succ hz)))
    refine wpAny_pure ⟨rfl, us ++ [v], by simp [hl], up _ _ _ _ _ j2 (fun c o _ hc q => (s1.2 c hc).trans q), (s1.2 a hne.symm).trans na2, c2, ?_⟩
    rw [← ea]
    exact hc2
  case done =>
    rintro s' ⟨us, hl, jj, at_⟩
    simp only [Nat.zero_add] at hl jj
    obtain ⟨e, nk'⟩ := at_.keys
    have na' := at_.at_
    have hk' := reads us s' jj
    try dsimp only
    refine wpAny_bind (listItems_at nk' rfl ?_)
    have hsz : us.toArray.size = vs.length := by rw [List.size_toArray]; exact hl
    have nka : (hideAll s'.heap [k]).get? k = none := hideAll_none [k] (by simp)
    have kp : KeepsBut a (hideAll s'.heap [k]) s'.heap := fun c o _ q => of_hideAll [k] q
    refine keyH_end (κ := dataKind s'.heap kz) (s := s') (h₁ := hideAll s'.heap [k]) kp nka nk' na' hne (SortsAt.data (s := s') (by simpa using hk') hal hsk hu) hsz hZ fun h3 tk3 c k3 n3 => ?_
    have old : ∀ c o, c ≠ a → c ≠ k → s'.heap.get? c = some o → h3.get? c = some o := fun c o h1 h2 q => k3 c o h1 (hideAll_get [k] q (by simpa using h2))
    refine h us _ _ c (up _ _ _ _ _ jj old) n3 ⟨s'.heap, us.toArray.toList, hal, rfl, by simpa using hk'⟩
end
section
variable {prog : Program} {w : World} {A : Around} {E : Value → Shared → Prop} {s : Shared} {b : Bool} {vs : List Value} {kz : List PyData} {J : Addr → Addr → Nat → List Value → Shared → Prop}
/-- sorted(xs, key=f[, reverse=b]): J a k i us: behind i turns, the keys us; a, k: what the sort itself writes -/
theorem sortJ {β : Type} {R : Value → β → Prop} {bs : List β} (enc : β → PyData) {l : Addr} {f : Value} {kw : List (Str × Value)} {Q : Value → Shared → Prop} (hl : s.heap.IsList l vs.toArray) (e : EachIs R vs bs) (hal : AllAlike (bs.map enc)) (hsk : Sortable (bs.map enc)) (hL : bs.length ≤ sizeLine)
    (hu : ∀ x, x ∈ bs → A.units + 2 + (enc x).depth < cLine) (ha1 : argsOk "sorted" ⟨[.ref l], kw⟩) (ha2 : ∀ x, argsOk "list.sort" ⟨[.ref x], kw⟩) (ht : ∀ x, Builtin.«list.sort» ⟨[.ref x], kw⟩ = ksk_tree x f b)
    (j0 : ∀ a k h' tk, s.heap.objs.size ≤ a → s.heap.objs.size ≤ k → k ≠ a → (∀ c o, s.heap.get? c = some o → h'.get? c = some o) → J a k 0 [] { s with heap := h', toks := tk })
    (up : ∀ a k i us (s' : Shared) h' tk, J a k i us s' → (∀ c o, c ≠ a → c ≠ k → s'.heap.get? c = some o → h'.get? c = some o) → J a k i us { s' with heap := h', toks := tk })
    (turn : ∀ (a k : Addr) (e1 : Nat) (i : Nat) (v : Value) (x : β) (us : List Value) (s' : Shared), vs[i]? = some v → bs[i]? = some x → R v x → us.length = i → J a k i us s' → SortAt a k e1 us s' →
      wpAny (model prog w) A.in1.in1 (call f [v]) (fun u s'' => J a k (i + 1) (us ++ [u]) s'' ∧ SortAt a k e1 us s'') (fun _ _ => False) s')
    (reads : ∀ a k us s', J a k bs.length us s' → EachIs (fun u d => ∃ as, Reads s'.heap u (enc d) as) us bs)
    (h : ∀ a k us s' out c, J a k bs.length us s' → s'.heap.get? a = some (seqObj "list" (List.toArray out) c) → out.length = bs.length → EachIs R out (bs.mergeSort (dataLe b enc)) → Q (.ref a) s') :
    wpAny (model prog w) A (call (.builtin "sorted") [.ref l] kw) Q E s := by
  have el := e.length
  refine sorted_of_sort hl (by rw [el]; exact hL) ha1 ha2 fun E' => ?_
  rw [ht]
  have ho := copyHeap_at s.heap vs
  generalize hh : copyHeap s.heap vs = g at ho ⊢
  have old : ∀ c o, s.heap.get? c = some o → c ≠ s.heap.objs.size + 1 ∧ g.get? c = some o := fun c o q => by
    rw [← hh]
    exact ⟨Nat.ne_of_lt (Nat.lt_succ_of_lt (Heap.lt_size q)), copyHeap_old q⟩
  generalize ha : s.heap.objs.size + 1 = a at ho old ⊢
  have hag : a < g.objs.size := Heap.lt_size ho
  have hsa : s.heap.objs.size ≤ a := by omega
  obtain ⟨e1, ho1⟩ : ∃ e1, (g.update a (Obj.mapSeq fun _ => (#[] : Array Value))).get? a = some (seqObj "list" #[] e1) := ⟨_, get?_update_seq ho fun _ => #[]⟩
  have s1 := Heap.SameBut.update g a (Obj.mapSeq fun _ => (#[] : Array Value))
  have hkS : ((g.update a (Obj.mapSeq fun _ => (#[] : Array Value))).push (seqObj "tuple" vs.toArray 0)).objs.size = g.objs.size + 1 := by rw [size_push', Heap.size_update]
  unfold ksk_tree
  refine wpAny_bind (listItems_at ho rfl ?_)
  refine wpAny_bind (listUpdate_at ho rfl ?_ (by rw [List.size_toArray, el]; exact hL) (Nat.zero_le _))
  refine wpAny_bind (seqEpoch_at ho1 rfl ?_)
  refine wpAny_bind (wpAny_newTuple ?_ (by show vs.length ≤ _; rw [el]; exact hL))
  refine wpAny_bind (wpAny_newList ?_ (Nat.zero_le _))
  refine wpAny_holding ?_
  rw [hkS]
  refine sortJ_rest (J := J a (g.objs.size + 1)) (kz := bs.map enc) (s := { s with heap := ((g.update a (Obj.mapSeq fun _ => (#[] : Array Value))).push (seqObj "tuple" vs.toArray 0)).push (seqObj "list" #[] 0) })
    (Nat.ne_of_gt (Nat.lt_succ_of_lt hag)) (j0 a _ _ _ hsa (Nat.le_trans hsa (Nat.le_succ_of_le (Nat.le_of_lt hag))) (Nat.ne_of_gt (Nat.lt_succ_of_lt hag)) fun c o q => ?_) ?_ (Heap.get?_push_of_some _ (Heap.get?_push_of_some _ ho1)) (by rw [List.length_map, el]) (by rw [el]; exact hL) hal hsk (bound_map (A := A.in1.in1) hu)
    (fun i us s' h' tk => up a _ i us s' h' tk) (fun i v us s' hv hi jj at_ => ?_) (fun us s' jj => ?_) fun us s' out c jj hD ko => ⟨rfl, ?_⟩
  · obtain ⟨h1, h2⟩ := old c o q
    exact Heap.get?_push_of_some _ (Heap.get?_push_of_some _ ((s1.2 c h1).trans h2))
  · rw [← hkS]
    exact Heap.get?_push_size _ rfl
  · have hib : i < bs.length := by rw [← el]; exact (List.getElem?_eq_some_iff.mp hv).1
    have hx : bs[i]? = some bs[i] := List.getElem?_eq_getElem hib
    have hz : (v, bs[i]) ∈ vs.zip bs := List.mem_of_getElem? (i := i) (by rw [List.getElem?_zip_eq_some]; exact ⟨hv, hx⟩)
    exact turn a _ e1 i v bs[i] us s' hv hx (e.zip _ hz) hi jj at_
  · rw [el] at jj
    exact each_map (R := fun u d => ∃ as, Reads s'.heap u d as) enc (reads a _ us s' jj)
  · rw [el] at jj
    exact h a _ us s' out c jj hD ((ko.length (by rw [List.length_map]; exact el.symm)).trans el) (keyedOut_each enc ko e)
end
end Dl
end

section
set_option Elab.async false
set_option linter.all false
set_option maxRecDepth 100000
set_option maxHeartbeats 2000000
/-! Dl: raw rules: pop of a dict with tuple keys, sorted of data, a lambda made and handed to sorted -/
namespace Dl
open PySem PySem.Spec PyProof.Rows L2 LamX NdefX
/-! ### d.pop(k) -/
theorem KT.drop {H : Hp} {kvs : List (List Key × V)} {xs : List (List Key × Addr × Value)} (r : KT H kvs xs) (k : List Key) : KT H (dropK kvs k) (withoutH xs k) := by
  unfold dropK withoutH
  induction r with
  | nil => exact .nil
  | @cons p q ps qs h t ih =>
    rw [List.filter_cons, List.filter_cons]
    by_cases e : p.1 = k
    · have a : ¬ decide (p.1 ≠ k) = true := by simp [e]
      have b : ¬ decide (q.1 ≠ k) = true := by simp [h.1.symm.trans e]
      rw [if_neg a, if_neg b]; exact ih
    · have e' : ¬ q.1 = k := fun z => e (h.1.trans z)
      have a : decide (p.1 ≠ k) = true := by simp [e]
      have b : decide (q.1 ≠ k) = true := by simp [e']
      rw [if_pos a, if_pos b]; exact .cons h ih
def tDPopT (td ty : TE) : TE := fun σ H Q => td σ H fun x H1 => ∃ a, x = .ref a ∧ IsD H1 a ∧ ty σ H1 fun y H2 => ∃ kvs k b v, H2 a = some (.dT kvs) ∧ y = .ref b ∧ H2 b = some (.tup (k.map kV)) ∧ valV kvs k = some v ∧ Q v (upd H2 a (.dT (dropK kvs k)))
section
variable {X : Cx} {o e : Expr} {apos cpos : Pos} {td ty : TE}
theorem d_popT {pins : List (Addr × Obj)} {σ : L2.St} {H : Hp} {s : Shared} {a b : Addr} {kvs : List (List Key × V)} {k : List Key} {v : V} {E : Value → Shared → Prop} {A : Around} {Q : Value → Shared → Prop} (hu : A.units + 1 < cLine) (I : Inv X pins σ H s) (e : H a = some (.dT kvs))
    (eb : H b = some (.tup (k.map kV))) (l : valV kvs k = some v) (h : ∀ w' s', Inv X pins σ (upd H a (.dT (dropK kvs k))) s' → RelV v w' → Q w' s') : wpAny (model X.prog X.w) A (call (.builtin "dict.pop") [.ref a, .ref b]) Q E s := by
  obtain ⟨z, hd, xs, rel, dd⟩ := dt_of I.hok e
  obtain ⟨w', hw, rw'⟩ := RelO.some_of (v := v) (o := (atKey xs k).map (·.2)) (by rw [← l]; exact rel.val k)
  obtain ⟨p, hp, hp2⟩ := Option.map_eq_some_iff.mp hw
  have hz : xs.length ≤ sizeLine := by rw [← Paired.length rel]; exact z
  refine call_pop_heap (hsz := hz) (.inl rfl) (PySem.F.args_dict_pop_2 _ _) (tupleKind_room_in1 hu) (key_of I.hok eb) hd dd hp fun h' dd' hs => ?_
  obtain ⟨q, es, ep, hq, h2, h3, h4, _, h5⟩ := dd'
  rw [hp2]
  refine h _ _ (d_write I (by rw [e]; exact True.intro) hs ⟨q, hq⟩ ⟨Nat.le_trans (List.length_filter_le _ _) z, hd, _, (KT.drop rel k).keeps fun c ys ec => ?_, q, es, ep, hq, h2, h3, h4, h5⟩) rw'
  rw [upd_ne (ne_of ec e (fun z => nomatch z))]
  exact ec
theorem pe_dpopT (hu : X.A.units + 1 < cLine) (ho : PE X o td) (he : PE X e ty) (m : M1 X o "pop" apos e cpos) : PE X (.Call (.Attribute o "pop" apos) [e] [] cpos) (tDPopT td ty) := by
  refine ⟨fun pins s σ H Q I h => ?_⟩
  refine wpAny_Call_method m.base m.few m.line PySem.F.plainAttrs_dict PySem.F.slot_dict_pop PySem.F.type_dict_pop (thn (ho.run pins s σ H _ I h) fun u s1 ⟨x, H1, I1, rx, a, ex, d, q1⟩ => ?_)
  subst ex
  obtain rfl : u = Value.ref a := rx
  obtain ⟨t1, t2, _⟩ := isD_at I1 d
  refine ⟨t1, t2, ?_⟩
  rw [m.trees]
  refine Calls.callWith_builtin rfl (Calls.evalArgs_plain (Calls.spliced_cons (thn (he.run pins s1 σ H1 _ I1 q1) fun iv s2 ⟨y, H2, I2, ry, kvs, k, b, v, ea, ey, eb, l, q2⟩ => Calls.spliced_nil ?_)))
  subst ey
  obtain rfl : iv = Value.ref b := ry
  exact d_popT hu I2 ea eb l fun w' s3 I3 rw' => ⟨v, _, I3, rw', q2⟩
end
/-! ### sorted(xs, reverse=True) of data -/
def rSortD (K : PySem.W.Frag) : List V → List V → Hp → VK → Prop := fun vs zs H Q => ∃ (a : Addr) (xs : List V) (ps : List PyData), vs = [V.ref a] ∧ zs = [.bl true] ∧ SqL K H a xs ∧ DpAll K H xs ps ∧ PySem.W.AllAlike ps ∧ PySem.W.Sortable ps ∧ (∀ p ∈ ps, p.depth ≤ 60) ∧
  ∀ p, H p = none → Q (.ref p) (upd H p (.lst (((xs.zip ps).mergeSort (PySem.W.dataLe true (·.2))).map (·.1))))
theorem DpAll.length {K : PySem.W.Frag} {H : Hp} : ∀ {xs : List V} {ps : List PyData}, DpAll K H xs ps → xs.length = ps.length
  | _, _, .nil => rfl
  | _, _, .cons _ t => congrArg Nat.succ (DpAll.length t)
theorem each_zip {X : Cx} {pins : List (Addr × Obj)} {σ : L2.St} {H : Hp} {s : Shared} (I : Inv X pins σ H s) : ∀ {xs : List V} {ps : List PyData} {us : List Value}, DpAll X.K H xs ps → Vals xs us →
    PySem.W.EachIs (fun u (b : V × PyData) => RelV b.1 u ∧ ∃ as, Reads s.heap u b.2 as) us (xs.zip ps)
  | _, _, _, .nil, .nil => .nil
  | _, _, _, .cons h t, .cons r rs => .cons ⟨r, Dp.reads I _ _ _ h r⟩ (each_zip I t rs)
theorem vals_each : ∀ {us : List Value} {bs : List (V × PyData)}, PySem.W.EachIs (fun u (b : V × PyData) => RelV b.1 u) us bs → Vals (bs.map (·.1)) us
  | _, _, .nil => .nil
  | _, _, .cons h t => .cons h (vals_each t)
theorem cr_sortD {X : Cx} (hu : X.A.units + 65 < cLine) : CallRK X (.builtin "sorted") [Str.ofString "reverse"] (rSortD X.K) := by
  intro pins s σ H vs zs us ws Q I r rz h
  obtain ⟨a, xs, ps, rfl, rfl, hs, hd, hal, hsk, hdp, q⟩ := h
  obtain rfl := Vals.ref1 r
  obtain ⟨w1, rfl, e1⟩ := vals1 rz
  obtain rfl : w1 = Value.bool true := e1
  obtain ⟨its, rv, hl, hz⟩ := I.list hs
  have hlen := DpAll.length hd
  have e := each_zip I hd rv
  have em : (xs.zip ps).map (·.2) = ps := List.map_snd_zip (by omega)
  have ezl : (xs.zip ps).length = xs.length := by rw [List.length_zip]; omega
  refine PySem.W.sorted_rev_data (R := fun u (b : V × PyData) => RelV b.1 u) (bs := xs.zip ps) (enc := fun b => b.2) hl.isList (e.mono fun _ _ z => z.1) (e.mono fun _ _ z => z.2) (by rw [em]; exact hal) (by rw [em]; exact hsk) (by rw [ezl]; exact hz)
    (fun b hb => by have := hdp b.2 (by rw [← em]; exact List.mem_map_of_mem hb); omega) fun out hlo eo => ?_
  obtain ⟨ep, he'⟩ := PyProof.Rows.sortedAll_at s.heap its (List.toArray out)
  refine ⟨.ref _, upd H (s.heap.objs.size + 1) (.lst _), I.laid (t' := s.toks) (fun _ _ => PyProof.Rows.sortedAll_old) (Nat.le_succ _) ⟨?_, _, ep, vals_each eo, he'⟩, rfl, q _ (I.hok.fresh (Nat.le_succ _))⟩
  rw [List.length_map, List.length_mergeSort, ezl]
  exact hz
/-! ### a lambda is made -/
def LamO (f : Addr) (q : Str) (params : Arguments) (body : Expr) (scope : Scope) (cl : List (Str × Addr)) (c' : Addr) : HO := .ext fun h => ∃ (pm ctv : Value), h.get? f = some (PySem.W.kla_obj "<lambda>" q params body scope cl pm c' ctv)
theorem lamO_ne {f : Addr} {q : Str} {params : Arguments} {body : Expr} {scope : Scope} {cl : List (Str × Addr)} {c' : Addr} (ps : Array Value) : LamO f q params body scope cl c' ≠ .tbl ps := fun z => by
  unfold LamO at z
  cases z
theorem lamO_at {P : Program} {w : World} {H : Hp} {h : Heap} {f : Addr} {q : Str} {params : Arguments} {body : Expr} {scope : Scope} {cl : List (Str × Addr)} {c' : Addr} (hok : HOk P w H h) (e : H f = some (LamO f q params body scope cl c')) : ∃ (pm ctv : Value), h.get? f = some (PySem.W.kla_obj "<lambda>" q params body scope cl pm c' ctv) := by
  obtain ⟨z, _, _⟩ := hok f _ e
  exact z
section
variable {X : Cx} {pins : List (Addr × Obj)} {σ : L2.St} {H : Hp} {s : Shared}
theorem inv_lam {q : Str} {params : Arguments} {body : Expr} {scope : Scope} {cl : List (Str × Addr)} {c' : Addr} {pm ctv : Value} {t' : Nat} (I : Inv X pins σ H s) :
    Inv X pins σ (upd H s.heap.objs.size (LamO s.heap.objs.size q params body scope cl c')) { s with heap := s.heap.push (PySem.W.kla_obj "<lambda>" q params body scope cl pm c' ctv), toks := t' } := by
  refine I.laid (a := s.heap.objs.size) (fun b u e => Heap.get?_push_of_some _ e) (Nat.le_refl _) ?_
  have e : (s.heap.push (PySem.W.kla_obj "<lambda>" q params body scope cl pm c' ctv)).get? s.heap.objs.size = some (PySem.W.kla_obj "<lambda>" q params body scope cl pm c' ctv) := Heap.get?_push_size _ rfl
  exact ⟨⟨pm, ctv, e⟩, ⟨_, e⟩, fun h1 h2 ⟨p, t, z⟩ st => ⟨p, t, st _ z⟩⟩
theorem lam_make {c P : Addr} {params : Arguments} {body : Expr} {scope : Scope} {pos : Pos} {E : Value → Shared → Prop} {Q : Value → Shared → Prop} (I : Inv X pins σ H s) (TB : TabB X.base X.mg c P) (hcode : X.env.code = .ref c)
    (hT : TabS H P (X.env.qual ++ "<lambda>")) (hdef : defaultsOf params X.env = ([], [])) (hfree : ∀ y ∈ scope.names, y.2 = .free → ∃ c, X.env.cells.lookup y.1 = some c)
    (h : ∀ (f c' : Addr) (H1 : Hp) (s' : Shared), Inv X pins σ H1 s' → (∀ b o, b ≠ P → H b = some o → H1 b = some o) → (∀ b, H1 b = Option.none → H b = Option.none) → TabS H1 P (X.env.qual ++ "<lambda>") → H f = none →
      H1 f = some (LamO f (X.env.qual ++ "<lambda>") params body scope (cloFrom X.env.cells scope.names []) c') → H1 c' = some (CodeO c' (X.env.qual ++ "<lambda>")) → Q (.ref f) s') :
    wpAny (model X.prog X.w) X.A (eval (.Lambda params body scope pos) X.env) Q E s := by
  obtain ⟨ps, hP, ht, ha⟩ := hT
  refine PySem.W.kla_eval hdef ?_
  have bP : s.heap.BuiltinsAt X.mg P := TB.bm.keeps I.bk
  have hP' : s.heap.get? P = some { cls := .none, data := .fields ps } := I.hok P _ hP
  cases hc : codeAmong pos ps.toList with
  | none =>
    refine PySem.W.kla_makeFunction (mg := X.mg) (c := c) (P := P) (ps := ps) (closure_ok hfree) I.ok.glob (I.mod.glob.keeps I.bk) hcode (TB.code.keeps I.bk) hP' ht hc TB.gP bP fun c' ctv h' tk hx hge hlt hrec htb => ?_
    obtain ⟨c2, oc, vs, t, e2, hoc, hd, hv⟩ := hrec
    cases e2
    have nC : H c' = none := I.hok.fresh hge
    have I1 := inv_table (t' := tk) (more := #[rawInt pos.line, rawInt pos.col, .ref c']) (h' := h') I hP (fun b o hb e => hx b o hb e) htb hge ⟨oc, vs, t, hoc, hd, hv⟩
    have hE : ExtN H (upd (upd H P (.tbl (ps ++ #[rawInt pos.line, rawInt pos.col, .ref c']))) c' (CodeO c' (X.env.qual ++ "<lambda>"))) := fun b o e n => by
      rw [upd_ne (ne_of_none e nC), upd_ne (fun z => n ps (Option.some.inj (e.symm.trans (by rw [z]; exact hP))))]
      exact e
    have eL : (ps ++ #[rawInt pos.line, rawInt pos.col, .ref c']).toList = ps.toList ++ [rawInt pos.line, rawInt pos.col, .ref c'] := by simp
    have T1 : TabS (upd (upd H P (.tbl (ps ++ #[rawInt pos.line, rawInt pos.col, .ref c']))) c' (CodeO c' (X.env.qual ++ "<lambda>"))) P (X.env.qual ++ "<lambda>") := by
      refine ⟨_, by rw [upd_ne (ne_of_none hP nC), upd_same], by rw [eL]; exact PySem.TriplesOk_snoc _ _ _ _ ht, fun p' cv hcv => ?_⟩
      rw [eL] at hcv
      rcases among_app _ ht hcv with z | z
      · obtain ⟨c0, e1, e2⟩ := ha p' cv z
        exact ⟨c0, e1, hE _ _ e2 codeO_ne⟩
      · exact ⟨c', z, upd_same⟩
    have nF := I1.hok.fresh (Nat.le_refl _)
    have I2 := inv_lam (q := X.env.qual ++ "<lambda>") (params := params) (body := body) (scope := scope) (cl := cloFrom X.env.cells scope.names []) (c' := c') (pm := (X.mg "__name__").getD .none) (ctv := ctv) (t' := tk) I1
    refine h h'.objs.size c' _ _ I2 (fun b o n e => ?_) (fun b e => upd_none (upd_none (upd_none e))) (T1.ext fun b o e => ?_) (I.hok.fresh (Nat.le_trans hge (Nat.le_of_lt hlt))) upd_same ?_
    · have e1 : upd (upd H P (.tbl (ps ++ #[rawInt pos.line, rawInt pos.col, .ref c']))) c' (CodeO c' (X.env.qual ++ "<lambda>")) b = some o := by
        rw [upd_ne (ne_of_none e nC), upd_ne n]
        exact e
      exact (upd_ne (ne_of_none e1 nF)).trans e1
    · exact (upd_ne (ne_of_none e nF)).trans e
    · exact (upd_ne (Nat.ne_of_lt hlt)).trans upd_same
  | some cv =>
    obtain ⟨c', e, hco⟩ := ha pos cv hc
    subst e
    refine PySem.W.kla_makeFunctionHit (mg := X.mg) (c := c) (P := P) (ps := ps) (closure_ok hfree) I.ok.glob (I.mod.glob.keeps I.bk) hcode (TB.code.keeps I.bk) hP' ht hc bP fun ctv h' tk hx hsz => ?_
    have I1 : Inv X pins σ H { s with heap := h', toks := tk } := I.kept hx
    have nF : H h'.objs.size = none := I1.hok.fresh (Nat.le_refl _)
    have I2 := inv_lam (q := X.env.qual ++ "<lambda>") (params := params) (body := body) (scope := scope) (cl := cloFrom X.env.cells scope.names []) (c' := c') (pm := (X.mg "__name__").getD .none) (ctv := ctv) (t' := tk) I1
    refine h h'.objs.size c' _ _ I2 (fun b o n e => ?_) (fun b e => upd_none e) ((show TabS H P _ from ⟨ps, hP, ht, ha⟩).ext fun b o e => ?_) nF upd_same ?_
    · exact (upd_ne (ne_of_none e nF)).trans e
    · exact (upd_ne (ne_of_none e nF)).trans e
    · exact (upd_ne (ne_of_none hco nF)).trans hco
/-- the reading of a lambda -/
def tLamO (P : Addr) (q : Str) (mk : Addr → Addr → HO) : TE := fun _ H Q => TabS H P q ∧ ∀ (f c' : Addr) (H1 : Hp), (∀ b o, b ≠ P → H b = some o → H1 b = some o) → (∀ b, H1 b = Option.none → H b = Option.none) → TabS H1 P q → H f = none → H1 f = some (mk f c') → H1 c' = some (CodeO c' q) → Q (.ref f) H1
theorem pe_lam {c P : Addr} {params : Arguments} {body : Expr} {scope : Scope} {pos : Pos} (TB : TabB X.base X.mg c P) (hcode : X.env.code = .ref c) (hdef : defaultsOf params X.env = ([], []))
    (hfree : ∀ y ∈ scope.names, y.2 = .free → X.env.scope.names.lookup y.1 = some .cell ∨ X.env.scope.names.lookup y.1 = some .free) :
    PE X (.Lambda params body scope pos) (tLamO P (X.env.qual ++ "<lambda>") fun f c' => LamO f (X.env.qual ++ "<lambda>") params body scope (cloFrom X.env.cells scope.names []) c') := by
  refine ⟨fun pins s σ H Q I h => ?_⟩
  obtain ⟨hT, h⟩ := h
  have hfr : ∀ y ∈ scope.names, y.2 = .free → ∃ c, X.env.cells.lookup y.1 = some c := fun y hy e => (hfree y hy e).elim (fun z => I.ok.has _ (.inl z)) fun z => I.ok.has _ (.inr z)
  exact lam_make I TB hcode hT hdef hfr fun f c' H1 s' I1 eN nn T1 f0 f1 c1 => ⟨.ref f, H1, I1, rfl, h f c' H1 eN nn T1 f0 f1 c1⟩
end
end Dl
end

section
set_option Elab.async false
set_option linter.all false
set_option maxRecDepth 100000
set_option maxHeartbeats 2000000
/-! Dl: raw rules: a lambda with one parameter is called by a built-in -/
namespace Dl
open PySem PySem.Spec PyProof.Rows L2 LamX NdefX
section
variable {X : Cx} {pins : List (Addr × Obj)} {σ : L2.St} {H : Hp} {s : Shared}
abbrev lamF (q : Str) (params : Arguments) (scope : Scope) (cl : List (Str × Addr)) (c' : Addr) : NF := ⟨"<lambda>", q, params, [], scope, cl, c'⟩
theorem lam_call {A : Around} {N ps fr : List Str} {js : List Nat} {q : Str} {params : Arguments} {body : Expr} {scope : Scope} {cl : List (Str × Addr)} {f c' : Addr} {v : V} {u : Value} {Q : VK} {tb : TE}
    (hA : A.frames = X.A.frames) (hd : A.handled = none) (hroom : A.depth < recursionLimit) (S : NScope N ps fr scope) (hps : ps.length = 1) (cp : Caps X cl fr js)
    (hbind : ∀ (pm ctv u : Value), bindArgs (PySem.W.kla_fn "<lambda>" q params body scope cl pm (.ref c') ctv) ⟨[u], []⟩ = pure (ps.zip [u]))
    (hbody : PE (ncx CX0 X.prog X.w X.K X.mg X.base N (lamF q params scope cl c') f A X.stack s H E0).nox body tb)
    (I : Inv X pins σ H s) (hf : H f = some (LamO f q params body scope cl c')) (hc : H c' = some (CodeO c' q)) (rv : RelV v u) (ht : tb (startF N [v] (js.map (slotAt σ))) H Q) :
    wpAny (model X.prog X.w) A (call (.ref f) [u]) (fun w' s' => CE X.stack X.prog X.w H s Q w' s') (fun _ _ => False) s := by
  have e0' := I.env0
  have e0 : Env0 X.prog X.w X.K X.mg X.base A X.stack s H := ⟨hA.trans e0'.frames, e0'.mod, e0'.bs, e0'.bsz, e0'.funs, e0'.frf, e0'.hok, e0'.bare⟩
  obtain ⟨pm, ctv, ho⟩ := lamO_at I.hok hf
  have hcr := codeO_at I.hok hc
  have lim : s.heap.NoLimit := e0.mod.nolimit.keeps fun b o e => (e0.bs b o e).1
  have rc : codeAny (model X.prog X.w) A (.call (.ref f) ⟨[u], []⟩) (fun r s' => match r with | .ok (.ret w') => CE X.stack X.prog X.w H s Q w' s' | _ => False) s := by
    refine PySem.W.kla_callFunE hroom ho rfl S.co S.gen rfl hcr ?_
    rw [hbind]
    refine wpAny_pure (wpAny_newFunctionEnv S.nocell (fun ⟨n, _⟩ hy => S.par n (List.of_mem_zip hy).1) (fun h₁ hns hsb => ⟨lim.fresh _ hsb, ?_⟩) S.kind)
    show codeAny _ _ (.expr body (envF (lamF q params scope cl c') f s.heap.objs.size)) _ _
    have kp : ∀ b o, s.heap.get? b = some o → h₁.get? b = some o := fun b o e => hsb.extBut b o (Nat.ne_of_lt (Heap.lt_size e)) (Heap.get?_push_of_some _ e)
    have J : Inv (ncx CX0 X.prog X.w X.K X.mg X.base N (lamF q params scope cl c') f A X.stack s H E0) [] (startF N [v] (js.map (slotAt σ))) H { s with heap := h₁, toks := s.toks + (ps.zip [u]).length } :=
      inv_startN (us := [u]) S hd e0 (by rw [hps]; rfl) (.cons rv .nil) (cells_of I cp) hns kp
    refine PySem.W.kla_codeExpr (wpAny_mono (hbody.run [] _ _ H Q (J.wish _) ht) (fun w' s' hq => ?_) fun e s' hq => hq.elim)
    obtain ⟨v', H', J', rv', q'⟩ := hq
    have J' := J'.unwish
    exact ⟨v', H', J'.os, J'.bare, J'.base, J'.hok, rv', q'⟩
  refine wpAny_call (codeAny_mono rc fun r s' hq => ?_)
  cases r with
  | error e => exact hq.elim
  | ok fl =>
    cases fl with
    | ret u => exact hq
    | next => exact hq.elim
    | brk => exact hq.elim
    | cont => exact hq.elim
end
/-! ### sorted(xs, key=lambda p: .., reverse=True) -/
/-- G: what holds of the heap behind i turns, with the keys so far as values -/
def rSortLam (X : Cx) (σ : L2.St) (mk : Addr → Addr → HO) (q : Str) (N : List Str) (js : List Nat) (tb : TE) : List V → List V → Hp → VK → Prop := fun vs zs H Q =>
  ∃ (a f c' : Addr) (xs : List V) (ks : List PyData) (G : Nat → List V → Hp → Prop), vs = [V.ref a] ∧ zs = [.ref f, .bl true] ∧ SqL X.K H a xs ∧ ks.length = xs.length ∧ PySem.W.AllAlike ks ∧ PySem.W.Sortable ks ∧ (∀ p ∈ ks, p.depth ≤ 60) ∧
    (∀ i us H', G i us H' → H' f = some (mk f c') ∧ H' c' = some (CodeO c' q)) ∧ G 0 [] H ∧
    (∀ i x us H', xs[i]? = some x → us.length = i → G i us H' → tb (startF N [x] (js.map (slotAt σ))) H' fun u H'' => G (i + 1) (us ++ [u]) H'') ∧
    (∀ us H', G xs.length us H' → DpAll X.K H' us ks) ∧
    ∀ us H' p, G xs.length us H' → H' p = none → Q (.ref p) (upd H' p (.lst (((xs.zip ks).mergeSort (PySem.W.dataLe true (·.2))).map (·.1))))
theorem each_zip2 : ∀ {xs : List V} {ps : List PyData} {us : List Value}, xs.length = ps.length → Vals xs us → PySem.W.EachIs (fun u (b : V × PyData) => RelV b.1 u) us (xs.zip ps)
  | [], [], _, _, .nil => .nil
  | [], _ :: _, _, h, _ => by simp at h
  | _ :: _, [], _, h, _ => by simp at h
  | x :: xs, p :: ps, _, h, .cons r rs => .cons r (each_zip2 (by simpa using h) rs)
theorem each_zip3 {X : Cx} {pins : List (Addr × Obj)} {σ : L2.St} {H : Hp} {s : Shared} (I : Inv X pins σ H s) : ∀ {xs ws : List V} {ps : List PyData} {us : List Value}, xs.length = ps.length → DpAll X.K H ws ps → Vals ws us →
    PySem.W.EachIs (fun u (b : V × PyData) => ∃ as, Reads s.heap u b.2 as) us (xs.zip ps)
  | [], _, _, _, _, .nil, .nil => .nil
  | [], _, _, _, h, .cons _ _, _ => by simp at h
  | _ :: _, _, _, _, h, .nil, _ => by simp at h
  | x :: xs, _, _, _, hl, .cons h t, .cons r rs => .cons (Dp.reads I _ _ _ h r) (each_zip3 I (by simpa using hl) t rs)
theorem cr_sortLam {X : Cx} {σ : L2.St} {N ps fr : List Str} {js : List Nat} {q : Str} {params : Arguments} {body : Expr} {scope : Scope} {cl : List (Str × Addr)} {tb : TE} {pins : List (Addr × Obj)} {s : Shared} {H : Hp} {xs zs : List V} {us ws : List Value} {Q : VK}
    (hdn : X.A.handled = none) (hroom : X.A.depth < recursionLimit) (hu : X.A.units + 65 < cLine) (S : NScope N ps fr scope) (hps : ps.length = 1) (cp : X.Ok → Caps X cl fr js)
    (hbind : ∀ (c' : Addr) (pm ctv u : Value), bindArgs (PySem.W.kla_fn "<lambda>" q params body scope cl pm (.ref c') ctv) ⟨[u], []⟩ = pure (ps.zip [u]))
    (hbody : ∀ (f c' : Addr) (s : Shared) (H : Hp), PE (ncx CX0 X.prog X.w X.K X.mg X.base N (lamF q params scope cl c') f X.A.in1.in1 X.stack s H E0).nox body tb)
    (I : Inv X pins σ H s) (r : Vals xs us) (rz : Vals zs ws) (h : rSortLam X σ (fun f c' => LamO f q params body scope cl c') q N js tb xs zs H Q) :
    wpAny (model X.prog X.w) X.A (call (.builtin "sorted") us ([Str.ofString "key", Str.ofString "reverse"].zip ws)) (EP X pins σ Q) X.xe s := by
  obtain ⟨a, f, c', xs, ks, G, rfl, rfl, hs, hlk, hal, hsk, hdp, gf, g0, gt, gd, gq⟩ := h
  obtain rfl := Vals.ref1 r
  obtain ⟨w1, w2, rfl, e1, e2⟩ := vals2 rz
  obtain rfl : w1 = Value.ref f := e1
  obtain rfl : w2 = Value.bool true := e2
  obtain ⟨its, rv, hl, hz⟩ := I.list hs
  have hlen : xs.length = ks.length := hlk.symm
  have em : (xs.zip ks).map (·.2) = ks := List.map_snd_zip (by omega)
  have ezl : (xs.zip ks).length = xs.length := by rw [List.length_zip]; omega
  refine sortJ (R := fun u (b : V × PyData) => RelV b.1 u) (bs := xs.zip ks) (fun b => b.2) (f := .ref f) (kw := [(Str.ofString "key", .ref f), (Str.ofString "reverse", .bool true)]) (b := true)
    (J := fun a k i us s' => ∃ H' vs, Inv X pins σ H' s' ∧ FpOk X pins H' a ∧ FpOk X pins H' k ∧ Vals vs us ∧ G i vs H')
    hl.isList (each_zip2 hlen rv) (by rw [em]; exact hal) (by rw [em]; exact hsk) (by rw [ezl]; exact hz) (fun b hb => by have := hdp b.2 (by rw [← em]; exact List.mem_map_of_mem hb); omega)
    (PyProof.Rows.ksk_s2 _ _ _) (fun _ => PyProof.Rows.ksk_l2 _ _ _) (fun _ => PyProof.Rows.ksk_t2 _ _ _) (fun a k h' tk ha hk hne kp => ?_) (fun a k i us s' h' tk jj kp => ?_)
    (fun a k e1 i v x us s' hv hx hR hi jj at_ => ?_) (fun a k us s' jj => ?_) (fun a k us s' out c jj hD hlo eo => ?_)
  · exact ⟨H, [], I.kept kp, I.fpOk ha (I.hok.fresh ha), I.fpOk hk (I.hok.fresh hk), .nil, g0⟩
  · obtain ⟨H', vs, I', fa, fk, rvs, g⟩ := jj
    refine ⟨H', vs, I'.turnedL (ch := [a, k]) (fun b o hb e => ?_) (fun b hb => ?_), fa, fk, rvs, g⟩
    · exact kp b o (fun z => hb (by rw [z]; exact List.mem_cons_self)) (fun z => hb (by rw [z]; exact List.mem_cons_of_mem _ List.mem_cons_self)) e
    · rcases List.mem_cons.mp hb with z | z
      · rw [z]; exact fa
      · rw [List.mem_singleton.mp z]; exact fk
  · obtain ⟨H', vs, I', fa, fk, rvs, g⟩ := jj
    obtain ⟨k1, k2⟩ := gf _ _ _ g
    have hxi : xs[i]? = some x.1 := by
      obtain ⟨z1, z2⟩ := List.getElem?_zip_eq_some.mp hx
      exact z1
    have ht := gt i x.1 vs H' hxi (by rw [rvs.length]; exact hi) g
    refine wpAny_mono (lam_call (X := X) (A := X.A.in1.in1) rfl hdn hroom S hps (cp I'.ok) (hbind c') (hbody f c' s' H') I' k1 k2 hR ht) (fun u s'' hq => ?_) fun _ _ z => z
    obtain ⟨v', H'', os, bare, un, hok, rv', g'⟩ := hq
    have keep : ∀ b, FpOk X pins H' b → ∀ o, s'.heap.get? b = some o → s''.heap.get? b = some o ∧ H'' b = none := fun b fb o e => by
      have nb : b ∉ frs X.stack := fun z => by
        rcases List.mem_cons.mp (I'.stkSub _ z) with e' | e'
        · exact fb.2.1 e'
        · exact fb.2.2.1 e'
      exact ⟨un.keep b o e fb.1 nb (by simp), un.free b o e fb.1 (by simp)⟩
    obtain ⟨ek, nk⟩ := at_.keys
    obtain ⟨a1, a2⟩ := keep a fa _ at_.at_
    obtain ⟨b1, b2⟩ := keep k fk _ nk
    exact ⟨⟨H'', vs ++ [v'], I'.call' (ch := []) os un hok bare (fun b z => absurd z (by simp)), ⟨a2, fa.2⟩, ⟨b2, fk.2⟩, rvs.append (.cons rv' .nil), g'⟩, a1, ek, b1⟩
  · obtain ⟨H', vs, I', fa, fk, rvs, g⟩ := jj
    rw [ezl] at g
    exact each_zip3 I' hlen (gd vs H' g) rvs
  · obtain ⟨H', vs, I', fa, fk, rvs, g⟩ := jj
    rw [ezl] at g
    refine ⟨.ref a, _, I'.take (it := a) (o := .lst (((xs.zip ks).mergeSort (PySem.W.dataLe true (·.2))).map (·.1))) (h' := s'.heap) (t' := s'.toks) (fun b ob _ e => e) fa ⟨?_, out, c, vals_each eo, hD⟩, rfl, gq vs H' a g fa.1⟩
    rw [List.length_map, List.length_mergeSort, ezl]
    exact hz
section
variable {X : Cx}
def tSortLam (X : Cx) (P : Addr) (mk : Addr → Addr → HO) (q : Str) (N : List Str) (js : List Nat) (te tb : TE) : TE := fun σ H Q => te σ H fun v H1 => tLamO P q mk σ H1 fun f H2 => rSortLam X σ mk q N js tb [v] [f, .bl true] H2 Q
theorem pe_sortLam {P c : Addr} {N ps fr : List Str} {js : List Nat} {params : Arguments} {body e1 : Expr} {scope : Scope} {te tb : TE} {p pos lpos cp kp1 kp2 : Pos} {k0 : Nat} (hg : Gl X "sorted") (hm : X.mg "sorted" = none) (hp : starEach [e1] X.env = (false, eval e1 X.env) :: starEach [] X.env)
    (TB : TabB X.base X.mg c P) (hcode : X.env.code = .ref c) (hdef : defaultsOf params X.env = ([], [])) (hfree : ∀ y ∈ scope.names, y.2 = .free → X.env.scope.names.lookup y.1 = some .cell ∨ X.env.scope.names.lookup y.1 = some .free)
    (hdn : X.A.handled = none) (hroom : X.A.depth < recursionLimit) (hu : X.A.units + 65 < cLine) (S : NScope N ps fr scope) (hps : ps.length = 1) (cp' : X.Ok → Caps X (cloFrom X.env.cells scope.names []) fr js)
    (hbind : ∀ (c' : Addr) (pm ctv u : Value), bindArgs (PySem.W.kla_fn "<lambda>" (X.env.qual ++ "<lambda>") params body scope (cloFrom X.env.cells scope.names []) pm (.ref c') ctv) ⟨[u], []⟩ = pure (ps.zip [u]))
    (hbody : ∀ (f c' : Addr) (s : Shared) (H : Hp), PE (ncx CX0 X.prog X.w X.K X.mg X.base N (lamF (X.env.qual ++ "<lambda>") params scope (cloFrom X.env.cells scope.names []) c') f X.A.in1.in1 X.stack s H E0).nox body tb)
    (h1 : PE X e1 te) :
    PE X (.Call (.Name "sorted" p) [e1] [⟨some "key", .Lambda params body scope lpos, kp1⟩, ⟨some "reverse", .Constant (.bool true) k0 cp, kp2⟩] pos)
      (tSortLam X P (fun f c' => LamO f (X.env.qual ++ "<lambda>") params body scope (cloFrom X.env.cells scope.names []) c') (X.env.qual ++ "<lambda>") N js te tb) := by
  refine ⟨fun pins s σ H Q I h => ?_⟩
  have hks : (backToKw pos (keywordEach [(⟨some "key", .Lambda params body scope lpos, kp1⟩ : Keyword), ⟨some "reverse", .Constant (.bool true) k0 cp, kp2⟩] X.env)).filterMap (·.1) = [Str.ofString "key", Str.ofString "reverse"] := by rfl
  have hk := pk_cons (nm := some "key") (kpos := kp1) (pe_lam (pos := lpos) (body := body) TB hcode hdef hfree) (pk_cons (nm := some "reverse") (kpos := kp2) (pe_bl (X := X) (b := true) (j := k0) (pos := cp)) pk_nil)
  refine wpAny_Call_Name_kw (ld_blt I hg hm (u := .builtin "sorted") (by decide +kernel) ?_ (by decide +kernel) (by decide +kernel))
  have ha : PA X [e1] (tCons te tNil) := pa_cons h1 pa_nil hp
  refine PyProof.Rows.callWith_kw (thn (ha.run pos pins s σ H (fun vs H1 => tLamO P (X.env.qual ++ "<lambda>") (fun f c' => LamO f (X.env.qual ++ "<lambda>") params body scope (cloFrom X.env.cells scope.names []) c') σ H1 fun f H2 => rSortLam X σ (fun f c' => LamO f (X.env.qual ++ "<lambda>") params body scope (cloFrom X.env.cells scope.names []) c') (X.env.qual ++ "<lambda>") N js tb vs [f, .bl true] H2 Q) I h) fun us s1 ⟨vs, H1, I1, r1, q1⟩ => thn (hk.run pos pins s1 σ H1 (fun zs H2 => rSortLam X σ (fun f c' => LamO f (X.env.qual ++ "<lambda>") params body scope (cloFrom X.env.cells scope.names []) c') (X.env.qual ++ "<lambda>") N js tb vs zs H2 Q) I1 ?_) fun ws s2 ⟨zs, H2, I2, r2, q2⟩ => ?_) (by rw [hp]; rfl) (by rw [hp]; rfl) rfl rfl
  · exact q1
  · rw [hks]
    exact cr_sortLam hdn hroom hu S hps cp' hbind hbody I2 r1 r2 q2
end
end Dl
end

section
set_option Elab.async false
set_option linter.all false
set_option maxRecDepth 100000
set_option maxHeartbeats 2000000
/-! Dl: raw rules: max(xs, key=lambda p: ..), list(d), del d[k], dict(pairs), for dicts with tuple keys -/
namespace Dl
open PySem PySem.Spec PyProof.Rows L2 LamX NdefX
section
variable {prog : Program} {w : World} {A : Around} {R : Result → Shared → Prop} {I : Addr} {fp wr : List Addr} {G : Array GenState → Array GenState → Prop} {n : Nat} {P : Nat → Value → Prop} {St : Nat → Shared → Prop}
/-- what max(.., key=f) wants of f's calls; J i us: behind i of them, with the answers us -/
structure MaxRun (prog : Program) (w : World) (A : Around) (f : Value) (S : Addr) (wr : List Addr) (G : Array GenState → Array GenState → Prop) (n : Nat) (P : Nat → Value → Prop) (St : Nat → Shared → Prop) (J : Nat → List Value → Shared → Prop) (bt : Nat → Nat → Bool) : Prop where
  keep : ∀ i us s s', J i us s → Moved (S :: wr) G s s' → J i us s'
  turn : ∀ i v us (s : Shared) (o : Obj), i < n → P i v → us.length = i → J i us s → St (i + 1) s → s.heap.get? S = some o →
    wpAny (model prog w) A (call f [v]) (fun k s' => J (i + 1) (us ++ [k]) s' ∧ St (i + 1) s' ∧ s'.heap.get? S = some o) (fun _ _ => False) s
  cmp : ∀ i us (s : Shared) b ki kb (Q E : Value → Shared → Prop), J (i + 1) us s → us.length = i + 1 → i < n → b < i → us[i]? = some ki → us[b]? = some kb → Q (.bool (bt i b)) s → wpAny (model prog w) A (richCompare .Gt ki kb) Q E s
theorem best_le (bt : Nat → Nat → Bool) : ∀ j, argBest bt j ≤ j
  | 0 => Nat.le_refl _
  | j + 1 => by
    have := best_le bt j
    unfold argBest
    split <;> omega
section
variable {q : Addr} {J : Nat → List Value → Shared → Prop} {bt : Nat → Nat → Bool}
/-- the object that max keeps its best in -/
abbrev bestO (v k : Value) (c : Nat) : Obj := { cls := .type "list", dict := none, data := .seq #[v, k] c, slots := #[] }
theorem maxJ_loop (W : WalksS prog w A.in1 I fp wr G n P St) {S : Addr} (hS : S ∉ fp) (K : MaxRun prog w A.in1 (.ref q) S wr G n P St J bt) (kw : List (Str × Value)) (fin : ∀ v us s', P (argBest bt (n - 1)) v → us.length = n → J n us s' → R (.ok (.ret v)) s') :
    ∀ (k j : Nat) (s : Shared) (us : List Value) (vb kb : Value) (c : Nat), n - (j + 1) = k → j + 1 ≤ n → us.length = j + 1 → J (j + 1) us s → St (j + 1) s → P (argBest bt j) vb → us[argBest bt j]? = some kb → s.heap.get? S = some (bestO vb kb c) →
      codeAny (model prog w) A (.builtin "max.loop" ⟨[.ref I, (.ref q), .ref S], kw⟩) R s := by
  have nw : S ∉ wr := fun h => hS (W.sub _ h)
  have sub : ∀ b ∈ wr, b ∈ S :: wr := fun b hb => List.mem_cons_of_mem _ hb
  have nm : (toString "max" ++ toString ".loop" : String) = "max.loop" := by decide
  have ns : ∀ {b : Addr}, b ∉ S :: wr → S ≠ b := fun hb h => hb (h ▸ List.mem_cons_self)
  intro k
  induction k with
  | zero =>
    intro j s us vb kb c hk hj hl jj st pb kb_ so
    obtain rfl : n = j + 1 := by omega
    refine codeAny_builtin (F.entry_max_loop) ?_
    rw [Around.under_plainId (F.plain_max_loop) _]
    show wpAny _ A.in1 (seqItems? (.ref S) >>= _) _ _ s
    refine wpAny_bind ((wpAny_seqItems so rfl) ?_)
    show wpAny _ A.in1 (tryCatch (pyNext (.ref I)) _ >>= _) _ _ s
    refine wpAny_bind (wpAny_tryCatch (W.done s _ _ st fun s' m => ?_))
    have so' := m.heap S _ nw so
    show wpAny _ A.in1 (updateSeq S (fun _ => #[]) >>= _) _ _ _
    refine wpAny_bind (wpAny_updateSeq so' rfl (wpAny_bind (wpAny_letGo (wpAny_pure ?_))))
    exact fin vb us _ pb hl (K.keep _ _ _ _ jj ((m.mono sub).then_heap (tk := s'.toks) (Nat.le_refl _) fun b o hb e => (Heap.get?_update_other _ _ (ns hb)).trans e))
  | succ k ih =>
    intro j s us vb kb c hk hj hl jj st pb kb_ so
    have lt : j + 1 < n := by omega
    refine codeAny_builtin (F.entry_max_loop) ?_
    rw [Around.under_plainId (F.plain_max_loop) _]
    show wpAny _ A.in1 (seqItems? (.ref S) >>= _) _ _ s
    refine wpAny_bind ((wpAny_seqItems so rfl) ?_)
    show wpAny _ A.in1 (tryCatch (pyNext (.ref I)) _ >>= _) _ _ s
    refine wpAny_bind (wpAny_tryCatch (W.item (j + 1) s _ _ lt st fun v s' pv st' m => ?_))
    have so' := m.heap S _ nw so
    have jj' := K.keep _ _ _ _ jj (m.mono sub)
    show wpAny _ A.in1 (tryCatch (holding [v] (call (.ref q) [v])) _ >>= _) _ _ _
    refine wpAny_bind (wpAny_tryCatch (wpAny_holding (wpAny_mono (K.turn (j + 1) v us s' _ lt pv hl jj' st' so') (fun kx s2 h2 => ?_) fun _ _ z => z.elim)))
    obtain ⟨j2, st2, so2⟩ := h2
    have hb : argBest bt j < us.length := by have := best_le bt j; omega
    show wpAny _ A.in1 (tryCatch (holding [v, kx] (richCompare .Gt kx kb >>= _)) _ >>= _) _ _ _
    refine wpAny_bind (wpAny_tryCatch (wpAny_holding (wpAny_bind (K.cmp (j + 1) (us ++ [kx]) s2 (argBest bt j) kx kb _ _ j2 (by simp [hl]) lt (by omega) (by rw [List.getElem?_append_right (by omega), hl]; simp) (by rw [List.getElem?_append_left hb]; exact kb_) ?_))))
    refine wpAny_bind (wpAny_holding (wpAny_truthy_bool ?_))
    refine wpAny_bind (wpAny_letGo (wpAny_pure ?_))
    cases h : bt (j + 1) (argBest bt j) with
    | true =>
      simp only [if_true]
      refine wpAny_bind (wpAny_updateSeq so2 rfl (wpAny_bind (wpAny_letGo ?_)))
      rw [nm]
      have m2 : Moved (S :: wr) G s2 { s2 with heap := s2.heap.update S (Obj.mapSeq fun _ => #[v, kx]), toks := s2.toks } := (Moved.refl W.grefl).then_heap (tk := s2.toks) (Nat.le_refl _) fun b o hb e => (Heap.get?_update_other _ _ (ns hb)).trans e
      have eb : argBest bt (j + 1) = j + 1 := by simp only [argBest, h, if_true]
      exact wpAny_pure ⟨plainId_quiet F.plain_max_loop _, ih (j + 1) _ (us ++ [kx]) v kx _ (by omega) lt (by simp [hl]) (K.keep _ _ _ _ j2 m2)
        (W.frame _ s2 _ s2.toks st2 (Nat.le_refl _) fun b hbf o e => (Heap.get?_update_other _ _ (fun z : S = b => hS (z ▸ hbf))).trans e) (by rw [eb]; exact pv) (by rw [eb, List.getElem?_append_right (by omega), hl]; simp) (Heap.get?_update_self _ so2 rfl)⟩
    | false =>
      simp only [Bool.false_eq_true, if_false]
      refine wpAny_bind (wpAny_letGo ?_)
      rw [nm]
      have eb : argBest bt (j + 1) = argBest bt j := by simp only [argBest, h, Bool.false_eq_true, if_false]
      exact wpAny_pure ⟨plainId_quiet F.plain_max_loop _, ih (j + 1) _ (us ++ [kx]) vb kb c (by omega) lt (by simp [hl]) j2 st2 (by rw [eb]; exact pb) (by rw [eb, List.getElem?_append_left hb]; exact kb_) so2⟩
theorem maxJ_first (W : WalksS prog w A.in1 I fp wr G n P St) {S : Addr} (hS : S ∉ fp) (K : MaxRun prog w A.in1 (.ref q) S wr G n P St J bt) (kw : List (Str × Value)) (fin : ∀ v us s', P (argBest bt (n - 1)) v → us.length = n → J n us s' → R (.ok (.ret v)) s') (hn : 0 < n)
    {s : Shared} {c : Nat} (jj : J 0 [] s) (st : St 0 s) (so : s.heap.get? S = some { cls := .type "list", dict := none, data := .seq #[] c, slots := #[] }) :
    codeAny (model prog w) A (.builtin "max.loop" ⟨[.ref I, (.ref q), .ref S], kw⟩) R s := by
  have nw : S ∉ wr := fun h => hS (W.sub _ h)
  have sub : ∀ b ∈ wr, b ∈ S :: wr := fun b hb => List.mem_cons_of_mem _ hb
  have nm : (toString "max" ++ toString ".loop" : String) = "max.loop" := by decide
  have ns : ∀ {b : Addr}, b ∉ S :: wr → S ≠ b := fun hb h => hb (h ▸ List.mem_cons_self)
  refine codeAny_builtin (F.entry_max_loop) ?_
  rw [Around.under_plainId (F.plain_max_loop) _]
  show wpAny _ A.in1 (seqItems? (.ref S) >>= _) _ _ s
  refine wpAny_bind ((wpAny_seqItems so rfl) ?_)
  show wpAny _ A.in1 (tryCatch (pyNext (.ref I)) _ >>= _) _ _ s
  refine wpAny_bind (wpAny_tryCatch (W.item 0 s _ _ hn st fun v s' pv st' m => ?_))
  have so' := m.heap S _ nw so
  have jj' := K.keep _ _ _ _ jj (m.mono sub)
  show wpAny _ A.in1 (tryCatch (holding [v] (call (.ref q) [v])) _ >>= _) _ _ _
  refine wpAny_bind (wpAny_tryCatch (wpAny_holding (wpAny_mono (K.turn 0 v [] s' _ hn pv rfl jj' st' so') (fun kx s2 h2 => ?_) fun _ _ z => z.elim)))
  obtain ⟨j2, st2, so2⟩ := h2
  show wpAny _ A.in1 (updateSeq S (fun _ => #[v, kx]) >>= _) _ _ _
  refine wpAny_bind (wpAny_updateSeq so2 rfl ?_)
  rw [nm]
  have m2 : Moved (S :: wr) G s2 { s2 with heap := s2.heap.update S (Obj.mapSeq fun _ => #[v, kx]), toks := s2.toks } := (Moved.refl W.grefl).then_heap (tk := s2.toks) (Nat.le_refl _) fun b o hb e => (Heap.get?_update_other _ _ (ns hb)).trans e
  exact wpAny_pure ⟨plainId_quiet F.plain_max_loop _, maxJ_loop W hS K kw fin _ 0 _ [kx] v kx _ rfl hn rfl (K.keep _ _ _ _ j2 m2)
    (W.frame _ s2 _ s2.toks st2 (Nat.le_refl _) fun b hbf o e => (Heap.get?_update_other _ _ (fun z : S = b => hS (z ▸ hbf))).trans e) pv rfl (Heap.get?_update_self _ so2 rfl)⟩
end
/-- max(l, key=f) of a list -/
theorem maxJ {E : Value → Shared → Prop} {s : Shared} {l q : Addr} {vs : Array Value} {Q : Value → Shared → Prop} {J : Addr → Addr → Nat → List Value → Shared → Prop} {bt : Nat → Nat → Bool} (hh : A.in1.handled = none) (hl : s.heap.IsList l vs) (hn : 0 < vs.size)
    (j0 : ∀ I S h' tk, s.heap.objs.size ≤ I → s.heap.objs.size ≤ S → S ≠ I → (∀ c o, s.heap.get? c = some o → h'.get? c = some o) → J I S 0 [] { s with heap := h', toks := tk })
    (K : ∀ I S, s.heap.objs.size ≤ I → s.heap.objs.size ≤ S → S ≠ I → MaxRun prog w A.in1 (.ref q) S [I] (fun a b => b = a) vs.size (fun i v => vs[i]? = some v) (fun i s' => s'.heap.IsListIter I l i ∧ s'.heap.IsList l vs) (J I S) bt)
    (fin : ∀ I S v us s', vs[argBest bt (vs.size - 1)]? = some v → us.length = vs.size → J I S vs.size us s' → Q v s') :
    wpAny (model prog w) A (call (.builtin "max") [.ref l] [(Str.ofString "key", .ref q)]) Q E s := by
  have nm : (toString "max" ++ toString ".loop" : String) = "max.loop" := by decide
  refine PyProof.Rows.kmk_tree (F.kind_max) (F.plain_max) (F.entry_max) (PyProof.Rows.kmk_max_key _ _) ?_
  show wpAny _ A.in1 (Builtin.Builtins.bindParams "max" ["key", "default"] 0 ⟨[], [(Str.ofString "key", .ref q)]⟩ >>= _) _ _ s
  refine wpAny_bind (wpAny_of_eq (show Builtin.Builtins.bindParams "max" ["key", "default"] 0 ⟨[], [(Str.ofString "key", .ref q)]⟩ = pure [some (.ref q), none] from rfl) (wpAny_bind (wpAny_pure ?_)))
  refine wpAny_bind (PySem.W.iter_listW (A := A.in1) hh hl fun s2 e2 W st lo _ k2 => ?_)
  have hlt : l < s.heap.objs.size := by obtain ⟨_, e, _⟩ := hl; exact Heap.lt_size e
  have z2 : s2.heap.objs.size = s.heap.objs.size + 1 := by rw [e2]; exact Heap.size_push ..
  refine wpAny_bind (wpAny_newObj_type ?_)
  have hSf : s2.heap.objs.size ∉ [s.heap.objs.size, l] := fun hm => by
    rw [z2] at hm
    rcases List.mem_cons.mp hm with h | h
    · omega
    · have h' := List.mem_singleton.mp h
      rw [← h'] at hlt
      exact Nat.lt_irrefl _ (Nat.lt_of_lt_of_le hlt (Nat.le_succ _))
  rw [nm]
  have hne : s2.heap.objs.size ≠ s.heap.objs.size := by omega
  have m0 : ∀ b o, s2.heap.get? b = some o → (s2.heap.push { cls := .type "list", data := .seq #[] 0 }).get? b = some o := fun b o e => Heap.get?_push_of_some _ e
  refine wpAny_pure ⟨plainId_quiet F.plain_max_loop _, maxJ_first W hSf (K _ _ (Nat.le_refl _) (by omega) hne) _ (fun v us s' h1 h2 h3 => fin _ _ v us s' h1 h2 h3) hn (s := { s2 with heap := s2.heap.push { cls := .type "list", data := .seq #[] 0 } }) ?_ (W.frame 0 s2 _ s2.toks st (Nat.le_refl _) fun b _ o e => m0 b o e) (Heap.get?_push_size _ rfl)⟩
  have := j0 s.heap.objs.size s2.heap.objs.size (s2.heap.push { cls := .type "list", data := .seq #[] 0 }) s2.toks (Nat.le_refl _) (by omega) hne (fun c o e => m0 c o (k2 c o e))
  rw [e2] at this ⊢
  exact this
end
end Dl
end

section
set_option Elab.async false
set_option linter.all false
set_option maxRecDepth 100000
set_option maxHeartbeats 2000000
namespace Dl
open PySem PySem.Spec PyProof.Rows L2 LamX NdefX
/-! ### max(xs, key=lambda p: ..) -/
abbrev btK (ks : List PyData) : Nat → Nat → Bool := fun i j => PySem.W.dataLt (ks.getD j .none) (ks.getD i .none)
/-- G: what holds of the heap behind i turns, with the keys so far as values -/
def rMaxLam (X : Cx) (σ : L2.St) (mk : Addr → Addr → HO) (q : Str) (N : List Str) (js : List Nat) (tb : TE) : List V → List V → Hp → VK → Prop := fun vs zs H Q =>
  ∃ (a f c' : Addr) (xs : List Addr) (ks : List PyData) (G : Nat → List V → Hp → Prop), vs = [V.ref a] ∧ zs = [.ref f] ∧ xs ≠ [] ∧ ks.length = xs.length ∧ (∀ p ∈ ks, p ≠ .none ∧ p.depth ≤ 60 ∧ ∀ p' ∈ ks, PySem.W.alike p p' = true) ∧
    (∀ i us H', G i us H' → H' f = some (mk f c') ∧ H' c' = some (CodeO c' q) ∧ SqL X.K H' a (xs.map V.ref) ∧ DpAll X.K H' us (ks.take i)) ∧ G 0 [] H ∧
    (∀ i x us H', xs[i]? = some x → us.length = i → G i us H' → tb (startF N [.ref x] (js.map (slotAt σ))) H' fun u H'' => G (i + 1) (us ++ [u]) H'') ∧
    ∀ us H' x, G xs.length us H' → xs[argBest (btK ks) (xs.length - 1)]? = some x → Q (.ref x) H'
theorem DpAll.at_ {K : PySem.W.Frag} {H : Hp} : ∀ {xs : List V} {ps : List PyData} {i : Nat} {v : V} {p : PyData}, DpAll K H xs ps → xs[i]? = some v → ps[i]? = some p → Dp K H v p
  | _, _, _, _, _, .nil, h, _ => by simp at h
  | _, _, 0, _, _, .cons h t, e1, e2 => by simp at e1 e2; subst e1 e2; exact h
  | _, _, i + 1, _, _, .cons h t, e1, e2 => DpAll.at_ (i := i) t (by simpa using e1) (by simpa using e2)
theorem Vals.at_ : ∀ {vs : List V} {us : List Value} {i : Nat} {u : Value}, Vals vs us → us[i]? = some u → ∃ v, vs[i]? = some v ∧ RelV v u
  | _, _, _, _, .nil, h => by simp at h
  | _, _, 0, _, .cons r rs, e => by simp at e; subst e; exact ⟨_, rfl, r⟩
  | _, _, i + 1, _, .cons r rs, e => by
    obtain ⟨v, e1, e2⟩ := Vals.at_ rs (i := i) (by simpa using e)
    exact ⟨v, by simpa using e1, e2⟩
theorem cr_maxLam {X : Cx} {σ : L2.St} {N ps fr : List Str} {js : List Nat} {q : Str} {params : Arguments} {body : Expr} {scope : Scope} {cl : List (Str × Addr)} {tb : TE} {pins : List (Addr × Obj)} {s : Shared} {H : Hp} {xs zs : List V} {us ws : List Value} {Q : VK}
    (hdn : X.A.handled = none) (hroom : X.A.depth < recursionLimit) (hu : X.A.units + 65 < cLine) (S : NScope N ps fr scope) (hps : ps.length = 1) (cp : X.Ok → Caps X cl fr js)
    (hbind : ∀ (c' : Addr) (pm ctv u : Value), bindArgs (PySem.W.kla_fn "<lambda>" q params body scope cl pm (.ref c') ctv) ⟨[u], []⟩ = pure (ps.zip [u]))
    (hbody : ∀ (f c' : Addr) (s : Shared) (H : Hp), PE (ncx CX0 X.prog X.w X.K X.mg X.base N (lamF q params scope cl c') f X.A.in1 X.stack s H E0).nox body tb)
    (I : Inv X pins σ H s) (r : Vals xs us) (rz : Vals zs ws) (h : rMaxLam X σ (fun f c' => LamO f q params body scope cl c') q N js tb xs zs H Q) :
    wpAny (model X.prog X.w) X.A (call (.builtin "max") us ([Str.ofString "key"].zip ws)) (EP X pins σ Q) X.xe s := by
  obtain ⟨a, f, c', as, ks, G, rfl, rfl, hne, hlk, hks, gf, g0, gt, gq⟩ := h
  obtain rfl := Vals.ref1 r
  obtain ⟨w1, rfl, e1⟩ := vals1 rz
  obtain rfl : w1 = Value.ref f := e1
  have lst : ∀ {i : Nat} {us : List V} {H' : Hp} {s' : Shared}, Inv X pins σ H' s' → G i us H' → s'.heap.IsList a (as.map Value.ref).toArray := fun {i us H' s'} I' g => by
    obtain ⟨its, rv, hl, hz⟩ := I'.list (gf _ _ _ g).2.2.1
    have := refs_at rv
    subst this
    exact hl.isList
  have hsz : (as.map Value.ref).toArray.size = as.length := by simp
  have hpos : 0 < as.length := List.length_pos_iff.mpr hne
  refine maxJ (A := X.A) (l := a) (q := f) (vs := (as.map Value.ref).toArray) (bt := btK ks)
    (J := fun I S i us s' => ∃ H' vs, Inv X pins σ H' s' ∧ FpOk X pins H' I ∧ FpOk X pins H' S ∧ Vals vs us ∧ G i vs H') hdn (lst I g0) (by rw [hsz]; exact hpos)
    (fun It S2 h' tk h1 h2 _ kp => ?_) (fun It S2 h1 h2 hn12 => ⟨fun i us s s' jj m => ?_, fun i v us s o hi hv hl jj st so => ?_, fun i us s b ki kb Q E jj hl hi hb e1 e2 hq => ?_⟩) (fun It S2 v us s' hv hl jj => ?_)
  · exact ⟨H, [], I.kept kp, I.fpOk h1 (I.hok.fresh h1), I.fpOk h2 (I.hok.fresh h2), .nil, g0⟩
  · obtain ⟨H', vs, I', fI, fS, rvs, g⟩ := jj
    have e : s' = { s with heap := s'.heap, toks := s'.toks } := by
      obtain ⟨hp, gg, d, tk, os⟩ := s'
      have h1 : gg = s.gens := m.gens
      have h2 : d = s.drawn := m.drawn
      have h3 : os = s.os := m.os
      subst h1 h2 h3
      rfl
    rw [e]
    refine ⟨H', vs, I'.turnedL (ch := [S2, It]) (fun b o hb e => m.heap b o hb e) (fun b hb => ?_), fI, fS, rvs, g⟩
    rcases List.mem_cons.mp hb with z | z
    · rw [z]; exact fS
    · rw [List.mem_singleton.mp z]; exact fI
  · obtain ⟨H', vs, I', fI, fS, rvs, g⟩ := jj
    obtain ⟨k1, k2, k3, k4⟩ := gf _ _ _ g
    rw [hsz] at hi
    have hx : as[i]? = some as[i] := List.getElem?_eq_getElem hi
    obtain rfl : v = Value.ref as[i] := by
      have hv' : (as.map Value.ref)[i]? = some v := by simpa using hv
      rw [List.getElem?_map, hx] at hv'
      exact (Option.some.inj hv').symm
    have ht := gt i as[i] vs H' hx (by rw [rvs.length]; exact hl) g
    refine wpAny_mono (lam_call (X := X) (A := X.A.in1) rfl hdn hroom S hps (cp I'.ok) (hbind c') (hbody f c' s H') I' k1 k2 (v := .ref as[i]) rfl ht) (fun u s'' hq => ?_) fun _ _ z => z
    obtain ⟨v', H'', os, bare, un, hok, rv', g'⟩ := hq
    have keep : ∀ b, FpOk X pins H' b → ∀ o, s.heap.get? b = some o → s''.heap.get? b = some o ∧ H'' b = none := fun b fb o e => by
      have nb : b ∉ frs X.stack := fun z => by
        rcases List.mem_cons.mp (I'.stkSub _ z) with e' | e'
        · exact fb.2.1 e'
        · exact fb.2.2.1 e'
      exact ⟨un.keep b o e fb.1 nb (by simp), un.free b o e fb.1 (by simp)⟩
    have I2 : Inv X pins σ H'' s'' := I'.call' (ch := []) os un hok bare (fun b z => absurd z (by simp))
    obtain ⟨oi, ei, ti⟩ := st.1
    obtain ⟨a1, a2⟩ := keep It fI _ ei
    obtain ⟨b1, b2⟩ := keep S2 fS _ so
    exact ⟨⟨H'', vs ++ [v'], I2, ⟨a2, fI.2⟩, ⟨b2, fS.2⟩, rvs.append (.cons rv' .nil), g'⟩, ⟨⟨oi, a1, ti⟩, lst I2 g'⟩, b1⟩
  · obtain ⟨H', vs, I', fI, fS, rvs, g⟩ := jj
    obtain ⟨k1, k2, k3, k4⟩ := gf _ _ _ g
    rw [hsz] at hi
    have li : ks[i]? = some ks[i] := List.getElem?_eq_getElem (by omega)
    have lb : ks[b]? = some ks[b] := List.getElem?_eq_getElem (by omega)
    obtain ⟨vi, f1, f2⟩ := Vals.at_ rvs e1
    obtain ⟨vb, f3, f4⟩ := Vals.at_ rvs e2
    have di := DpAll.at_ k4 f1 (p := ks[i]) (by rw [List.getElem?_take_of_lt (by omega)]; exact li)
    have db := DpAll.at_ k4 f3 (p := ks[b]) (by rw [List.getElem?_take_of_lt (by omega)]; exact lb)
    obtain ⟨ai, ri⟩ := Dp.reads I' _ _ _ di f2
    obtain ⟨ab, rb⟩ := Dp.reads I' _ _ _ db f4
    obtain ⟨n1, n2, n3⟩ := hks ks[i] (List.getElem_mem _)
    have hd : (X.A.in1).units + min ks[i].depth ks[b].depth < cLine := by
      show X.A.units + 1 + min ks[i].depth ks[b].depth < cLine
      omega
    refine PySem.W.gt_data ri rb (n3 _ (List.getElem_mem _)) n1 hd ?_
    have : btK ks i b = PySem.W.dataLt ks[b] ks[i] := by
      show PySem.W.dataLt (ks.getD b .none) (ks.getD i .none) = _
      rw [List.getD_eq_getElem?_getD, List.getD_eq_getElem?_getD, li, lb]
      rfl
    rw [this] at hq
    exact hq
  · obtain ⟨H', vs, I', fI, fS, rvs, g⟩ := jj
    rw [hsz] at hv g
    have hv' : (as.map Value.ref)[argBest (btK ks) (as.length - 1)]? = some v := by simpa using hv
    rw [List.getElem?_map] at hv'
    cases hx : as[argBest (btK ks) (as.length - 1)]? with
    | none => rw [hx] at hv'; cases hv'
    | some x =>
      rw [hx] at hv'
      cases hv'
      exact ⟨.ref x, H', I', rfl, gq vs H' x g hx⟩
section
variable {X : Cx}
def tMaxLam (X : Cx) (P : Addr) (mk : Addr → Addr → HO) (q : Str) (N : List Str) (js : List Nat) (te tb : TE) : TE := fun σ H Q => te σ H fun v H1 => tLamO P q mk σ H1 fun f H2 => rMaxLam X σ mk q N js tb [v] [f] H2 Q
theorem pe_maxLam {P c : Addr} {N ps fr : List Str} {js : List Nat} {params : Arguments} {body e1 : Expr} {scope : Scope} {te tb : TE} {p pos lpos kp1 : Pos} (hg : Gl X "max") (hm : X.mg "max" = none) (hp : starEach [e1] X.env = (false, eval e1 X.env) :: starEach [] X.env)
    (TB : TabB X.base X.mg c P) (hcode : X.env.code = .ref c) (hdef : defaultsOf params X.env = ([], [])) (hfree : ∀ y ∈ scope.names, y.2 = .free → X.env.scope.names.lookup y.1 = some .cell ∨ X.env.scope.names.lookup y.1 = some .free)
    (hdn : X.A.handled = none) (hroom : X.A.depth < recursionLimit) (hu : X.A.units + 65 < cLine) (S : NScope N ps fr scope) (hps : ps.length = 1) (cp' : X.Ok → Caps X (cloFrom X.env.cells scope.names []) fr js)
    (hbind : ∀ (c' : Addr) (pm ctv u : Value), bindArgs (PySem.W.kla_fn "<lambda>" (X.env.qual ++ "<lambda>") params body scope (cloFrom X.env.cells scope.names []) pm (.ref c') ctv) ⟨[u], []⟩ = pure (ps.zip [u]))
    (hbody : ∀ (f c' : Addr) (s : Shared) (H : Hp), PE (ncx CX0 X.prog X.w X.K X.mg X.base N (lamF (X.env.qual ++ "<lambda>") params scope (cloFrom X.env.cells scope.names []) c') f X.A.in1 X.stack s H E0).nox body tb)
    (h1 : PE X e1 te) :
    PE X (.Call (.Name "max" p) [e1] [⟨some "key", .Lambda params body scope lpos, kp1⟩] pos)
      (tMaxLam X P (fun f c' => LamO f (X.env.qual ++ "<lambda>") params body scope (cloFrom X.env.cells scope.names []) c') (X.env.qual ++ "<lambda>") N js te tb) := by
  refine ⟨fun pins s σ H Q I h => ?_⟩
  have hks : (backToKw pos (keywordEach [(⟨some "key", .Lambda params body scope lpos, kp1⟩ : Keyword)] X.env)).filterMap (·.1) = [Str.ofString "key"] := by rfl
  have hk := pk_cons (nm := some "key") (kpos := kp1) (pe_lam (pos := lpos) (body := body) TB hcode hdef hfree) pk_nil
  refine wpAny_Call_Name_kw (ld_blt I hg hm (u := .builtin "max") (by decide +kernel) ?_ (by decide +kernel) (by decide +kernel))
  have ha : PA X [e1] (tCons te tNil) := pa_cons h1 pa_nil hp
  refine PyProof.Rows.callWith_kw (thn (ha.run pos pins s σ H (fun vs H1 => tLamO P (X.env.qual ++ "<lambda>") (fun f c' => LamO f (X.env.qual ++ "<lambda>") params body scope (cloFrom X.env.cells scope.names []) c') σ H1 fun f H2 => rMaxLam X σ (fun f c' => LamO f (X.env.qual ++ "<lambda>") params body scope (cloFrom X.env.cells scope.names []) c') (X.env.qual ++ "<lambda>") N js tb vs [f] H2 Q) I h) fun us s1 ⟨vs, H1, I1, r1, q1⟩ => thn (hk.run pos pins s1 σ H1 (fun zs H2 => rMaxLam X σ (fun f c' => LamO f (X.env.qual ++ "<lambda>") params body scope (cloFrom X.env.cells scope.names []) c') (X.env.qual ++ "<lambda>") N js tb vs zs H2 Q) I1 ?_) fun ws s2 ⟨zs, H2, I2, r2, q2⟩ => ?_) (by rw [hp]; rfl) (by rw [hp]; rfl) rfl rfl
  · exact q1
  · rw [hks]
    exact cr_maxLam hdn hroom hu S hps cp' hbind hbody I2 r1 r2 q2
end
/-! ### list(d), del d[k], dict(pairs) -/
theorem src_dictH {prog : Program} {w : World} {κ : Type} [DecidableEq κ] {knd : HeapKind prog w κ} {d : Addr} {xs : List (κ × Addr × Value)} {es : Array DictEntry} {ep : Nat} (lo : (d == sysModules) = false)
    (hx : ∀ i (hi : i < es.size), ∃ y, xs[i]? = some y ∧ es[i].key = .ref y.2.1 ∧ es[i].val = y.2.2) : PySem.W.KdlSrc prog w "dict" d d es.size (fun i v => ∃ y, xs[i]? = some y ∧ v = .ref y.2.1) (fun h => h.DictRaw d es ep) where
  type := fun _ hm => hm.typeIs
  there := fun _ hm => let ⟨o, ho, _⟩ := hm; ⟨Heap.lt_size ho, Heap.lt_size ho⟩
  keep := fun _ _ hm hk => hm.at fun o e => hk d (.inl rfl) o e
  notList := by decide
  notTuple := by decide
  hint := fun _ _ _ _ hm hq => PySem.W.kdl_hint_dict hm.typeIs hq
  iter := fun _ s hh hm => ⟨_, _, (fun _ _ hq => wpAny_pyIter_dict_raw lo hm hq), Walks.keysH hh _ d (Nat.ne_of_lt (let ⟨_, ho, _⟩ := hm; Heap.lt_size ho)) es ep hx, ⟨⟨_, Heap.get?_push_size _ rfl, rfl, rfl⟩, hm.at fun o e => Heap.get?_push_of_some _ e⟩⟩
/-- the keys of a dict, as they stand -/
abbrev KeysAt (H : Hp) (kvs : List (List Key × V)) (ys : List Addr) : Prop := Paired (fun kv y => H y = some (.tup (kv.1.map kV))) kvs ys
theorem KT.addrs {H : Hp} : ∀ {kvs : List (List Key × V)} {xs : List (List Key × Addr × Value)}, KT H kvs xs → KeysAt H kvs (xs.map (·.2.1))
  | _, _, .nil => .nil
  | _, _, .cons h t => .cons h.2.1 (KT.addrs t)
theorem list_ext_at {α : Type} : ∀ {as bs : List α}, as.length = bs.length → (∀ (i : Nat) (a : α), as[i]? = some a → bs[i]? = some a) → as = bs
  | [], [], _, _ => rfl
  | [], _ :: _, h, _ => by simp at h
  | _ :: _, [], h, _ => by simp at h
  | a :: as, b :: bs, h, f => by
    have h0 := f 0 a rfl
    have h1 : b = a := by simpa using h0
    subst h1
    exact congrArg (b :: ·) (list_ext_at (by simpa using h) fun i x e => by simpa using f (i + 1) x (by simpa using e))
def rListT : List V → Hp → VK → Prop := fun xs H Q => ∃ (a : Addr) (kvs : List (List Key × V)), xs = [.ref a] ∧ H a = some (.dT kvs) ∧ ∀ p ys, H p = none → KeysAt H kvs ys → Q (.ref p) (upd H p (.lst (ys.map V.ref)))
theorem call_listT {X : Cx} (hcalm : X.calm = true) : CallR X (.type "list") rListT := by
  intro pins s σ H xs us Q I r q
  obtain ⟨a, kvs, rfl, hd, q⟩ := q
  obtain ⟨u, rfl, rx⟩ := vals1 r
  obtain rfl : u = .ref a := rx
  obtain ⟨z, lo, ys, rel, dd⟩ := dt_of I.hok hd
  obtain ⟨es, ep, hr, hs, hx⟩ := dd.raw
  have hl : kvs.length = ys.length := Paired.length rel
  refine PySem.W.kdl_call (src_dictH (knd := tupleKind (mixKind X.prog X.w)) (xs := ys) lo fun i hi => let ⟨y, h1, h2, h3, _⟩ := hx i hi; ⟨y, h1, h2, h3⟩) (I.ok.hd hcalm) hr (by rw [hs, ← hl]; exact z) fun h' tk acc c' hk hD hacc => ?_
  have el : acc.toList = (ys.map (·.2.1)).map Value.ref := by
    refine list_ext_at (by rw [Array.length_toList, hacc.1, hs]; simp) fun i v e => ?_
    obtain ⟨y, h1, h2⟩ := hacc.2 i v (by rw [← Array.getElem?_toList]; exact e)
    rw [List.map_map, List.getElem?_map, h1, h2]
    rfl
  refine ⟨.ref s.heap.objs.size, upd H s.heap.objs.size (.lst ((ys.map (·.2.1)).map V.ref)), I.laid (t' := tk) hk (Nat.le_refl _)
    (show ObjOk X.prog X.w _ _ _ (.lst ((ys.map (·.2.1)).map V.ref)) from ⟨by simp only [List.length_map]; rw [← hl]; exact z, acc.toList, c', ?_, by rw [Array.toArray_toList]; exact hD⟩), rfl, q _ _ (I.hok.fresh (Nat.le_refl _)) (KT.addrs rel)⟩
  rw [el]
  generalize ys.map (·.2.1) = as
  induction as with
  | nil => exact .nil
  | cons x xs ih => exact .cons rfl ih
def sDDelT (td ty : TE) : TS := fun D σ H => td σ H fun x H1 => ty σ H1 fun y H2 => ∃ a kvs k b v, x = .ref a ∧ H2 a = some (.dT kvs) ∧ y = .ref b ∧ H2 b = some (.tup (k.map kV)) ∧ valV kvs k = some v ∧ D.nx σ (upd H2 a (.dT (dropK kvs k)))
section
variable {X : Cx} {o i : Expr} {pos tpos : Pos} {td ty : TE}
theorem ps_ddelT (hu : X.A.units + 1 < cLine) (ho : PE X o td) (hi : PE X i ty) : PS X (.Delete [.Subscript o i tpos] pos) (sDDelT td ty) := by
  refine ⟨fun pins s σ H D I h => ?_⟩
  refine wpAny_Delete (wpAny_deleteEach_cons (wpAny_delete_Subscript (thn (ho.run pins s σ H _ I h) fun u s1 ⟨x, H1, I1, rx, q1⟩ => thn (hi.run pins s1 σ H1 _ I1 q1) fun iv s2 ⟨y, H2, I2, ry, a, kvs, k, b, v, ex, e, ey, eb, l, q2⟩ => ?_)))
  subst ex ey
  obtain rfl : u = Value.ref a := rx
  obtain rfl : iv = Value.ref b := ry
  obtain ⟨z, hd, xs, rel, dd⟩ := dt_of I2.hok e
  obtain ⟨w', hw, _⟩ := RelO.some_of (v := v) (o := (atKey xs k).map (·.2)) (by rw [← l]; exact rel.val k)
  obtain ⟨p, hp, _⟩ := Option.map_eq_some_iff.mp hw
  have hz : xs.length ≤ sizeLine := by rw [← Paired.length rel]; exact z
  refine wpAny_delItem_heap (hsz := hz) (tupleKind_room_in1 hu) (key_of I2.hok eb) hd dd hp fun h' dd' hs => wpAny_deleteEach_nil ?_
  obtain ⟨q', es, ep, hq, h2, h3, h4, _, h5⟩ := dd'
  refine ⟨σ, upd H2 a (.dT (dropK kvs k)), d_write I2 (by rw [e]; exact True.intro) hs ⟨q', hq⟩ ⟨Nat.le_trans (List.length_filter_le _ _) z, hd, _, (KT.drop rel k).keeps fun c ys ec => ?_, q', es, ep, hq, h2, h3, h4, h5⟩, q2⟩
  rw [upd_ne (ne_of ec e (fun z => nomatch z))]
  exact ec
end
end Dl
end

section
set_option Elab.async false
set_option linter.all false
set_option maxRecDepth 100000
set_option maxHeartbeats 2000000
/-! Dl: raw rules: new tuples whose whole object is known (dict() asks a tuple for an attribute: its own dict must be known to be none) -/
namespace Dl
open PySem PySem.Spec PyProof.Rows L2
/-- a new tuple, its object told or not -/
def tupO (b : Bool) (o : Obj) (xs : List V) : HO := if b then .frz o (.tup xs) else .tup xs
theorem objOk_tupO {P : Program} {w : World} {H : Hp} {h : Heap} {a : Addr} {o : Obj} {xs : List V} {b : Bool} {its : List Value} {n : Nat} (hz : xs.length ≤ sizeLine) (r : Vals xs its) (e : h.get? a = some o) (ec : o.cls = .type "tuple") (ed : o.data = .seq its.toArray n) : ObjOk P w H h a (tupO b o xs) := by
  cases b with
  | false => exact ⟨hz, its, r, o, e, ec, n, ed⟩
  | true => exact ⟨e, hz, its, r, o, e, ec, n, ed⟩
/-- whatever tuple is made -/
abbrev NewT (b : Bool) (xs : List V) (H : Hp) (Q : VK) : Prop := ∀ p o, H p = none → o.dict = none → Q (.ref p) (upd H p (tupO b o xs))
abbrev tupOf (its : Array Value) : Obj := { cls := .type "tuple", data := .seq its }
theorem newT {X : Cx} {pins : List (Addr × Obj)} {σ : L2.St} {H : Hp} {s : Shared} {h' : Heap} {t' : Nat} {xs : List V} {its : List Value} {b : Bool} {Q : VK} (I : Inv X pins σ H { s with heap := h', toks := t' }) (hz : xs.length ≤ sizeLine) (r : Vals xs its) (q : NewT b xs H Q) :
    EP X pins σ Q (.ref h'.objs.size) { s with heap := h'.push (tupOf its.toArray), toks := t' } := by
  refine ⟨.ref h'.objs.size, upd H h'.objs.size (tupO b (tupOf its.toArray) xs), I.laid (t' := t') (fun b u e => Heap.get?_push_of_some _ e) (Nat.le_refl _) ?_, rfl, q _ _ (I.hok.fresh (Nat.le_refl _)) rfl⟩
  exact objOk_tupO hz r (Heap.get?_push_size _ rfl) rfl rfl
section
variable {X : Cx}
def tTupX (t : TA) : TE := fun σ H Q => t σ H fun xs H1 => xs.length ≤ sizeLine ∧ ∃ b, NewT b xs H1 Q
theorem pe_tupX {es : List Expr} {x1 : Nat} {pos : Pos} {t : TA} (h : PA X es t) : PE X (.Tuple es x1 pos) (tTupX t) :=
  ⟨fun pins s σ H Q I hq => wpAny_Tuple_spliced (thn (h.run pos pins s σ H _ I hq) fun us s1 ⟨xs, H1, I1, r, z, b, q⟩ => ⟨by rw [← r.length]; exact z, newT (h' := s1.heap) (t' := s1.toks) I1 z r q⟩)⟩
def rTupleX (K : PySem.W.Frag) : List V → Hp → VK → Prop := fun xs H Q => ∃ p ys, xs = [.ref p] ∧ ((SqL K H p ys ∧ ∃ b, NewT b ys H Q) ∨ (SqT K H p ys ∧ Q (.ref p) H))
theorem call_tupleX : CallR X (.type "tuple") (rTupleX X.K) := by
  intro pins s σ H xs us Q I r h
  obtain ⟨p, ys, rfl, h⟩ := h
  obtain ⟨u, rfl, rx⟩ := vals1 r
  cases rx
  rcases h with ⟨hq, b, q⟩ | ⟨hq, q⟩
  · obtain ⟨its, r', pl, hz⟩ := I.list hq
    have hl := r'.length
    refine call_tuple_list pl.isList (fun h' kp => newT (h' := h') (t' := s.toks) (I.kept (t' := s.toks) kp) hz r' q) (by simp only [List.size_toArray]; omega)
  · obtain ⟨its, r', pl, hz⟩ := I.tuple hq
    exact call_tuple_same pl ⟨.ref p, H, I, rfl, q⟩
def rSlX (K : PySem.W.Frag) : V → Option Int → Option Int → Hp → VK → Prop := fun x lo hi H Q => ∃ a xs, x = .ref a ∧ SqT K H a xs ∧
  (HT.sIx xs.length 0 lo = 0 ∧ HT.sIx xs.length xs.length hi = xs.length → Q (.ref a) H) ∧ (¬ (HT.sIx xs.length 0 lo = 0 ∧ HT.sIx xs.length xs.length hi = xs.length) → ∃ b, NewT b (cutV xs lo hi) H Q)
theorem sl_tupX : SlR X (rSlX X.K) := by
  intro pins s σ H x v vl vu lo hi sl Q I rx hs pl pu h
  obtain ⟨a, xs, rfl, hx, q1, q2⟩ := h
  cases rx
  obtain ⟨its, r, ht, hz⟩ := I.tuple hx
  have hl : its.toArray.size = xs.length := by rw [List.size_toArray]; exact r.length.symm
  refine ⟨"tuple", _, PyProof.Rows.slot_tuple_getitem.lookup, ht.typeIs, ?_⟩
  by_cases hw : HT.sIx xs.length 0 lo = 0 ∧ HT.sIx xs.length xs.length hi = xs.length
  · exact getItem_tuple_whole ht hs pl pu (by rw [hl]; exact hw) ⟨.ref a, H, I, rfl, q1 hw⟩
  · obtain ⟨b, q⟩ := q2 hw
    refine HT.getItem_tuple_cut ht hs pl pu (by rw [hl]; exact hw) ?_ (by rw [hl]; exact hz)
    rw [hl]
    exact newT (h' := s.heap) (t' := s.toks) I (Nat.le_trans (cutV_length xs lo hi) hz) ((r.drop (HT.sIx xs.length 0 lo)).take (HT.sIx xs.length xs.length hi - HT.sIx xs.length 0 lo)) q
def rCatX (K : PySem.W.Frag) : R2 := fun x y H Q => ∃ a b xs ys, x = .ref a ∧ y = .ref b ∧ SqT K H a xs ∧ SqT K H b ys ∧ xs.length + ys.length ≤ sizeLine ∧ (xs = [] → Q (.ref b) H) ∧ (xs ≠ [] → ys = [] → Q (.ref a) H) ∧ (xs ≠ [] → ys ≠ [] → ∃ t, NewT t (xs ++ ys) H Q)
theorem op_catX : OpR X (binaryOp .Add) (rCatX X.K) := by
  intro pins s σ H x y v u Q I rx ry h
  obtain ⟨a, b, xs, ys, rfl, rfl, ha, hb, hz, q0, q1, q2⟩ := h
  cases rx
  cases ry
  obtain ⟨its, r1, p1, _⟩ := I.tuple ha
  obtain ⟨its2, r2, p2, _⟩ := I.tuple hb
  by_cases hx : xs = []
  · subst hx
    cases r1
    exact cat_tup0 p1 p2 ⟨.ref b, H, I, rfl, q0 rfl⟩
  · refine HT.cat_tup p1 p2 (fun z => hx (r1.nil_iff.mp z)) (fun z => ⟨.ref a, H, I, rfl, q1 hx (r2.nil_iff.mp z)⟩) (fun z => ?_) (by rw [← r1.length, ← r2.length]; exact hz)
    obtain ⟨t, q⟩ := q2 hx fun e => z (r2.nil_iff.mpr e)
    exact newT (h' := s.heap) (t' := s.toks) I (by rw [List.length_append]; exact hz) (r1.append r2) q
/-! ### dict(t): t a tuple of pairs, the first of each a tuple of ints -/
/-- a tuple whose own dict is none -/
def TupX (K : PySem.W.Frag) (H : Hp) (a : Addr) : Prop := (∃ o xs, H a = some (.frz o (.tup xs)) ∧ o.dict = none) ∨ ∃ o, K.lookup a = some o ∧ o.dict = none
def mergeT (kvs : List (List Key × V)) (ps : List (List Key × V)) : List (List Key × V) := ps.foldl (fun acc q => putK acc q.1 q.2) kvs
theorem KT.merge {H : Hp} : ∀ {ps : List (List Key × V)} {zs : List (List Key × Addr × Value)} {kvs : List (List Key × V)} {xs : List (List Key × Addr × Value)}, KT H ps zs → KT H kvs xs → KT H (mergeT kvs ps) (storedAllH xs zs)
  | _, _, _, _, .nil, r => r
  | _, _, _, _, .cons (a := ⟨pk, pv⟩) (b := ⟨zk, za, zv⟩) h t, r => by
    obtain ⟨e, h2, h3⟩ := h
    cases e
    have q := KT.merge t (KT.put r pk h2 h3)
    exact q
theorem paired_right {α β : Type} {F : α → β → Prop} : ∀ {as : List α} {bs : List β} {j : Nat} {b : β}, Paired F as bs → bs[j]? = some b → ∃ a, as[j]? = some a ∧ F a b
  | _, _, _, _, .nil, h => by simp at h
  | _, _, 0, _, .cons h t, e => by simp at e; subst e; exact ⟨_, rfl, h⟩
  | _, _, j + 1, _, .cons h t, e => by
    obtain ⟨a, e1, e2⟩ := paired_right t (j := j) (by simpa using e)
    exact ⟨a, by simpa using e1, e2⟩
theorem merge_len (ps : List (List Key × V)) : ∀ kvs : List (List Key × V), (mergeT kvs ps).length ≤ kvs.length + ps.length := by
  induction ps with
  | nil => intro kvs; exact Nat.le_refl _
  | cons q ps ih =>
    intro kvs
    have h := ih (putK kvs q.1 q.2)
    have h2 := length_putK kvs q.1 q.2
    show (mergeT (putK kvs q.1 q.2) ps).length ≤ _
    rw [List.length_cons]
    omega
/-- what the items of the tuple are: at ps the pairs, their keys at the addresses ks -/
def PairsAt (K : PySem.W.Frag) (H : Hp) : List Addr → List (List Key × V) → Prop := Paired fun p kv => ∃ b, SqT K H p [.ref b, kv.2] ∧ H b = some (.tup (kv.1.map kV))
def rDictT (K : PySem.W.Frag) : List V → Hp → VK → Prop := fun xs H Q => ∃ (a : Addr) (ps : List Addr) (kvs : List (List Key × V)), xs = [.ref a] ∧ SqT K H a (ps.map V.ref) ∧ TupX K H a ∧ PairsAt K H ps kvs ∧ ∀ p, H p = none → Q (.ref p) (upd H p (.dT (mergeT [] kvs)))
theorem pairsAt_of {X : Cx} {pins : List (Addr × Obj)} {σ : L2.St} {H : Hp} {s : Shared} (I : Inv X pins σ H s) : ∀ {ps : List Addr} {kvs : List (List Key × V)}, PairsAt X.K H ps kvs →
    ∃ zs : List (List Key × Addr × Value), KT H kvs zs ∧ zs.length = ps.length ∧ ∀ (j : Nat) (z : List Key × Addr × Value), zs[j]? = some z → ∃ p, ps[j]? = some p ∧ IsTup s.heap p #[.ref z.2.1, z.2.2]
  | _, _, .nil => ⟨[], .nil, rfl, fun j q e => by simp at e⟩
  | _, _, .cons (a := p) (b := kv) h t => by
    obtain ⟨zs, r, hl, hp⟩ := pairsAt_of I t
    obtain ⟨b, h1, h2⟩ := h
    obtain ⟨its, rv, ht, _⟩ := I.tuple h1
    obtain ⟨u, y, ei, ru, ry⟩ := vals2 rv
    subst ei
    obtain rfl : u = Value.ref b := ru
    refine ⟨(kv.1, b, y) :: zs, .cons ⟨rfl, h2, ry⟩ r, by simp [hl], fun j z e => ?_⟩
    cases j with
    | zero => simp at e; subst e; exact ⟨p, rfl, ht⟩
    | succ j => exact hp j z (by simpa using e)
theorem tupX_at {X : Cx} {pins : List (Addr × Obj)} {σ : L2.St} {H : Hp} {s : Shared} (I : Inv X pins σ H s) {a : Addr} (t : TupX X.K H a) : ∃ o, s.heap.get? a = some o ∧ o.dict = none := by
  rcases t with ⟨o, xs, h, hd⟩ | ⟨o, h, hd⟩
  · exact ⟨o, (I.hok a _ h).1, hd⟩
  · exact ⟨o, I.kIn a o h, hd⟩
theorem call_dictT (hcalm : X.calm = true) (hu : X.A.units + 2 < cLine) : CallR X (.type "dict") (rDictT X.K) := by
  intro pins s σ H xs us Q I r q
  obtain ⟨a, ps, kvs, rfl, hq, hx, hp, q⟩ := q
  obtain ⟨u, rfl, rx⟩ := vals1 r
  obtain rfl : u = .ref a := rx
  obtain ⟨its, rv, ht, hz⟩ := I.tuple hq
  obtain rfl := refs_at rv
  rw [List.length_map] at hz
  obtain ⟨zs, rel, hl, hzs⟩ := pairsAt_of I hp
  obtain ⟨o, ho, hd⟩ := tupX_at I hx
  obtain ⟨o', ho', hc, n, hdat⟩ := ht
  rw [ho] at ho'
  cases ho'
  have hlen : ps.length = kvs.length := Paired.length hp
  let prs : List (Value × Value) := zs.map fun z => (.ref z.2.1, z.2.2)
  have ePrs : ∀ (j : Nat) (k v : Value), prs[j]? = some (k, v) → ∃ z, zs[j]? = some z ∧ k = .ref z.2.1 ∧ v = z.2.2 := fun j k v e => by
    rw [List.getElem?_map] at e
    cases h : zs[j]? with
    | none => rw [h] at e; cases e
    | some z => rw [h] at e; cases e; exact ⟨z, rfl, rfl, rfl⟩
  have hpl : prs.length = ps.length := by rw [List.length_map, hl]
  refine call_dict_pairsH (knd := tupleKind (mixKind X.prog X.w)) (ps := zs) (PairArg.tuple a (ps.map Value.ref).toArray (fun j => ps.getD j 0) prs) (I.ok.hd hcalm) (show X.A.units + 2 < cLine from hu)
    ⟨⟨o, n, ho, hc, hd, hdat⟩, ⟨by simp [hpl], fun j k v e => ?_⟩⟩ ⟨by simp [prs], fun i key v e => ?_⟩ (fun h' hk x hxm => ?_) (by rw [hpl]; exact hz) fun h' tk hd' hk => ?_
  · obtain ⟨z, e1, rfl, rfl⟩ := ePrs j k v e
    obtain ⟨p, e2, e3⟩ := hzs j z e1
    refine ⟨by simp [List.getElem?_map, e2], .inl ?_⟩
    show s.heap.IsTuple (ps.getD j 0) _
    rw [List.getD_eq_getElem?_getD, e2]
    exact e3
  · obtain ⟨z, e1, rfl, rfl⟩ := ePrs i key v e
    exact ⟨z.1, z.2.1, by rw [e1], rfl⟩
  · obtain ⟨j, hj⟩ := List.getElem?_of_mem hxm
    have hk2 : H x.2.1 = some (.tup (x.1.map kV)) := by
      obtain ⟨kv, e1, e2⟩ := paired_right rel hj
      rw [← e2.1]; exact e2.2.1
    have k0 := key_of I.hok hk2
    obtain ⟨o2, its2, n2, g1, g2⟩ := k0
    exact ⟨o2, its2, n2, hk _ _ (Nat.ne_of_lt (Heap.lt_size g1)) (by simp) g1, g2⟩
  · have hm : (s.heap.objs.size == sysModules) = false := beq_eq_false_iff_ne.mpr (Nat.ne_of_gt I.big)
    obtain ⟨q', es, ep, hq', g2, g3, g4, _, g5⟩ := hd'
    have kp : ∀ b ob, s.heap.get? b = some ob → h'.get? b = some ob := fun b ob e => hk b ob (by simp) e
    exact ⟨.ref s.heap.objs.size, upd H s.heap.objs.size (.dT (mergeT [] kvs)), I.laid (t' := tk) kp (Nat.le_refl _) (show ObjOk X.prog X.w _ _ _ (.dT (mergeT [] kvs)) from
      ⟨by have := merge_len kvs []; simp only [List.length_nil, Nat.zero_add] at this; omega, hm, _, (KT.merge rel .nil).keeps fun b ys eb => by
        rw [upd_ne (fun z => by rw [z] at eb; have := I.hok.fresh (Nat.le_refl s.heap.objs.size); rw [this] at eb; cases eb)]; exact eb, q', es, ep, hq', g2, g3, g4, g5⟩), rfl, q _ (I.hok.fresh (Nat.le_refl _))⟩
end
end Dl
end

section
/-! Dl: the defs of the text that make a lambda (one list for each law) -/
namespace Dl
def lamNames : List PySem.Str := []
end Dl
end

section
set_option Elab.async false
set_option linter.all false
set_option maxRecDepth 100000
/-! Dl: deep data over the hand layer. Data, a store of mutable objects, a small language, its big step meaning. -/
namespace Dl
open PySem PySem.Spec PyProof.Rows L2

/-- a datum: tuples are deep, lists and dicts stand in the store, ro is a list that is never written -/
inductive D where
  | non | bl (b : Bool) | int (i : Int) | str (x : Str) | tup (ds : List D) | ref (l : Nat) | ro (ds : List D) | fn (x : Str)
  deriving Inhabited

mutual
def D.beq : D → D → Bool
  | .non, .non => true
  | .bl a, .bl b => a == b
  | .int a, .int b => decide (a = b)
  | .str a, .str b => decide (a = b)
  | .tup a, .tup b => D.beqs a b
  | .ref a, .ref b => a == b
  | .ro a, .ro b => D.beqs a b
  | .fn a, .fn b => decide (a = b)
  | _, _ => false
def D.beqs : List D → List D → Bool
  | [], [] => true
  | a :: as, b :: bs => D.beq a b && D.beqs as bs
  | _, _ => false
end
mutual
theorem D.eq_of_beq : ∀ a b : D, D.beq a b = true → a = b
  | .non, b, h => by cases b <;> first | rfl | simp [D.beq] at h
  | .bl x, b, h => by cases b <;> simp [D.beq] at h; subst h; rfl
  | .int x, b, h => by cases b <;> simp [D.beq] at h; subst h; rfl
  | .str x, b, h => by cases b <;> simp [D.beq] at h; subst h; rfl
  | .tup x, b, h => by
    cases b with
    | tup y => rw [D.eqs_of_beqs x y (by simpa [D.beq] using h)]
    | _ => simp [D.beq] at h
  | .ref x, b, h => by cases b <;> simp [D.beq] at h; subst h; rfl
  | .ro x, b, h => by
    cases b with
    | ro y => rw [D.eqs_of_beqs x y (by simpa [D.beq] using h)]
    | _ => simp [D.beq] at h
  | .fn x, b, h => by cases b <;> simp [D.beq] at h; subst h; rfl
theorem D.eqs_of_beqs : ∀ a b : List D, D.beqs a b = true → a = b
  | [], [], _ => rfl
  | [], _ :: _, h => by simp [D.beqs] at h
  | _ :: _, [], h => by simp [D.beqs] at h
  | a :: as, b :: bs, h => by
    simp only [D.beqs, Bool.and_eq_true] at h
    rw [D.eq_of_beq a b h.1, D.eqs_of_beqs as bs h.2]
end
mutual
theorem D.beq_self : ∀ a : D, D.beq a a = true
  | .non => rfl
  | .bl x => by simp [D.beq]
  | .int x => by simp [D.beq]
  | .str x => by simp [D.beq]
  | .tup x => by simp only [D.beq]; exact D.beqs_self x
  | .ref x => by simp [D.beq]
  | .ro x => by simp only [D.beq]; exact D.beqs_self x
  | .fn x => by simp [D.beq]
theorem D.beqs_self : ∀ a : List D, D.beqs a a = true
  | [] => rfl
  | a :: as => by simp only [D.beqs, D.beq_self a, D.beqs_self as, Bool.and_self]
end
instance : DecidableEq D := fun a b => if h : D.beq a b = true then isTrue (D.eq_of_beq a b h) else isFalse fun e => h (e ▸ D.beq_self a)

/-- an object of the store -/
inductive Ob where
  | lst (ds : List D)
  | dk (kvs : List (Key × D))
  | dt (lk : Bool) (kvs : List (List Key × D))
  | obj (C : Str) (fs : List (Str × D))
  deriving DecidableEq, Inhabited

abbrev Store := List Ob
/-- the slots of a def -/
abbrev Sl := List (Option D)
def M (α : Type) := Store → Option (α × Store)
@[inline] def M.pur {α : Type} (a : α) : M α := fun S => some (a, S)
@[inline] def M.bnd {α β : Type} (m : M α) (f : α → M β) : M β := fun S => match m S with | some (a, S') => f a S' | none => none
instance : Monad M := { pure := M.pur, bind := M.bnd }
def fail {α : Type} : M α := fun _ => none
def getO (l : Nat) : M Ob := fun S => match S[l]? with | some o => some (o, S) | none => none
def setO (l : Nat) (o : Ob) : M Unit := fun S => if l < S.length then some ((), S.set l o) else none
def newO (o : Ob) : M D := fun S => some (.ref S.length, S ++ [o])
def need (b : Bool) : M Unit := fun S => if b then some ((), S) else none

/-- what holds behind a run that ends -/
def wp {α : Type} (m : M α) (Q : α → Store → Prop) (S : Store) : Prop := match m S with | some (a, S') => Q a S' | none => False
section
variable {α β : Type}
@[simp] theorem wp_pure (a : α) (Q : α → Store → Prop) (S : Store) : wp (pure a : M α) Q S = Q a S := rfl
@[simp] theorem wp_bind (m : M α) (f : α → M β) (Q : β → Store → Prop) (S : Store) : wp (m >>= f) Q S = wp m (fun a S' => wp (f a) Q S') S := by
  show (match (match m S with | some (a, S') => f a S' | none => none) with | some (a, S') => Q a S' | none => False) = _
  unfold wp
  cases m S with
  | none => rfl
  | some p => rfl
@[simp] theorem wp_fail (Q : α → Store → Prop) (S : Store) : wp (fail : M α) Q S = False := rfl
theorem wp_mono {m : M α} {Q R : α → Store → Prop} {S : Store} (h : wp m Q S) (k : ∀ a S', Q a S' → R a S') : wp m R S := by
  unfold wp at *
  cases e : m S with
  | none => rw [e] at h; exact h
  | some p => rw [e] at h; exact k _ _ h
theorem wp_of {m : M α} {Q : α → Store → Prop} {S S' : Store} {a : α} (e : m S = some (a, S')) (h : Q a S') : wp m Q S := by unfold wp; rw [e]; exact h
theorem wp_some {m : M α} {Q : α → Store → Prop} {S : Store} (h : wp m Q S) : ∃ a S', m S = some (a, S') ∧ Q a S' := by
  unfold wp at h
  cases e : m S with
  | none => rw [e] at h; exact h.elim
  | some p => rw [e] at h; exact ⟨p.1, p.2, rfl, h⟩
@[simp] theorem wp_getO (l : Nat) (Q : Ob → Store → Prop) (S : Store) : wp (getO l) Q S = ∃ o, S[l]? = some o ∧ Q o S := by
  unfold wp getO
  cases S[l]? with
  | none => simp
  | some o => simp
@[simp] theorem wp_setO (l : Nat) (o : Ob) (Q : Unit → Store → Prop) (S : Store) : wp (setO l o) Q S = (l < S.length ∧ Q () (S.set l o)) := by
  unfold wp setO
  by_cases h : l < S.length <;> simp [h]
@[simp] theorem wp_newO (o : Ob) (Q : D → Store → Prop) (S : Store) : wp (newO o) Q S = Q (.ref S.length) (S ++ [o]) := rfl
@[simp] theorem wp_need (b : Bool) (Q : Unit → Store → Prop) (S : Store) : wp (need b) Q S = (b = true ∧ Q () S) := by
  unfold wp need
  cases b <;> simp
theorem wp_ite (c : Bool) (a b : M α) (Q : α → Store → Prop) (S : Store) : wp (if c = true then a else b) Q S = if c = true then wp a Q S else wp b Q S := by cases c <;> rfl
end

/-! ### operations on data -/
/-- numbers whose product the machine takes -/
def mulFits (i j : Int) : Bool := decide (i.natAbs.log2 + j.natAbs.log2 < 1000000)
def getL (d : D) : M (List D) := match d with
  | .ref l => do match ← getO l with | .lst ds => pure ds | _ => fail
  | .ro ds => pure ds
  | _ => fail
/-- the items of a list or a tuple -/
def getS (d : D) : M (List D) := match d with
  | .tup ds => pure ds
  | d => getL d
def lens (n : Nat) : Bool := decide (n ≤ sizeLine)
/-- of the data that == compares -/
def flat : D → Bool
  | .non => true | .bl _ => true | .int _ => true | .str _ => true | _ => false
mutual
def pyOf : D → Option PyData
  | .non => some .none
  | .bl b => some (.bool b)
  | .int i => some (.int i)
  | .str x => some (.str x)
  | .tup ds => (pysOf ds).map .tuple
  | .ref _ => none
  | .ro _ => none
  | .fn _ => none
def pysOf : List D → Option (List PyData)
  | [] => some []
  | d :: ds => match pyOf d, pysOf ds with
    | some a, some b => some (a :: b)
    | _, _ => none
end
/-- a datum to be compared by ==: lists one deep -/
def pyAt (S : Store) : D → Option PyData
  | .ref l => match S[l]? with | some (.lst ds) => (pysOf ds).map .list | _ => none
  | d => pyOf d
def pysAt (S : Store) : List D → Option (List PyData)
  | [] => some []
  | d :: ds => match pyAt S d, pysAt S ds with
    | some a, some b => some (a :: b)
    | _, _ => none
/-- the first place of an item that is == d -/
def remAt (xs : List D) (d : D) : M Nat := fun S => match pysAt S xs, pyAt S d with
  | some ps, some p => if SeqAt.shaped (.list ps) && SeqAt.shaped p then (match ps.findIdx? fun z => PyData.eqv z p with | some j => some (j, S) | none => none) else none
  | _, _ => none
def eqD (a b : D) : M Bool := fun S => match pyAt S a, pyAt S b with
  | some x, some y => if SeqAt.shaped x && SeqAt.shaped y then some (PyData.eqv x y, S) else none
  | _, _ => none
def intsOf : List D → Option (List Int)
  | [] => some []
  | .int i :: ds => (intsOf ds).map (i :: ·)
  | _ => none
def blsOf : List D → Option (List Bool)
  | [] => some []
  | .bl i :: ds => (blsOf ds).map (i :: ·)
  | _ => none
/-- a tuple of ints as a key -/
def keyI : D → Option (List Key)
  | .tup ds => match intsOf ds with
    | some (i :: is) => some ((i :: is).map Sum.inl)
    | _ => none
  | _ => none
def isKey (ds : List D) : Bool := (keyI (.tup ds)).isSome
/-- a key as a tuple -/
def unkey (k : List Key) : D := .tup (k.map fun x => match x with | .inl i => .int i | .inr x => .str x)
def findT (kvs : List (List Key × D)) (k : List Key) : Option D := (kvs.find? fun kv => decide (kv.1 = k)).map (·.2)
/-- in its place, or at the end -/
def putT (kvs : List (List Key × D)) (k : List Key) (d : D) : List (List Key × D) :=
  if (kvs.any fun kv => decide (kv.1 = k)) = true then kvs.map (fun kv => if kv.1 = k then (kv.1, d) else kv) else kvs ++ [(k, d)]
def dropT (kvs : List (List Key × D)) (k : List Key) : List (List Key × D) := kvs.filter fun kv => decide (kv.1 ≠ k)
/-- a dict: is it locked, what it holds -/
def getT (d : D) : M (Bool × List (List Key × D)) := match d with
  | .ref l => do match ← getO l with | .dt b kvs => pure (b, kvs) | _ => fail
  | _ => fail
def toKey (d : D) : M (List Key) := match keyI d with | some k => pure k | none => fail
def dgetD (x y : D) : M D := do
  let t ← getT x
  let k ← toKey y
  match findT t.2 k with | some d => pure d | none => fail
def dinD (y x : D) : M Bool := do
  let t ← getT x
  let k ← toKey y
  pure (findT t.2 k).isSome
def isT (d : D) : M Unit := do let _ ← getT d; pure ()
def dget2D (x y z : D) : M D := do
  let t ← getT x
  let k ← toKey y
  pure ((findT t.2 k).getD z)
def dpopD (x y : D) : M D := match x with
  | .ref l => do
    match ← getO l with
    | .dt false kvs => do
      let k ← toKey y
      match findT kvs k with
      | some d => do setO l (.dt false (dropT kvs k)); pure d
      | none => fail
    | _ => fail
  | _ => fail
def dputD (x y z : D) : M Unit := match x with
  | .ref l => do
    match ← getO l with
    | .dt false kvs => do
      let k ← toKey y
      need (decide (kvs.length < sizeLine))
      setO l (.dt false (putT kvs k z))
    | _ => fail
  | _ => fail
/-- pairs of tuples of ints -/
def pairI : D → Option (List Int × List Int)
  | .tup [.tup a, .tup b] => match intsOf a, intsOf b with
    | some m, some n => some (m, n)
    | _, _ => none
  | _ => none
def pairsI : List D → Option (List (List Int × List Int))
  | [] => some []
  | d :: ds => match pairI d, pairsI ds with
    | some p, some ps => some (p :: ps)
    | _, _ => none
def encI (k : List Int) : PyData := .tuple (k.map .int)
def encP (p : List Int × List Int) : PyData := .tuple [encI p.1, encI p.2]
/-- downwards by the keys, stable -/
def sortBy (ds : List D) (ks : List PyData) : List D := ((ds.zip ks).mergeSort (PySem.W.dataLe true (·.2))).map (·.1)
def sortPD (x : D) : M D := do
  let ds ← getL x
  match pairsI ds with
  | some ps => newO (.lst (sortBy ds (ps.map encP)))
  | none => fail
/-- a polynomial, or nothing -/
def isI : D → Bool | .int _ => true | _ => false
def isM : D → Bool
  | .str _ => true
  | .tup [.tup (a :: as), .tup [.int _, .int _]] => (a :: as).all isI
  | _ => false
def isX (ds : List D) : Bool := ds.all isM
/-- the place of the first greatest key -/
def bestI (ks : List PyData) : Nat → Nat
  | 0 => 0
  | k + 1 => if PySem.W.dataLt (ks.getD (bestI ks k) .none) (ks.getD (k + 1) .none) = true then k + 1 else bestI ks k
/-- a pair of a tuple of ints and of a thing -/
def entD : D → Option (List Key × D)
  | .tup [k, v] => match keyI k with | some z => some (z, v) | none => none
  | _ => none
def entsD : List D → Option (List (List Key × D))
  | [] => some []
  | d :: ds => match entD d, entsD ds with
    | some p, some ps => some (p :: ps)
    | _, _ => none
def dofD (x : D) : M D := match x with
  | .tup ds => match entsD ds with
    | some kvs => do need (isX ds); newO (.dt false (kvs.foldl (fun acc q => putT acc q.1 q.2) []))
    | none => fail
  | _ => fail
/-- a dict that is not locked -/
def getU (x : D) : M (List (List Key × D)) := match x with
  | .ref l => do match ← getO l with | .dt false kvs => pure kvs | _ => fail
  | _ => fail
def dkeysD (x : D) : M D := match x with
  | .ref l => do match ← getO l with | .dt false kvs => newO (.lst (kvs.map fun kv => unkey kv.1)) | _ => fail
  | _ => fail
def dlenD (x : D) : M D := match x with
  | .ref l => do match ← getO l with | .dt false kvs => pure (.int kvs.length) | _ => fail
  | _ => fail
def ddelD (x y : D) : M Unit := match x with
  | .ref l => do
    match ← getO l with
    | .dt false kvs => do
      let k ← toKey y
      need (findT kvs k).isSome
      setO l (.dt false (dropT kvs k))
    | _ => fail
  | _ => fail
/-- the greatest of numbers -/
def maxI (n : Int) (ns : List Int) : Int := ns.foldl max n
def maxLD (x : D) : M D := do
  let ds ← getL x
  match intsOf ds with
  | some (n :: ns) => pure (.int (maxI n ns))
  | _ => fail
def maxDD (x y : D) : M D := do
  let ds ← getL x
  match intsOf ds with
  | some [] => pure y
  | some (n :: ns) => pure (.int (maxI n ns))
  | none => fail
/-- the keys of the items, one after another -/
def keyOfD : D → Option (List Int)
  | .tup ks => match intsOf ks with
    | some (i :: is) => some (i :: is)
    | _ => none
  | _ => none
def keysL (g : D → M D) : List D → M (List (List Int))
  | [] => pure []
  | d :: ds => do
    let k ← g d
    match keyOfD k with
    | some z => do let r ← keysL g ds; pure (z :: r)
    | none => fail
/-- a text n times -/
def repS (x : Str) (n : Nat) : Str := ⟨(List.replicate n x.cps.toList).flatten.toArray⟩
def bop (o : Operator) (a b : D) : M D := match o, a, b with
  | .Add, .int i, .int j => pure (.int (i + j))
  | .Add, .tup x, .tup y => do need (lens (x.length + y.length)); pure (.tup (x ++ y))
  | .Add, .ref x, .ref y => do
    match ← getO x, ← getO y with
    | .lst ds, .lst es => do need (lens (ds.length + es.length)); newO (.lst (ds ++ es))
    | _, _ => fail
  | .Add, .str x, .str y => do need (lens (x.length + y.length)); pure (.str (x ++ y))
  | .Sub, .int i, .int j => pure (.int (i - j))
  | .Mult, .int i, .int j => do need (mulFits i j); pure (.int (i * j))
  | .Mult, .tup x, .int k => do need (!isX x && decide (1 ≤ k) && decide (k ≤ 1000) && decide (x.length ≤ 1000)); pure (.tup (List.replicate k.toNat x).flatten)
  | .Mult, .ref x, .int k => do
    match ← getO x with
    | .lst ds => do need (decide (-(2 ^ 63) ≤ k) && decide (k < 2 ^ 63) && lens (ds.length * k.toNat)); newO (.lst (List.replicate k.toNat ds).flatten)
    | _ => fail
  | .Mult, .str x, .int k => do need (decide (0 ≤ k) && decide (k ≤ 1000) && decide (x.length ≤ 1000)); pure (.str (repS x k.toNat))
  | .FloorDiv, .int i, .int j => do need (decide (j ≠ 0) && decide (j.natAbs.log2 < 9000)); pure (.int (i.fdiv j))
  | .Mod, .int i, .int j => do need (decide (j ≠ 0)); pure (.int (i.fmod j))
  | .Pow, .int i, .int j => do need (decide (0 ≤ j) && decide (j ≤ 1000000) && decide (i.natAbs < 2 ^ 64)); pure (.int (i ^ j.toNat))
  | .LShift, .int i, .int j => do need (decide (0 ≤ j) && decide (j ≤ 1000000) && decide (i.natAbs < 2 ^ 64)); pure (.int (i * 2 ^ j.toNat))
  | _, _, _ => fail
/-- x op= y that is x = x op y -/
def augOk (o : Operator) (a b : D) : Bool := match o, a, b with
  | .Add, .int _, .int _ => true
  | .Sub, .int _, .int _ => true
  | _, _, _ => false
/-- x in xs of flat items, == between flat data -/
def eqF : D → D → Bool
  | .non, .non => true
  | .bl a, .bl b => a == b
  | .bl a, .int b => (if a then 1 else 0) == b
  | .int a, .bl b => a == (if b then 1 else 0)
  | .int a, .int b => a == b
  | .str a, .str b => a == b
  | _, _ => false
def inF (x : D) (ds : List D) : Bool := ds.any fun y => eqF y x
def keysD : List D → Option (List Key)
  | [] => some []
  | .int i :: ds => (keysD ds).map (Sum.inl i :: ·)
  | .str x :: ds => (keysD ds).map (Sum.inr x :: ·)
  | _ => none
def cop (o : CmpOp) (a b : D) : M Bool := match o, a, b with
  | .Lt, .int i, .int j => pure (decide (i < j))
  | .LtE, .int i, .int j => pure (decide (i ≤ j))
  | .Gt, .int i, .int j => pure (decide (j < i))
  | .GtE, .int i, .int j => pure (decide (j ≤ i))
  | .Lt, .tup x, .tup y => match intsOf x, intsOf y with
    | some m, some n => pure (lexC m n == .lt)
    | _, _ => fail
  | .Gt, .tup x, .tup y => match intsOf x, intsOf y with
    | some m, some n => pure (lexC m n == .gt)
    | _, _ => fail
  | .Lt, .ref x, .ref y => do
    match ← getO x, ← getO y with
    | .lst ds, .lst es => match intsOf ds, intsOf es with
      | some m, some n => pure (lexC m n == .lt)
      | _, _ => fail
    | _, _ => fail
  | .Eq, a, b => eqD a b
  | .NotEq, a, b => do pure (!(← eqD a b))
  | .Is, a, .non => pure (decide (a = .non))
  | .IsNot, a, .non => pure (!decide (a = .non))
  | .Is, .bl a, .bl b => pure (decide (a = b))
  | .IsNot, .bl a, .bl b => pure (!decide (a = b))
  | .In, .str x, .str z => match x.cps.toList with
    | [c] => pure (decide (c ∈ z.cps.toList))
    | _ => fail
  | .NotIn, .str x, .str z => match x.cps.toList with
    | [c] => pure (!decide (c ∈ z.cps.toList))
    | _ => fail
  | .In, x, y => do
    let ds ← getS y
    need (flat x && ds.all flat)
    pure (inF x ds)
  | .NotIn, x, y => do
    let ds ← getS y
    need (flat x && ds.all flat)
    pure (!inF x ds)
  | _, _, _ => fail
def truth (d : D) : M Bool := match d with
  | .non => pure false
  | .bl b => pure b
  | .int i => pure (i != 0)
  | .str x => do need (lens x.length); pure ((x.length : Int) != 0)
  | .tup ds => pure (!ds.isEmpty)
  | .ref l => do match ← getO l with | .lst ds => pure (!ds.isEmpty) | _ => fail
  | .ro ds => pure (!ds.isEmpty)
  | .fn _ => fail
/-- xs[i] -/
def ixD (a b : D) : M D := match b with
  | .int i => match a with
    | .str z => do need (lens z.length); match atI z.cps.toList i with | some c => pure (.str ⟨#[c]⟩) | none => fail
    | a => do let ds ← getS a; match atI ds i with | some d => pure d | none => fail
  | _ => fail
def cutD (ds : List D) (lo hi : Option Int) : List D := (ds.drop (HT.sIx ds.length 0 lo)).take (HT.sIx ds.length ds.length hi - HT.sIx ds.length 0 lo)
def slD (a : D) (lo hi : Option Int) : M D := match a with
  | .tup ds => pure (.tup (cutD ds lo hi))
  | .ref l => do match ← getO l with | .lst ds => newO (.lst (cutD ds lo hi)) | _ => fail
  | .ro ds => newO (.lst (cutD ds lo hi))
  | .str z => do need (lens z.length); pure (.str (cutS z lo hi))
  | _ => fail
/-- xs[::-1] -/
def revD (a : D) : M D := match a with
  | .tup ds => pure (.tup ds.reverse)
  | .ref l => do match ← getO l with | .lst ds => newO (.lst ds.reverse) | _ => fail
  | _ => fail

/-- built-in functions by name -/
inductive Bi where
  | len | sum | abs | int | max | min | tuple | list | all | any | gcd | str
  deriving DecidableEq, Repr
def biRun (b : Bi) (ds : List D) : M D := match b, ds with
  | .len, [.str x] => do need (lens x.length); pure (.int x.length)
  | .len, [d] => do let ds ← getS d; pure (.int ds.length)
  | .sum, [d] => do let ds ← getS d; match intsOf ds with | some ns => pure (.int ns.sum) | none => fail
  | .abs, [.int i] => pure (.int (if i < 0 then -i else i))
  | .int, [.int i] => pure (.int i)
  | .int, [.bl b] => pure (.int (if b then 1 else 0))
  | .int, [.str x] => match intText? x with
    | some n => do need (decide (x.length ≤ 640)); pure (.int n)
    | none => fail
  | .str, [.int i] => do need (decide (i.natAbs.log2 < 1920)); pure (.str (Str.ofString (toString i)))
  | .str, [.str x] => pure (.str x)
  | .max, [.int i, .int j] => pure (.int (if j > i then j else i))
  | .min, [.int i, .int j] => pure (.int (if j < i then j else i))
  | .tuple, [d] => do let ds ← getS d; pure (.tup ds)
  | .list, [d] => do let ds ← getS d; newO (.lst ds)
  | .all, [d] => do let ds ← getL d; match blsOf ds with | some bs => pure (.bl (bs.all id)) | none => fail
  | .any, [d] => do let ds ← getL d; match blsOf ds with | some bs => pure (.bl (bs.any id)) | none => fail
  | .gcd, [.int a, .int b] => pure (.int ((Nat.gcd a.natAbs b.natAbs : Nat) : Int))
  | _, _ => fail
/-- methods of lists -/
inductive Me where
  | append | pop | popAt | reverse | remove
  deriving DecidableEq, Repr
def meRun (m : Me) (o : D) (ds : List D) : M D := match o with
  | .ref l => do
    match ← getO l with
    | .lst xs => match m, ds with
      | .append, [d] => do need (decide (xs.length < sizeLine)); setO l (.lst (xs ++ [d])); pure .non
      | .pop, [] => match xs[xs.length - 1]? with
        | some y => do setO l (.lst xs.dropLast); pure y
        | none => fail
      | .popAt, [.int i] => do
        need (decide (-(2 ^ 63) ≤ i) && decide (i < 2 ^ 63))
        match ixN xs.length i with
        | some k => match xs[k]? with
          | some y => do setO l (.lst (xs.eraseIdx k)); pure y
          | none => fail
        | none => fail
      | .reverse, [] => do setO l (.lst xs.reverse); pure .non
      | .remove, [d] => do let j ← remAt xs d; setO l (.lst (xs.eraseIdx j)); pure .non
      | _, _ => fail
    | _ => fail
  | _ => fail
def isL (d : D) : M Unit := match d with
  | .ref l => do match ← getO l with | .lst _ => pure () | _ => fail
  | _ => fail
/-! ### instances of classes -/
def putA (f : Str) (d : D) : List (Str × D) → List (Str × D)
  | [] => [(f, d)]
  | (g, x) :: r => if g = f then (g, d) :: r else (g, x) :: putA f d r
def getA (C : Str) (d : D) : M (List (Str × D)) := match d with
  | .ref l => do match ← getO l with | .obj C' fs => do need (decide (C' = C)); pure fs | _ => fail
  | _ => fail
def fldD (C f : Str) (d : D) : M D := do let fs ← getA C d; match fs.lookup f with | some v => pure v | none => fail
def setfD (C f : Str) (o v : D) : M Unit := match o with
  | .ref l => do match ← getO l with | .obj C' fs => do need (decide (C' = C) && decide (fs.length < 1000)); setO l (.obj C' (putA f v fs)) | _ => fail
  | _ => fail
/-- an instance that has no attribute of the method's name -/
def isO (C m : Str) (d : D) : M Unit := do let fs ← getA C d; need (fs.lookup m).isNone
/-! ### methods of texts and tuples -/
def strsOf : List D → Option (List Str)
  | [] => some []
  | .str x :: ds => (strsOf ds).map (x :: ·)
  | _ => none
inductive Sm where | join | split | count | tindex
  deriving DecidableEq, Repr
def smOk : Sm → D → M Unit
  | .join, .str _ => pure ()
  | .split, .str _ => pure ()
  | .count, .str _ => pure ()
  | .tindex, .tup ds => need (isX ds)
  | _, _ => fail
def smRun (k : Sm) (a b : D) : M D := match k, a with
  | .join, .str z => do
    let ds ← getS b
    match strsOf ds with
    | some ys => do need (decide ((ys.map (·.length)).sum + ys.length * z.length ≤ 16777216)); pure (.str (Txt.join z ys))
    | none => fail
  | .split, .str z => match b with
    | .str y => do need ((y.length == 0) == false && decide (z.length + 2 ≤ sizeLine)); newO (.lst ((Txt.split z y).map .str))
    | _ => fail
  | .count, .str z => match b with
    | .str y => pure (.int (Txt.count z y))
    | _ => fail
  | .tindex, .tup ds => match b, strsOf ds with
    | .str y, some ys => match ys.findIdx? (fun z => decide (z = y)) with
      | some j => pure (.int (j : Nat))
      | none => fail
    | _, _ => fail
  | _, _ => fail
/-- {x} in an f-string -/
def fmtD (d : D) : M Str := match d with
  | .str y => do need (lens y.length); pure y
  | .int i => do need (decide (i.natAbs.log2 < 1920)); pure (Str.ofString (toString i))
  | _ => fail
/-- kinds for isinstance -/
inductive Ty where | int | str | bool | tuple | list
  deriving DecidableEq, Repr
def Ty.name : Ty → String
  | .int => "int" | .str => "str" | .bool => "bool" | .tuple => "tuple" | .list => "list"
def isTy (S : Store) (d : D) (t : Ty) : Option Bool := match d with
  | .non => some false
  | .bl _ => some (t == .bool || t == .int)
  | .int _ => some (t == .int)
  | .str _ => some (t == .str)
  | .tup _ => some (t == .tuple)
  | .ref l => match S[l]? with | some (.lst _) => some (t == .list) | _ => none
  | .ro _ => some (t == .list)
  | .fn _ => none
def anyTy (S : Store) (d : D) : List Ty → Option Bool
  | [] => some false
  | t :: ts => match isTy S d t with
    | some true => some true
    | some false => anyTy S d ts
    | none => none
def isiRun (d : D) (ts : List Ty) : M D := fun S => match anyTy S d ts with | some b => some (.bl b, S) | none => none
def setIx (o i v : D) : M Unit := match o, i with
  | .ref l, .int k => do
    match ← getO l with
    | .lst xs => match ixN xs.length k with | some j => setO l (.lst (xs.set j v)) | none => fail
    | _ => fail
  | _, _ => fail

/-! ### the language -/
mutual
inductive IE where
  | var (i : Nat) | int (z : Int) | bl (b : Bool) | non | str (x : Str) | glo (g : Nat)
  | tup (es : IEs) | lst (es : IEs)
  | op (o : Operator) (a b : IE) | neg (a : IE) | not (a : IE) | and (a b : IE) | or (a b : IE)
  | cmp (o : CmpOp) (a b : IE) | chain (o o2 : CmpOp) (a b c : IE) | ite (c a b : IE)
  | ix (a b : IE) | sl (a : IE) (lo hi : IO) | rev (a : IE)
  | call (f : Nat) (es : IEs) | bi (b : Bi) (es : IEs) | me (m : Me) (o : IE) (es : IEs) | isi (a : IE) (t : Ty) | isis (a : IE) (ts : List Ty)
  | comp (t : TG) (own : List Nat) (it : II) (cond : IC) (e : IE) | tupr (a : IE) | lstr (a : IE)
  | dnew | dget (a b : IE) | din (a b : IE) | dget2 (a b c : IE) | dpop (a b : IE) | dcomp (i : Nat) (t : TG) (own : List Nat) (cond : IC) (e : IE) | sortp (a : IE)
  | dkeys (a : IE) | dlen (a : IE) | dof (a : IE)
  | fld (C f : Str) (a : IE) | new (C : Str) (fi : Nat) (es : IEs) | mcall (C m : Str) (fi : Nat) (o : IE) (es : IEs) | m1 (k : Sm) (a b : IE) | fst (es : IEs) | fnv (x : Str) | callv (i : Nat) (l : List (Str × Nat)) (es : IEs)
  | maxl (a : IE) | maxd (a b : IE) | dmk (t : TG) (own : List Nat) (it : II) (k v : IE)
inductive IEs where
  | nil | cons (e : IE) (es : IEs)
inductive IO where
  | no | so (e : IE)
inductive IC where
  | no | so (e : IE)
inductive II where
  | seq (e : IE) | rng1 (e : IE) | rng2 (a b : IE) | rngd (a b : IE) | zip (a b : IE)
inductive TG where
  | nm (i : Nat) | tp (ts : TGs) | ixs (o i : IE)
inductive TGs where
  | nil | cons (t : TG) (ts : TGs)
end
mutual
inductive IS where
  | asg (t : TG) (e : IE) | par (i j : Nat) (a b : IE) | aug (i : Nat) (o : Operator) (e : IE) | expr (e : IE) | ret (e : IE) | retN
  | ite (c : IE) (a b : ISs) | forr (t : TG) (it : II) (b : ISs) | whl (c : IE) (b : ISs) | pass | brk | cnt
  | setf (C f : Str) (o e : IE) | augf (C f : Str) (o : IE) (op : Operator) (e : IE) | rse
  | dput (o i v : IE) | ddel (o i : IE) | rsort (i : Nat) (xs e : IE) | rmaxk (t i : Nat) (xs e : IE)
inductive ISs where
  | nil | cons (s : IS) (ss : ISs)
end

inductive Fl where
  | nx | rt (d : D) | bk | ct
/-- the machine's bound of a while loop's turns -/
def bigN : Nat := 2 ^ 60

/-- what is walked: the items, and the list that must not change meanwhile -/
structure Src where
  items : List D
  guard : Option (Nat × List D) := none
  guard2 : Option (Nat × List D) := none
def grd1 : Option (Nat × List D) → M Unit
  | none => pure ()
  | some (l, ds) => fun S => if S[l]? = some (.lst ds) then some ((), S) else none
def Src.grd (s : Src) : M Unit := do grd1 s.guard; grd1 s.guard2
def rngItems (i j : Int) : List D := (List.range (j - i).toNat).map fun (k : Nat) => .int (i + k)
def seqSrc (d : D) : M Src := match d with
  | .tup ds => pure ⟨ds, none, none⟩
  | .ro ds => pure ⟨ds, none, none⟩
  | .ref l => do match ← getO l with | .lst ds => pure ⟨ds, some (l, ds), none⟩ | _ => fail
  | _ => fail
def isTup : D → Bool
  | .tup _ => true
  | _ => false
def zipSrc (a b : D) : M Src := do
  need (isTup a == isTup b)
  let x ← seqSrc a
  let y ← seqSrc b
  need ((x.items.zip y.items).all fun p => !isX [p.1, p.2])
  pure ⟨(x.items.zip y.items).map fun p => .tup [p.1, p.2], x.guard, y.guard⟩
def small62 (i : Int) : Bool := decide (-(2 ^ 62) ≤ i) && decide (i < 2 ^ 62)
def rngSrc (a b : D) : M Src := match a, b with
  | .int i, .int j => do need (small62 i && small62 j); pure ⟨rngItems i j, none, none⟩
  | _, _ => fail
def rngdItems (i j : Int) : List D := (List.range (i - j).toNat).map fun (k : Nat) => .int (i + k * (-1))
def rngdSrc (a b : D) : M Src := match a, b with
  | .int i, .int j => do need (small62 i && small62 j); pure ⟨rngdItems i j, none, none⟩
  | _, _ => fail
/-- range(n) as a value that is used up at once -/
def rngOk (i : Int) : Bool := small62 i && decide (i ≤ 16777216)
/-- the turns of a comprehension -/
def compL (s : Src) (f : D → M (Option D)) : List D → List D → M (List D)
  | [], acc => do s.grd; pure acc
  | d :: ds, acc => do
    s.grd
    match ← f d with
    | some y => do need (decide (acc.length < sizeLine)); compL s f ds (acc ++ [y])
    | none => compL s f ds acc
/-- the turns of a comprehension that makes a dict -/
def dcL (s : Src) (f : D → M (D × D)) : List D → List (List Key × D) → M (List (List Key × D))
  | [], acc => do s.grd; pure acc
  | d :: ds, acc => do
    s.grd
    let r ← f d
    let k ← toKey r.1
    need (decide (acc.length < sizeLine))
    dcL s f ds (putT acc k r.2)
/-- the turns of a for -/
def forL (s : Src) (f : D → Sl → M (Fl × Sl)) : List D → Sl → M (Fl × Sl)
  | [], env => do s.grd; pure (.nx, env)
  | d :: ds, env => do
    s.grd
    match ← f d env with
    | (.nx, e) => forL s f ds e
    | (.ct, e) => forL s f ds e
    | (.bk, e) => pure (.nx, e)
    | (.rt v, e) => pure (.rt v, e)
def whlL (c : Sl → M Bool) (b : Sl → M (Fl × Sl)) : Nat → Sl → M (Fl × Sl)
  | 0, _ => fail
  | n + 1, env => do
    if ← c env then
      match ← b env with
      | (.nx, e) => whlL c b n e
      | (.ct, e) => whlL c b n e
      | (.bk, e) => pure (.nx, e)
      | (.rt v, e) => pure (.rt v, e)
    else pure (.nx, env)
def wipeE (env : Sl) : List Nat → Sl
  | [] => env
  | v :: vs => (wipeE env vs).set v none

section
variable (gl : Nat → D) (cf : Nat → List D → M D)
def asInt : D → M (Option Int)
  | .int i => pure (some i)
  | _ => fail
def unpk (d : D) (n : Nat) : M (List D) := do let ds ← getS d; need (decide (ds.length = n)); pure ds
def TGs.len : TGs → Nat
  | .nil => 0
  | .cons _ ts => ts.len + 1
mutual
def ev : IE → Sl → M D
  | .var i, env => match env[i]? with | some (some d) => pure d | _ => fail
  | .int z, _ => pure (.int z)
  | .bl b, _ => pure (.bl b)
  | .non, _ => pure .non
  | .str x, _ => pure (.str x)
  | .glo g, _ => pure (gl g)
  | .tup es, env => do let ds ← evs es env; need (lens ds.length); pure (.tup ds)
  | .lst es, env => do let ds ← evs es env; need (lens ds.length); newO (.lst ds)
  | .op o a b, env => do let x ← ev a env; let y ← ev b env; bop o x y
  | .neg a, env => do match ← ev a env with | .int i => pure (.int (-i)) | _ => fail
  | .not a, env => do let x ← ev a env; let b ← truth x; pure (.bl (!b))
  | .and a b, env => do let x ← ev a env; if ← truth x then ev b env else pure x
  | .or a b, env => do let x ← ev a env; if ← truth x then pure x else ev b env
  | .cmp o a b, env => do let x ← ev a env; let y ← ev b env; let r ← cop o x y; pure (.bl r)
  | .chain o o2 a b c, env => do
    let x ← ev a env
    let y ← ev b env
    if ← cop o x y then
      let z ← ev c env
      let r ← cop o2 y z
      pure (.bl r)
    else pure (.bl false)
  | .ite c a b, env => do if ← tst c env then ev a env else ev b env
  | .ix a b, env => do let x ← ev a env; let y ← ev b env; ixD x y
  | .sl a lo hi, env => do let x ← ev a env; let l ← evo lo env; let h ← evo hi env; slD x l h
  | .rev a, env => do let x ← ev a env; revD x
  | .call f es, env => do let ds ← evs es env; cf f ds
  | .bi b es, env => do let ds ← evs es env; biRun b ds
  | .me m o es, env => do let x ← ev o env; isL x; let ds ← evs es env; meRun m x ds
  | .isi a t, env => do let x ← ev a env; isiRun x [t]
  | .isis a ts, env => do let x ← ev a env; isiRun x ts
  | .comp t own it cond e, env => do
    let s ← evi it env
    let env0 := wipeE env own
    let r ← compL s (fun d => do
      let env1 ← asg t d env0
      if ← evc cond env1 then
        let y ← ev e env1
        pure (some y)
      else pure none) s.items []
    newO (.lst r)
  | .tupr a, env => do match ← ev a env with | .int i => (do need (rngOk i && decide (1 ≤ i)); pure (.tup (rngItems 0 i))) | _ => fail
  | .lstr a, env => do match ← ev a env with | .int i => (do need (rngOk i); newO (.lst (rngItems 0 i))) | _ => fail
  | .dnew, _ => newO (.dt false [])
  | .dget a b, env => do let x ← ev a env; let y ← ev b env; dgetD x y
  | .din a b, env => do let y ← ev a env; let x ← ev b env; let r ← dinD y x; pure (.bl r)
  | .dget2 a b c, env => do let x ← ev a env; isT x; let y ← ev b env; let z ← ev c env; dget2D x y z
  | .dpop a b, env => do let x ← ev a env; isT x; let y ← ev b env; dpopD x y
  | .dcomp i t own cond e, env => do
    match env[i]? with
    | some (some (.ref l)) => do
      match ← getO l with
      | .dt false kvs => do
        setO l (.dt true kvs)
        let r ← compL ⟨kvs.map fun kv => unkey kv.1, none, none⟩ (fun d => do
          let env1 ← asg t d (wipeE env own)
          if ← evc cond env1 then
            let y ← ev e env1
            pure (some y)
          else pure none) (kvs.map fun kv => unkey kv.1) []
        match ← getO l with
        | .dt true kvs2 => do setO l (.dt false kvs2); newO (.lst r)
        | _ => fail
      | _ => fail
    | _ => fail
  | .sortp a, env => do let x ← ev a env; sortPD x
  | .dkeys a, env => do let x ← ev a env; dkeysD x
  | .dlen a, env => do let x ← ev a env; dlenD x
  | .dof a, env => do let x ← ev a env; dofD x
  | .fld C f a, env => do let x ← ev a env; fldD C f x
  | .new C fi es, env => do
    let ds ← evs es env
    let r ← newO (.obj C [])
    let d ← cf fi (r :: ds)
    need (decide (d = .non))
    pure r
  | .mcall C m fi o es, env => do let x ← ev o env; isO C m x; let ds ← evs es env; cf fi (x :: ds)
  | .m1 k a b, env => do let x ← ev a env; smOk k x; let y ← ev b env; smRun k x y
  | .fst es, env => do let x ← evf es ⟨#[]⟩ env; pure (.str x)
  | .fnv x, _ => pure (.fn x)
  | .callv i l es, env => do
    match env[i]? with
    | some (some (.fn x)) => match l.lookup x with
      | some f => do let ds ← evs es env; cf f ds
      | none => fail
    | _ => fail
  | .maxl a, env => do let x ← ev a env; maxLD x
  | .maxd a b, env => do let x ← ev a env; let y ← ev b env; maxDD x y
  | .dmk t own it k v, env => do
    let s ← evi it env
    let env0 := wipeE env own
    let r ← dcL s (fun d => do
      let env1 ← asg t d env0
      let y ← ev k env1
      let z ← ev v env1
      pure (y, z)) s.items []
    newO (.dt false r)
/-- the parts of an f-string, one behind the other: texts as they are, other things as {x} -/
def evf : IEs → Str → Sl → M Str
  | .nil, acc, _ => pure acc
  | .cons e es, acc, env => do let d ← ev e env; let y ← fmtD d; need (lens (acc ++ y).length); evf es (acc ++ y) env
def evs : IEs → Sl → M (List D)
  | .nil, _ => pure []
  | .cons e es, env => do let d ← ev e env; let ds ← evs es env; pure (d :: ds)
def evo : IO → Sl → M (Option Int)
  | .no, _ => pure none
  | .so e, env => do let d ← ev e env; asInt d
def evc : IC → Sl → M Bool
  | .no, _ => pure true
  | .so e, env => tst e env
/-- an expression as a test -/
def tst : IE → Sl → M Bool
  | .and a b, env => do if ← tst a env then tst b env else pure false
  | .or a b, env => do if ← tst a env then pure true else tst b env
  | .not a, env => do let b ← tst a env; pure (!b)
  | .cmp o a b, env => do let x ← ev a env; let y ← ev b env; cop o x y
  | .chain o o2 a b c, env => do
    let x ← ev a env
    let y ← ev b env
    if ← cop o x y then
      let z ← ev c env
      cop o2 y z
    else pure false
  | .var i, env => match env[i]? with | some (some d) => truth d | _ => fail
  | .bl b, _ => pure b
  | .call f es, env => do let ds ← evs es env; let d ← cf f ds; truth d
  | .bi b es, env => do let ds ← evs es env; let d ← biRun b ds; truth d
  | .isi a t, env => do let x ← ev a env; let d ← isiRun x [t]; truth d
  | .isis a ts, env => do let x ← ev a env; let d ← isiRun x ts; truth d
  | .din a b, env => do let y ← ev a env; let x ← ev b env; dinD y x
  | .mcall C m fi o es, env => do let x ← ev o env; isO C m x; let ds ← evs es env; let d ← cf fi (x :: ds); truth d
  | _, _ => fail
def evi : II → Sl → M Src
  | .seq e, env => do let d ← ev e env; seqSrc d
  | .rng1 e, env => do let d ← ev e env; rngSrc (.int 0) d
  | .rng2 a b, env => do let x ← ev a env; let y ← ev b env; rngSrc x y
  | .rngd a b, env => do let x ← ev a env; let y ← ev b env; rngdSrc x y
  | .zip a b, env => do let x ← ev a env; let y ← ev b env; zipSrc x y
def asg : TG → D → Sl → M Sl
  | .nm i, d, env => do need (decide (i < env.length)); pure (env.set i (some d))
  | .tp ts, d, env => do let ds ← unpk d ts.len; asgs ts ds env
  | .ixs o i, d, env => do let x ← ev o env; let y ← ev i env; setIx x y d; pure env
def asgs : TGs → List D → Sl → M Sl
  | .nil, [], env => pure env
  | .cons t ts, d :: ds, env => do let e ← asg t d env; asgs ts ds e
  | _, _, _ => fail
end
mutual
def ex : IS → Sl → M (Fl × Sl)
  | .asg t e, env => do let d ← ev gl cf e env; let env ← asg gl cf t d env; pure (.nx, env)
  | .par i j a b, env => do let x ← ev gl cf a env; let y ← ev gl cf b env; need (decide (i < env.length) && decide (j < env.length)); pure (.nx, (env.set i (some x)).set j (some y))
  | .aug i o e, env => do
    match env[i]? with
    | some (some x) => do
      let y ← ev gl cf e env
      need (augOk o x y)
      let z ← bop o x y
      pure (.nx, env.set i (some z))
    | _ => fail
  | .expr e, env => do let _ ← ev gl cf e env; pure (.nx, env)
  | .ret e, env => do let d ← ev gl cf e env; pure (.rt d, env)
  | .retN, env => pure (.rt .non, env)
  | .ite c a b, env => do if ← tst gl cf c env then exs a env else exs b env
  | .forr t it b, env => do
    let s ← evi gl cf it env
    forL s (fun d e => do let e1 ← asg gl cf t d e; exs b e1) s.items env
  | .whl c b, env => whlL (fun e => tst gl cf c e) (fun e => exs b e) bigN env
  | .pass, env => pure (.nx, env)
  | .brk, env => pure (.bk, env)
  | .cnt, env => pure (.ct, env)
  | .setf C f o e, env => do let y ← ev gl cf e env; let x ← ev gl cf o env; setfD C f x y; pure (.nx, env)
  | .augf C f o op e, env => do
    let x ← ev gl cf o env
    let v ← fldD C f x
    let y ← ev gl cf e env
    need (augOk op v y)
    let z ← bop op v y
    setfD C f x z
    pure (.nx, env)
  | .rse, _ => fail
  | .dput o i v, env => do let z ← ev gl cf v env; let x ← ev gl cf o env; let y ← ev gl cf i env; dputD x y z; pure (.nx, env)
  | .ddel o i, env => do let x ← ev gl cf o env; let y ← ev gl cf i env; ddelD x y; pure (.nx, env)
  | .rmaxk t i x e, env => do
    let d ← ev gl cf x env
    let kvs ← getU d
    match env[i]? with
    | some (some r) => do
      let ks ← keysL (fun d => ev gl cf e [some d, some r]) (kvs.map fun kv => unkey kv.1)
      need (decide (t < env.length))
      match (kvs.map fun kv => unkey kv.1)[bestI (ks.map encI) (kvs.length - 1)]? with
      | some y => pure (.nx, env.set t (some y))
      | none => fail
    | _ => fail
  | .rsort i xs e, env => do
    let x ← ev gl cf xs env
    let ds ← getL x
    match env[i]? with
    | some (some r) => do
      let ks ← keysL (fun d => ev gl cf e [some d, some r]) ds
      let y ← newO (.lst (sortBy ds (ks.map encI)))
      pure (.rt y, env)
    | _ => fail
def exs : ISs → Sl → M (Fl × Sl)
  | .nil, env => pure (.nx, env)
  | .cons s ss, env => do
    match ← ex s env with
    | (.nx, e) => exs ss e
    | r => pure r
end
end
/-- a def: the number of its parameters, of its slots, its body -/
structure Fd where
  np : Nat
  nl : Nat
  body : ISs
def startE (nl : Nat) (ds : List D) : Sl := ds.map some ++ List.replicate (nl - ds.length) none
def ofFl : Fl × Sl → M D
  | (.nx, _) => pure .non
  | (.rt d, _) => pure d
  | _ => fail
def call (gl : Nat → D) (fs : List Fd) : Nat → Nat → List D → M D
  | 0, _, _ => fail
  | n + 1, f, ds => match fs[f]? with
    | some fd => if ds.length = fd.np then do ofFl (← exs gl (call gl fs n) fd.body (startE fd.nl ds)) else fail
    | none => fail
end Dl
end

section
set_option Elab.async false
set_option linter.all false
set_option maxRecDepth 100000
/-! Dl: the calculus for the plain statements. -/
namespace Dl
open PySem PySem.Spec PyProof.Rows L2

/-! ### wp, sealed: nothing looks into it -/
structure wq {α : Type} (m : M α) (Q : α → Store → Prop) (S : Store) : Prop where
  out : wp m Q S
section
variable {α β : Type} {m : M α} {Q : α → Store → Prop} {S : Store}
theorem wq_eq : wq m Q S = wp m Q S := propext ⟨fun h => h.out, fun h => ⟨h⟩⟩
theorem wq_l {X : Prop} (h : wp m Q S = X) : wq m Q S = X := wq_eq.trans h
theorem wq_pure (a : α) (Q : α → Store → Prop) (S : Store) : wq (pure a : M α) Q S = Q a S := wq_l rfl
theorem wq_bind (m : M α) (f : α → M β) (Q : β → Store → Prop) (S : Store) : wq (m >>= f) Q S = wq m (fun a S' => wq (f a) Q S') S := by
  rw [wq_eq, wq_eq, wp_bind]
  simp only [wq_eq]
theorem wq_fail (Q : α → Store → Prop) (S : Store) : wq (fail : M α) Q S = False := wq_l rfl
theorem wq_mono {m : M α} {Q R : α → Store → Prop} {S : Store} (h : wq m Q S) (k : ∀ a S', Q a S' → R a S') : wq m R S := ⟨wp_mono h.out k⟩
theorem wq_getO (l : Nat) (Q : Ob → Store → Prop) (S : Store) : wq (getO l) Q S = ∃ o, S[l]? = some o ∧ Q o S := wq_l (wp_getO l Q S)
theorem wq_setO (l : Nat) (o : Ob) (Q : Unit → Store → Prop) (S : Store) : wq (setO l o) Q S = (l < S.length ∧ Q () (S.set l o)) := wq_l (wp_setO l o Q S)
theorem wq_newO (o : Ob) (Q : D → Store → Prop) (S : Store) : wq (newO o) Q S = Q (.ref S.length) (S ++ [o]) := wq_l rfl
theorem wq_need (b : Bool) (Q : Unit → Store → Prop) (S : Store) : wq (need b) Q S = (b = true ∧ Q () S) := wq_l (wp_need b Q S)
theorem wq_ite (c : Bool) (a b : M α) (Q : α → Store → Prop) (S : Store) : wq (if c = true then a else b) Q S = if c = true then wq a Q S else wq b Q S := by cases c <;> rfl
end

/-! ### frames -/
structure Fr (L : List Nat) (S S' : Store) : Prop where
  le : S.length ≤ S'.length
  get : ∀ (i : Nat) (o : Ob), i ∉ L → S[i]? = some o → S'[i]? = some o
theorem Fr.refl {L : List Nat} {S : Store} : Fr L S S := ⟨Nat.le_refl _, fun _ _ _ h => h⟩
theorem Fr.trans {L : List Nat} {S S' S'' : Store} (h : Fr L S S') (k : Fr L S' S'') : Fr L S S'' := ⟨Nat.le_trans h.le k.le, fun i o hi e => k.get i o hi (h.get i o hi e)⟩
theorem Fr.mono {L L' : List Nat} {S S' : Store} (h : Fr L S S') (k : ∀ i, i ∈ L → i ∈ L') : Fr L' S S' := ⟨h.le, fun i o hi e => h.get i o (fun m => hi (k i m)) e⟩
theorem Fr.of_nil {L : List Nat} {S S' : Store} (h : Fr [] S S') : Fr L S S' := h.mono fun _ m => by cases m
theorem Fr.new {L : List Nat} {S S' : Store} (h : Fr L S S') (o : Ob) : Fr L S (S' ++ [o]) := ⟨by simp only [List.length_append]; have := h.le; omega, fun i p hi e => by
  have q := h.get i p hi e
  rw [List.getElem?_append_left (List.getElem?_eq_some_iff.mp q).1]; exact q⟩
theorem Fr.set {L : List Nat} {S S' : Store} (h : Fr L S S') {l : Nat} (o : Ob) (hl : l ∈ L ∨ S.length ≤ l) : Fr L S (S'.set l o) := ⟨by simp only [List.length_set]; exact h.le, fun i p hi e => by
  have q := h.get i p hi e
  have hne : l ≠ i := by
    rintro rfl
    rcases hl with m | m
    · exact hi m
    · have := (List.getElem?_eq_some_iff.mp e).1; omega
  rw [List.getElem?_set_ne hne]; exact q⟩
theorem lt_of_get {S : Store} {l : Nat} {o : Ob} (h : S[l]? = some o) : l < S.length := (List.getElem?_eq_some_iff.mp h).1
theorem get_new {S : Store} {o : Ob} : (S ++ [o])[S.length]? = some o := by simp
theorem get_set {S : Store} {l : Nat} {o p : Ob} (h : S[l]? = some p) : (S.set l o)[l]? = some o := List.getElem?_set_self (lt_of_get h)
theorem get_app {S : Store} {l : Nat} {o p : Ob} (h : S[l]? = some p) : (S ++ [o])[l]? = some p := by rw [List.getElem?_append_left (lt_of_get h)]; exact h
/-- the draws: a list of ints -/
def Dw (l : Nat) (S : Store) : Prop := ∃ xs : List Int, S[l]? = some (.lst (xs.map .int))
structure Dr (l : Nat) (S S' : Store) : Prop where
  d : Dw l S'
  f : Fr [l] S S'
theorem Dr.trans {l : Nat} {S S' S'' : Store} (h : Dr l S S') (k : Dr l S' S'') : Dr l S S'' := ⟨k.d, h.f.trans k.f⟩
theorem Dw.refl {l : Nat} {S : Store} (h : Dw l S) : Dr l S S := ⟨h, .refl⟩
theorem Dw.fr {l : Nat} {S S' : Store} (h : Dw l S) (k : Fr [] S S') : Dr l S S' := by
  obtain ⟨xs, e⟩ := h
  exact ⟨⟨xs, k.get l _ (fun m => by cases m) e⟩, k.of_nil⟩
theorem Dw.new {l : Nat} {S : Store} (h : Dw l S) (o : Ob) : Dw l (S ++ [o]) := by
  obtain ⟨xs, e⟩ := h
  exact ⟨xs, get_app e⟩
theorem Dw.lt {l : Nat} {S : Store} (h : Dw l S) : l < S.length := by
  obtain ⟨xs, e⟩ := h
  exact lt_of_get e
theorem Dw.set {l r : Nat} {S : Store} (h : Dw l S) (o : Ob) (hne : r ≠ l) : Dw l (S.set r o) := by
  obtain ⟨xs, e⟩ := h
  exact ⟨xs, by rw [List.getElem?_set_ne hne]; exact e⟩
theorem Dr.get {l : Nat} {S S' : Store} (h : Dr l S S') {i : Nat} {o : Ob} (e : S[i]? = some o) (hi : i ≠ l) : S'[i]? = some o := h.f.get i o (by simpa using hi) e
/-- from a step over the draws l, seen from S0 where r is new -/
theorem Dr.new {l : Nat} {S S' : Store} (h : Dr l S S') (o : Ob) : Dr l S (S' ++ [o]) := ⟨h.d.new o, h.f.new o⟩
theorem Dr.set {l r : Nat} {S S' : Store} (h : Dr l S S') (o : Ob) (hr : S.length ≤ r) (hne : r ≠ l) : Dr l S (S'.set r o) := ⟨h.d.set o hne, h.f.set o (.inr hr)⟩

/-! ### leaves -/
section
variable {S : Store} {l : Nat} {ds es : List D} {Q : D → Store → Prop} {QB : Bool → Store → Prop} {QU : Unit → Store → Prop} {QL : List D → Store → Prop}
theorem lens_of {n : Nat} (h : n ≤ 1000000) : lens n = true := decide_eq_true (show n ≤ 2 ^ 24 by omega)
theorem w_getL_ref (h : S[l]? = some (.lst ds)) : wq (getL (.ref l)) QL S = QL ds S := by
  unfold getL
  dsimp only
  rw [wq_bind, wq_getO]
  exact propext ⟨fun ⟨o, e, k⟩ => by rw [h] at e; cases e; simpa only [wq_pure] using k, fun k => ⟨_, h, by simpa only [wq_pure] using k⟩⟩
theorem w_getS_ref (h : S[l]? = some (.lst ds)) : wq (getS (.ref l)) QL S = QL ds S := w_getL_ref h
theorem w_getL_ro : wq (getL (.ro ds)) QL S = QL ds S := wq_l rfl
theorem w_getS_ro : wq (getS (.ro ds)) QL S = QL ds S := wq_l rfl
theorem w_getS_tup : wq (getS (.tup ds)) QL S = QL ds S := wq_l rfl
theorem w_add {i j : Int} : wq (bop .Add (.int i) (.int j)) Q S = Q (.int (i + j)) S := wq_l rfl
theorem w_sub {i j : Int} : wq (bop .Sub (.int i) (.int j)) Q S = Q (.int (i - j)) S := wq_l rfl
theorem w_mul {i j : Int} : wq (bop .Mult (.int i) (.int j)) Q S = (mulFits i j = true ∧ Q (.int (i * j)) S) := by
  unfold bop
  dsimp only
  rw [wq_bind, wq_need, wq_pure]
theorem w_addT : wq (bop .Add (.tup ds) (.tup es)) Q S = (lens (ds.length + es.length) = true ∧ Q (.tup (ds ++ es)) S) := by
  unfold bop
  dsimp only
  rw [wq_bind, wq_need, wq_pure]
theorem w_addL {l2 : Nat} (h : S[l]? = some (.lst ds)) (h2 : S[l2]? = some (.lst es)) : wq (bop .Add (.ref l) (.ref l2)) Q S = (lens (ds.length + es.length) = true ∧ Q (.ref S.length) (S ++ [.lst (ds ++ es)])) := by
  unfold bop
  dsimp only
  rw [wq_bind, wq_getO]
  refine propext ⟨fun ⟨o, e, k⟩ => ?_, fun k => ⟨_, h, ?_⟩⟩
  · rw [h] at e
    cases e
    rw [wq_bind, wq_getO] at k
    obtain ⟨o, e, k⟩ := k
    rw [h2] at e
    cases e
    rw [wq_bind, wq_need, wq_newO] at k
    exact k
  · rw [wq_bind, wq_getO]
    exact ⟨_, h2, by rw [wq_bind, wq_need, wq_newO]; exact k⟩
theorem w_mulL {k : Int} (h : S[l]? = some (.lst ds)) : wq (bop .Mult (.ref l) (.int k)) Q S = ((decide (-(2 ^ 63) ≤ k) && decide (k < 2 ^ 63) && lens (ds.length * k.toNat)) = true ∧ Q (.ref S.length) (S ++ [.lst (List.replicate k.toNat ds).flatten])) := by
  unfold bop
  dsimp only
  rw [wq_bind, wq_getO]
  refine propext ⟨fun ⟨o, e, k⟩ => ?_, fun k => ⟨_, h, ?_⟩⟩
  · rw [h] at e
    cases e
    rw [wq_bind, wq_need, wq_newO] at k
    exact k
  · rw [wq_bind, wq_need, wq_newO]
    exact k
theorem w_fdiv {i j : Int} : wq (bop .FloorDiv (.int i) (.int j)) Q S = ((decide (j ≠ 0) && decide (j.natAbs.log2 < 9000)) = true ∧ Q (.int (i.fdiv j)) S) := by
  unfold bop
  dsimp only
  rw [wq_bind, wq_need, wq_pure]
theorem w_mod {i j : Int} : wq (bop .Mod (.int i) (.int j)) Q S = (decide (j ≠ 0) = true ∧ Q (.int (i.fmod j)) S) := by
  unfold bop
  dsimp only
  rw [wq_bind, wq_need, wq_pure]
theorem w_pow {i j : Int} : wq (bop .Pow (.int i) (.int j)) Q S = ((decide (0 ≤ j) && decide (j ≤ 1000000) && decide (i.natAbs < 2 ^ 64)) = true ∧ Q (.int (i ^ j.toNat)) S) := by
  unfold bop
  dsimp only
  rw [wq_bind, wq_need, wq_pure]
theorem w_shl {i j : Int} : wq (bop .LShift (.int i) (.int j)) Q S = ((decide (0 ≤ j) && decide (j ≤ 1000000) && decide (i.natAbs < 2 ^ 64)) = true ∧ Q (.int (i * 2 ^ j.toNat)) S) := by
  unfold bop
  dsimp only
  rw [wq_bind, wq_need, wq_pure]
theorem w_lt {i j : Int} : wq (cop .Lt (.int i) (.int j)) QB S = QB (decide (i < j)) S := wq_l rfl
theorem w_le {i j : Int} : wq (cop .LtE (.int i) (.int j)) QB S = QB (decide (i ≤ j)) S := wq_l rfl
theorem w_gt {i j : Int} : wq (cop .Gt (.int i) (.int j)) QB S = QB (decide (j < i)) S := wq_l rfl
theorem w_ge {i j : Int} : wq (cop .GtE (.int i) (.int j)) QB S = QB (decide (j ≤ i)) S := wq_l rfl
theorem intsOf_map : ∀ xs : List Int, intsOf (xs.map .int) = some xs
  | [] => rfl
  | x :: xs => by simp only [List.map_cons, intsOf, intsOf_map xs, Option.map_some]
theorem blsOf_map : ∀ xs : List Bool, blsOf (xs.map .bl) = some xs
  | [] => rfl
  | x :: xs => by simp only [List.map_cons, blsOf, blsOf_map xs, Option.map_some]
theorem w_ltT {x y : List Int} : wq (cop .Lt (.tup (x.map .int)) (.tup (y.map .int))) QB S = QB (lexC x y == .lt) S := by
  unfold cop
  simp only [intsOf_map, wq_pure]
theorem w_gtT {x y : List Int} : wq (cop .Gt (.tup (x.map .int)) (.tup (y.map .int))) QB S = QB (lexC x y == .gt) S := by
  unfold cop
  simp only [intsOf_map, wq_pure]
theorem w_eq {a b : D} : wq (cop .Eq a b) QB S = wq (eqD a b) QB S := by unfold cop; first | rfl | exact wq_l rfl
theorem w_ne {a b : D} : wq (cop .NotEq a b) QB S = wq (eqD a b) (fun r S' => QB (!r) S') S := by
  show wq (eqD a b >>= fun r => pure (!r)) QB S = _
  rw [wq_bind]
  simp only [wq_pure]
theorem w_isN {a : D} : wq (cop .Is a .non) QB S = QB (decide (a = .non)) S := by unfold cop; first | rfl | exact wq_l rfl
theorem w_isnN {a : D} : wq (cop .IsNot a .non) QB S = QB (!decide (a = .non)) S := by unfold cop; first | rfl | exact wq_l rfl
theorem w_in {x : D} {l : Nat} : wq (cop .In x (.ref l)) QB S = wq (getS (.ref l)) (fun ds S' => (flat x && ds.all flat) = true ∧ QB (inF x ds) S') S := by
  cases x <;> (unfold cop; simp only [wq_bind, wq_need, wq_pure])
theorem w_nin {x : D} {l : Nat} : wq (cop .NotIn x (.ref l)) QB S = wq (getS (.ref l)) (fun ds S' => (flat x && ds.all flat) = true ∧ QB (!inF x ds) S') S := by
  cases x <;> (unfold cop; simp only [wq_bind, wq_need, wq_pure])
theorem w_inT {x : D} {es : List D} : wq (cop .In x (.tup es)) QB S = wq (getS (.tup es)) (fun ds S' => (flat x && ds.all flat) = true ∧ QB (inF x ds) S') S := by
  cases x <;> (unfold cop; simp only [wq_bind, wq_need, wq_pure])
theorem w_ninT {x : D} {es : List D} : wq (cop .NotIn x (.tup es)) QB S = wq (getS (.tup es)) (fun ds S' => (flat x && ds.all flat) = true ∧ QB (!inF x ds) S') S := by
  cases x <;> (unfold cop; simp only [wq_bind, wq_need, wq_pure])
theorem w_inS {c : Nat} {z : Str} : wq (cop .In (.str ⟨#[c]⟩) (.str z)) QB S = QB (decide (c ∈ z.cps.toList)) S := by unfold cop; first | rfl | exact wq_l rfl
theorem w_ninS {c : Nat} {z : Str} : wq (cop .NotIn (.str ⟨#[c]⟩) (.str z)) QB S = QB (!decide (c ∈ z.cps.toList)) S := by unfold cop; first | rfl | exact wq_l rfl
theorem w_trB {b : Bool} : wq (truth (.bl b)) QB S = QB b S := wq_l rfl
theorem w_trN : wq (truth .non) QB S = QB false S := wq_l rfl
theorem w_trI {i : Int} : wq (truth (.int i)) QB S = QB (i != 0) S := wq_l rfl
theorem w_trT : wq (truth (.tup ds)) QB S = QB (!ds.isEmpty) S := wq_l rfl
theorem w_trL (h : S[l]? = some (.lst ds)) : wq (truth (.ref l)) QB S = QB (!ds.isEmpty) S := by
  unfold truth
  dsimp only
  rw [wq_bind, wq_getO]
  exact propext ⟨fun ⟨o, e, k⟩ => by rw [h] at e; cases e; simpa only [wq_pure] using k, fun k => ⟨_, h, by simpa only [wq_pure] using k⟩⟩
theorem w_lenT : wq (biRun .len [.tup ds]) Q S = Q (.int ds.length) S := wq_l rfl
theorem w_lenR : wq (biRun .len [.ro ds]) Q S = Q (.int ds.length) S := wq_l rfl
theorem w_lenL (h : S[l]? = some (.lst ds)) : wq (biRun .len [.ref l]) Q S = Q (.int ds.length) S := by
  show wq (getS (.ref l) >>= fun ds => pure (.int ds.length)) Q S = _
  rw [wq_bind, w_getS_ref h, wq_pure]
theorem w_sumT {x : List Int} : wq (biRun .sum [.tup (x.map .int)]) Q S = Q (.int x.sum) S := by
  show wq (getS (.tup (x.map .int)) >>= fun ds => match intsOf ds with | some ns => pure (.int ns.sum) | none => fail) Q S = _
  rw [wq_bind, w_getS_tup, intsOf_map, wq_pure]
theorem w_sumL {x : List Int} (h : S[l]? = some (.lst (x.map .int))) : wq (biRun .sum [.ref l]) Q S = Q (.int x.sum) S := by
  show wq (getS (.ref l) >>= fun ds => match intsOf ds with | some ns => pure (.int ns.sum) | none => fail) Q S = _
  rw [wq_bind, w_getS_ref h, intsOf_map, wq_pure]
theorem w_int {i : Int} : wq (biRun .int [.int i]) Q S = Q (.int i) S := wq_l rfl
theorem w_intB {b : Bool} : wq (biRun .int [.bl b]) Q S = Q (.int (if b then 1 else 0)) S := wq_l rfl
theorem w_abs {i : Int} : wq (biRun .abs [.int i]) Q S = Q (.int (if i < 0 then -i else i)) S := wq_l rfl
theorem w_max {i j : Int} : wq (biRun .max [.int i, .int j]) Q S = Q (.int (if j > i then j else i)) S := wq_l rfl
theorem w_min {i j : Int} : wq (biRun .min [.int i, .int j]) Q S = Q (.int (if j < i then j else i)) S := wq_l rfl
theorem w_tupL (h : S[l]? = some (.lst ds)) : wq (biRun .tuple [.ref l]) Q S = Q (.tup ds) S := by
  show wq (getS (.ref l) >>= fun ds => pure (.tup ds)) Q S = _
  rw [wq_bind, w_getS_ref h, wq_pure]
theorem w_listL (h : S[l]? = some (.lst ds)) : wq (biRun .list [.ref l]) Q S = Q (.ref S.length) (S ++ [.lst ds]) := by
  show wq (getS (.ref l) >>= fun ds => newO (.lst ds)) Q S = _
  rw [wq_bind, w_getS_ref h, wq_newO]
theorem w_listT : wq (biRun .list [.tup ds]) Q S = Q (.ref S.length) (S ++ [.lst ds]) := wq_l rfl
theorem w_append {d : D} (h : S[l]? = some (.lst ds)) : wq (meRun .append (.ref l) [d]) Q S = (ds.length < sizeLine ∧ Q .non (S.set l (.lst (ds ++ [d])))) := by
  unfold meRun
  dsimp only
  rw [wq_bind, wq_getO]
  refine propext ⟨fun ⟨o, e, k⟩ => ?_, fun ⟨k1, k2⟩ => ⟨_, h, ?_⟩⟩
  · rw [h] at e
    cases e
    simp only [wq_bind, wq_need, wq_setO, wq_pure] at k
    exact ⟨of_decide_eq_true k.1, k.2.2⟩
  · simp only [wq_bind, wq_need, wq_setO, wq_pure]
    exact ⟨decide_eq_true k1, lt_of_get h, k2⟩
theorem w_pop {y : D} (h : S[l]? = some (.lst (ds ++ [y]))) : wq (meRun .pop (.ref l) []) Q S = Q y (S.set l (.lst ds)) := by
  have e1 : (ds ++ [y])[(ds ++ [y]).length - 1]? = some y := by simp
  have e2 : (ds ++ [y]).dropLast = ds := by simp
  unfold meRun
  dsimp only
  rw [wq_bind, wq_getO]
  refine propext ⟨fun ⟨o, e, k⟩ => ?_, fun k => ⟨_, h, ?_⟩⟩
  · rw [h] at e
    cases e
    dsimp only at k
    rw [e1] at k
    simp only [wq_bind, wq_setO, wq_pure, e2] at k
    exact k.2
  · dsimp only
    rw [e1]
    simp only [wq_bind, wq_setO, wq_pure, e2]
    exact ⟨lt_of_get h, k⟩
theorem ixN_of {n : Nat} {i : Int} (h0 : 0 ≤ i) (h1 : i < n) : ixN n i = some i.toNat := by unfold ixN; rw [if_pos h0, if_pos h1]
theorem atI_of {α : Type} {xs : List α} {i : Int} {x : α} (h0 : 0 ≤ i) (h : xs[i.toNat]? = some x) : atI xs i = some x := by
  have := (List.getElem?_eq_some_iff.mp h).1
  unfold atI
  rw [ixN_of h0 (by omega)]
  exact h
theorem w_popAt {i : Int} {y : D} (h : S[l]? = some (.lst ds)) (h0 : 0 ≤ i) (hs : ds.length ≤ 1000) (hy : ds[i.toNat]? = some y) : wq (meRun .popAt (.ref l) [.int i]) Q S = Q y (S.set l (.lst (ds.eraseIdx i.toNat))) := by
  have hlt := (List.getElem?_eq_some_iff.mp hy).1
  have e1 : (decide (-(2 ^ 63) ≤ i) && decide (i < 2 ^ 63)) = true := by rw [decide_eq_true (by omega), decide_eq_true (by omega)]; rfl
  unfold meRun
  dsimp only
  rw [wq_bind, wq_getO]
  refine propext ⟨fun ⟨o, e, k⟩ => ?_, fun k => ⟨_, h, ?_⟩⟩
  · rw [h] at e
    cases e
    dsimp only at k
    rw [wq_bind, wq_need, ixN_of h0 (by omega)] at k
    have k := k.2
    dsimp only at k
    rw [hy] at k
    simp only [wq_bind, wq_setO, wq_pure] at k
    exact k.2
  · dsimp only
    rw [wq_bind, wq_need, ixN_of h0 (by omega)]
    refine ⟨e1, ?_⟩
    dsimp only
    rw [hy]
    simp only [wq_bind, wq_setO, wq_pure]
    exact ⟨lt_of_get h, k⟩
theorem w_reverse (h : S[l]? = some (.lst ds)) : wq (meRun .reverse (.ref l) []) Q S = Q .non (S.set l (.lst ds.reverse)) := by
  unfold meRun
  dsimp only
  rw [wq_bind, wq_getO]
  refine propext ⟨fun ⟨o, e, k⟩ => ?_, fun k => ⟨_, h, ?_⟩⟩
  · rw [h] at e
    cases e
    simp only [wq_bind, wq_setO, wq_pure] at k
    exact k.2
  · simp only [wq_bind, wq_setO, wq_pure]
    exact ⟨lt_of_get h, k⟩
theorem w_isL (h : S[l]? = some (.lst ds)) : wq (isL (.ref l)) QU S = QU () S := by
  unfold isL
  dsimp only
  rw [wq_bind, wq_getO]
  exact propext ⟨fun ⟨o, e, k⟩ => by rw [h] at e; cases e; simpa only [wq_pure] using k, fun k => ⟨_, h, by simpa only [wq_pure] using k⟩⟩
theorem w_ixT {i : Int} {d : D} (h : atI ds i = some d) : wq (ixD (.tup ds) (.int i)) Q S = Q d S := by
  show wq (getS (.tup ds) >>= fun ds => match atI ds i with | some d => pure d | none => fail) Q S = _
  rw [wq_bind, w_getS_tup, h, wq_pure]
theorem w_ixL {i : Int} {d : D} (h : S[l]? = some (.lst ds)) (h2 : atI ds i = some d) : wq (ixD (.ref l) (.int i)) Q S = Q d S := by
  show wq (getS (.ref l) >>= fun ds => match atI ds i with | some d => pure d | none => fail) Q S = _
  rw [wq_bind, w_getS_ref h, h2, wq_pure]
theorem w_set {i : Int} {v : D} (h : S[l]? = some (.lst ds)) (h0 : 0 ≤ i) (h1 : i.toNat < ds.length) : wq (setIx (.ref l) (.int i) v) QU S = QU () (S.set l (.lst (ds.set i.toNat v))) := by
  unfold setIx
  dsimp only
  rw [wq_bind, wq_getO]
  refine propext ⟨fun ⟨o, e, k⟩ => ?_, fun k => ⟨_, h, ?_⟩⟩
  · rw [h] at e
    cases e
    dsimp only at k
    rw [ixN_of h0 (by omega)] at k
    rw [wq_setO] at k
    exact k.2
  · dsimp only
    rw [ixN_of h0 (by omega)]
    rw [wq_setO]
    exact ⟨lt_of_get h, k⟩
theorem w_revT : wq (revD (.tup ds)) Q S = Q (.tup ds.reverse) S := wq_l rfl
theorem w_asInt {i : Int} {Q : Option Int → Store → Prop} : wq (asInt (.int i)) Q S = Q (some i) S := wq_l rfl
theorem w_slR {lo hi : Option Int} : wq (slD (.ro ds) lo hi) Q S = Q (.ref S.length) (S ++ [.lst (cutD ds lo hi)]) := wq_l rfl
theorem w_srcT {Q : Src → Store → Prop} : wq (seqSrc (.tup ds)) Q S = Q ⟨ds, none, none⟩ S := wq_l rfl
theorem w_srcR {Q : Src → Store → Prop} : wq (seqSrc (.ro ds)) Q S = Q ⟨ds, none, none⟩ S := wq_l rfl
theorem w_srcL {Q : Src → Store → Prop} (h : S[l]? = some (.lst ds)) : wq (seqSrc (.ref l)) Q S = Q ⟨ds, some (l, ds), none⟩ S := by
  unfold seqSrc
  dsimp only
  rw [wq_bind, wq_getO]
  exact propext ⟨fun ⟨o, e, k⟩ => by rw [h] at e; cases e; simpa only [wq_pure] using k, fun k => ⟨_, h, by simpa only [wq_pure] using k⟩⟩
theorem w_rng {i j : Int} {Q : Src → Store → Prop} : wq (rngSrc (.int i) (.int j)) Q S = ((small62 i && small62 j) = true ∧ Q ⟨rngItems i j, none, none⟩ S) := by
  unfold rngSrc
  dsimp only
  rw [wq_bind, wq_need, wq_pure]
/-- no item of the zip is a polynomial -/
def zipNX (ds es : List D) : Bool := (ds.zip es).all fun p => !isX [p.1, p.2]
theorem zipNX_int {α : Type} (f : α → Int) : ∀ (xs : List α) (es : List D), zipNX (xs.map fun x => .int (f x)) es = true
  | [], es => by cases es <;> rfl
  | x :: xs, [] => rfl
  | x :: xs, e :: es => by
    have h := zipNX_int f xs es
    unfold zipNX at h ⊢
    rw [List.map_cons, List.zip_cons_cons, List.all_cons, h]
    rfl
theorem zipNX_ints (xs : List Int) (es : List D) : zipNX (xs.map D.int) es = true := zipNX_int id xs es
theorem w_zipT {Q : Src → Store → Prop} : wq (zipSrc (.tup ds) (.tup es)) Q S = (zipNX ds es = true ∧ Q ⟨(ds.zip es).map fun p => .tup [p.1, p.2], none, none⟩ S) := by
  unfold zipSrc zipNX
  simp only [isTup, wq_bind, wq_need, w_srcT, wq_pure, beq_self_eq_true, true_and]
theorem w_unpkT {n : Nat} : wq (unpk (.tup ds) n) QL S = (decide (ds.length = n) = true ∧ QL ds S) := by
  unfold unpk
  simp only [wq_bind, wq_need, w_getS_tup, wq_pure]
theorem w_unpkL {n : Nat} (h : S[l]? = some (.lst ds)) : wq (unpk (.ref l) n) QL S = (decide (ds.length = n) = true ∧ QL ds S) := by
  unfold unpk
  simp only [wq_bind, wq_need, w_getS_ref h, wq_pure]
theorem w_isi {d : D} {ts : List Ty} {b : Bool} (h : anyTy S d ts = some b) : wq (isiRun d ts) Q S = Q (.bl b) S := by
  rw [wq_eq]
  unfold wp isiRun
  rw [h]
end

/-! ### loops -/
/-- the guard of a source holds -/
def Gd : Option (Nat × List D) → Store → Prop
  | none, _ => True
  | some (l, ds), S => S[l]? = some (.lst ds)
def Src.Gd (s : Src) (S : Store) : Prop := Dl.Gd s.guard S ∧ Dl.Gd s.guard2 S
theorem grd1_wq {g : Option (Nat × List D)} {S : Store} {Q : Unit → Store → Prop} (h : Gd g S) (q : Q () S) : wq (grd1 g) Q S := by
  cases g with
  | none => exact ⟨q⟩
  | some p =>
    refine ⟨?_⟩
    unfold grd1 wp
    obtain ⟨l, ds⟩ := p
    dsimp only [Gd] at *
    rw [if_pos h]
    exact q
theorem grd_wq {s : Src} {S : Store} {Q : Unit → Store → Prop} (h : s.Gd S) (q : Q () S) : wq s.grd Q S := by
  unfold Src.grd
  rw [wq_bind]
  exact grd1_wq h.1 (grd1_wq h.2 q)
theorem Gd.fr {g : Option (Nat × List D)} {S S' : Store} {L : List Nat} (h : Gd g S) (k : Fr L S S') (hl : ∀ p, g = some p → p.1 ∉ L) : Gd g S' := by
  cases g with
  | none => trivial
  | some p => exact k.get _ _ (hl p rfl) h
/-- a comprehension, by an invariant over what is left, what is told and the store -/
theorem compL_inv {s : Src} {f : D → M (Option D)} (I : List D → List D → Store → Prop) (hg : ∀ ds acc S, I ds acc S → s.Gd S)
    (h : ∀ d ds acc S, I (d :: ds) acc S → wq (f d) (fun r S' => match r with | some y => acc.length < sizeLine ∧ I ds (acc ++ [y]) S' | none => I ds acc S') S) :
    ∀ (ds acc : List D) (S : Store), I ds acc S → wq (compL s f ds acc) (fun r S' => I [] r S') S
  | [], acc, S, hi => by
    unfold compL
    rw [wq_bind]
    exact grd_wq (hg _ _ _ hi) (by rw [wq_pure]; exact hi)
  | d :: ds, acc, S, hi => by
    unfold compL
    rw [wq_bind]
    refine grd_wq (hg _ _ _ hi) ?_
    rw [wq_bind]
    refine wq_mono (h d ds acc S hi) fun r S' k => ?_
    cases r with
    | none => exact compL_inv I hg h ds acc S' k
    | some y =>
      dsimp only at *
      rw [wq_bind, wq_need]
      exact ⟨decide_eq_true k.1, compL_inv I hg h ds _ S' k.2⟩
/-- a comprehension whose element is told by its item, over a frame -/
theorem compL_map {s : Src} {f : D → M (Option D)} {S : Store} {L : List Nat} {P : Store → Prop} {R : D → Option D → Prop} {ds : List D} (hs : ds.length ≤ sizeLine) (hg : ∀ S', Fr L S S' → P S' → s.Gd S') (hP : P S)
    (h : ∀ d, d ∈ ds → ∀ S', Fr L S S' → P S' → wq (f d) (fun r S'' => R d r ∧ Fr L S' S'' ∧ P S'') S') :
    wq (compL s f ds []) (fun r S' => (∃ os : List (Option D), os.length = ds.length ∧ (∀ p ∈ ds.zip os, R p.1 p.2) ∧ r = os.filterMap id) ∧ Fr L S S' ∧ P S') S := by
  have key := compL_inv (s := s) (f := f) (fun rest acc S' => ∃ (done : List D) (os : List (Option D)), ds = done ++ rest ∧ os.length = done.length ∧ (∀ p ∈ done.zip os, R p.1 p.2) ∧ acc = os.filterMap id ∧ Fr L S S' ∧ P S') ?_ ?_ ds [] S
    ⟨[], [], rfl, rfl, fun p hp => by simp at hp, rfl, .refl, hP⟩
  · refine wq_mono key fun r S' ⟨done, os, e1, e2, e3, e4, e5, e6⟩ => ?_
    rw [List.append_nil] at e1
    subst e1
    exact ⟨⟨os, e2, e3, e4⟩, e5, e6⟩
  · rintro rest acc S' ⟨done, os, e1, e2, e3, e4, e5, e6⟩
    exact hg S' e5 e6
  · rintro d rest acc S' ⟨done, os, e1, e2, e3, e4, e5, e6⟩
    have hm : d ∈ ds := by rw [e1]; simp
    have hl : acc.length < sizeLine := by
      have a1 : acc.length ≤ os.length := by rw [e4]; exact List.length_filterMap_le _ _
      have a2 : ds.length = done.length + (rest.length + 1) := by rw [e1]; simp
      omega
    refine wq_mono (h d hm S' e5 e6) fun r S'' ⟨k1, k2, k3⟩ => ?_
    have z : ∀ p ∈ (done ++ [d]).zip (os ++ [r]), R p.1 p.2 := fun p hp => by
      rw [List.zip_append (by rw [e2])] at hp
      rcases List.mem_append.mp hp with q | q
      · exact e3 p q
      · simp only [List.zip_cons_cons, List.zip_nil_right, List.mem_singleton] at q
        subst q
        exact k1
    cases r with
    | none => exact ⟨done ++ [d], os ++ [none], by rw [e1]; simp, by simp [e2], z, by rw [List.filterMap_append, ← e4]; simp, e5.trans k2, k3⟩
    | some y => exact ⟨hl, done ++ [d], os ++ [some y], by rw [e1]; simp, by simp [e2], z, by rw [List.filterMap_append, ← e4]; simp, e5.trans k2, k3⟩
theorem zip_fun {α β : Type} {g : α → β} : ∀ {ds : List α} {os : List β}, os.length = ds.length → (∀ p ∈ ds.zip os, p.2 = g p.1) → os = ds.map g
  | [], [], _, _ => rfl
  | [], _ :: _, h, _ => by cases h
  | _ :: _, [], h, _ => by cases h
  | d :: ds, o :: os, h, k => by
    have h1 := k (d, o) (by simp)
    rw [List.map_cons, ← zip_fun (Nat.succ.inj h) fun p hp => k p (by simp only [List.zip_cons_cons, List.mem_cons]; exact .inr hp)]
    exact congrArg (· :: os) h1
/-- a comprehension that computes g and leaves the store but for what is new -/
theorem compL_pure {s : Src} {f : D → M (Option D)} {S : Store} {g : D → Option D} {ds : List D} {Q : List D → Store → Prop} (hs : ds.length ≤ sizeLine) (hg : ∀ S', Fr [] S S' → s.Gd S')
    (h : ∀ d, d ∈ ds → ∀ S', Fr [] S S' → wq (f d) (fun r S'' => r = g d ∧ Fr [] S' S'') S') (k : ∀ S', Fr [] S S' → Q (ds.filterMap g) S') : wq (compL s f ds []) Q S := by
  refine wq_mono (compL_map (L := []) (P := fun _ => True) (R := fun d r => r = g d) hs (fun S' a _ => hg S' a) trivial fun d hd S' a _ => ?_) fun r S' ⟨⟨os, e1, e2, e3⟩, e4, _⟩ => ?_
  · exact wq_mono (h d hd S' a) fun r S'' ⟨k1, k2⟩ => ⟨k1, k2, trivial⟩
  · have := zip_fun e1 e2
    subst this
    rw [e3, List.filterMap_map]
    exact k S' e4
/-- a for, by an invariant -/
theorem forL_inv {s : Src} {f : D → Sl → M (Fl × Sl)} {Q : Fl × Sl → Store → Prop} (I : List D → Sl → Store → Prop) (hg : ∀ ds e S, I ds e S → s.Gd S)
    (he : ∀ e S, I [] e S → Q (.nx, e) S)
    (h : ∀ d ds e S, I (d :: ds) e S → wq (f d e) (fun r S' => match r with | (.nx, e) => I ds e S' | (.ct, e) => I ds e S' | (.bk, e) => Q (.nx, e) S' | (.rt v, e) => Q (.rt v, e) S') S) :
    ∀ (ds : List D) (e : Sl) (S : Store), I ds e S → wq (forL s f ds e) Q S
  | [], e, S, hi => by
    unfold forL
    rw [wq_bind]
    exact grd_wq (hg _ _ _ hi) (by rw [wq_pure]; exact he _ _ hi)
  | d :: ds, e, S, hi => by
    unfold forL
    rw [wq_bind]
    refine grd_wq (hg _ _ _ hi) ?_
    rw [wq_bind]
    refine wq_mono (h d ds e S hi) fun r S' k => ?_
    obtain ⟨fl, e'⟩ := r
    cases fl with
    | nx => exact forL_inv I hg he h ds e' S' k
    | ct => exact forL_inv I hg he h ds e' S' k
    | bk => exact ⟨k⟩
    | rt v => exact ⟨k⟩
theorem wq_call {gl : Nat → D} {fs : List Fd} {n f : Nat} {fd : Fd} {ds : List D} {Q : D → Store → Prop} {S : Store} (h : fs[f]? = some fd) (hl : ds.length = fd.np) :
    wq (call gl fs (n + 1) f ds) Q S = wq (exs gl (call gl fs n) fd.body (startE fd.nl ds)) (fun r S' => wq (ofFl r) Q S') S := by
  unfold call
  rw [h]
  dsimp only
  rw [if_pos hl, wq_bind]

/-! ### == between data without truth values -/
mutual
def D.bf : D → Bool
  | .non => true | .bl _ => false | .int _ => true | .str x => PyData.canLay0 (.str x) | .tup ds => D.bfs ds | .ref _ => false | .ro _ => false | .fn _ => false
def D.bfs : List D → Bool
  | [] => true
  | d :: ds => D.bf d && D.bfs ds
end
mutual
def D.dp : D → Nat
  | .tup ds => D.dps ds + 1
  | _ => 0
def D.dps : List D → Nat
  | [] => 0
  | d :: ds => max (D.dp d) (D.dps ds)
end
mutual
theorem bf_py : ∀ d : D, d.bf = true → ∃ p, pyOf d = some p ∧ p.canLay0 = true ∧ p.depth = d.dp
  | .non, _ => ⟨_, rfl, rfl, rfl⟩
  | .int _, _ => ⟨_, rfl, rfl, rfl⟩
  | .str _, h => ⟨_, rfl, h, rfl⟩
  | .tup ds, h => by
    obtain ⟨ps, e1, e2, e3⟩ := bfs_py ds (by simpa [D.bf] using h)
    exact ⟨.tuple ps, by simp [pyOf, e1], by simpa [PyData.canLay0] using e2, by simp [PyData.depth, D.dp, e3]⟩
  | .bl _, h => by simp [D.bf] at h
  | .ref _, h => by simp [D.bf] at h
  | .ro _, h => by simp [D.bf] at h
  | .fn _, h => by simp [D.bf] at h
theorem bfs_py : ∀ d : List D, D.bfs d = true → ∃ p, pysOf d = some p ∧ PyData.canLayAll0 p = true ∧ PyData.depthAll p = D.dps d
  | [], _ => ⟨[], rfl, rfl, rfl⟩
  | d :: ds, h => by
    simp only [D.bfs, Bool.and_eq_true] at h
    obtain ⟨p, a1, a2, a3⟩ := bf_py d h.1
    obtain ⟨q, b1, b2, b3⟩ := bfs_py ds h.2
    exact ⟨p :: q, by simp [pysOf, a1, b1], by simp [PyData.canLayAll0, a2, b2], by simp [PyData.depthAll, D.dps, a3, b3]⟩
end
mutual
theorem eqv_bf : ∀ (a b : D) (p q : PyData), a.bf = true → b.bf = true → pyOf a = some p → pyOf b = some q → PyData.eqv p q = decide (a = b)
  | .non, b, p, q, _, hb, hp, hq => by
    cases hp
    cases b with
    | tup ds =>
      obtain ⟨x, e, _⟩ := bfs_py ds (by simpa [D.bf] using hb)
      simp only [pyOf, e, Option.map_some] at hq
      cases hq
      simp [PyData.eqv]
    | non => cases hq; simp [PyData.eqv]
    | int j => cases hq; simp [PyData.eqv]
    | str j => cases hq; simp [PyData.eqv]
    | _ => simp [D.bf] at hb
  | .int i, b, p, q, _, hb, hp, hq => by
    cases hp
    cases b with
    | tup ds =>
      obtain ⟨x, e, _⟩ := bfs_py ds (by simpa [D.bf] using hb)
      simp only [pyOf, e, Option.map_some] at hq
      cases hq
      simp [PyData.eqv]
    | non => cases hq; simp [PyData.eqv]
    | int j => cases hq; by_cases e : i = j <;> simp [PyData.eqv, e]
    | str j => cases hq; simp [PyData.eqv]
    | _ => simp [D.bf] at hb
  | .str i, b, p, q, _, hb, hp, hq => by
    cases hp
    cases b with
    | tup ds =>
      obtain ⟨x, e, _⟩ := bfs_py ds (by simpa [D.bf] using hb)
      simp only [pyOf, e, Option.map_some] at hq
      cases hq
      simp [PyData.eqv]
    | non => cases hq; simp [PyData.eqv]
    | int j => cases hq; simp [PyData.eqv]
    | str j => cases hq; by_cases e : i = j <;> simp [PyData.eqv, e]
    | _ => simp [D.bf] at hb
  | .tup ds, b, p, q, ha, hb, hp, hq => by
    obtain ⟨x, e, _⟩ := bfs_py ds (by simpa [D.bf] using ha)
    simp only [pyOf, e, Option.map_some] at hp
    cases hp
    cases b with
    | tup es =>
      obtain ⟨y, e2, _⟩ := bfs_py es (by simpa [D.bf] using hb)
      simp only [pyOf, e2, Option.map_some] at hq
      cases hq
      have k := eqvs_bf ds es x y (by simpa [D.bf] using ha) (by simpa [D.bf] using hb) e e2
      simp only [PyData.eqv, k, D.tup.injEq]
    | non => cases hq; simp [PyData.eqv]
    | int j => cases hq; simp [PyData.eqv]
    | str j => cases hq; simp [PyData.eqv]
    | _ => simp [D.bf] at hb
  | .bl _, _, _, _, h, _, _, _ => by simp [D.bf] at h
  | .ref _, _, _, _, h, _, _, _ => by simp [D.bf] at h
  | .ro _, _, _, _, h, _, _, _ => by simp [D.bf] at h
  | .fn _, _, _, _, h, _, _, _ => by simp [D.bf] at h
theorem eqvs_bf : ∀ (a b : List D) (p q : List PyData), D.bfs a = true → D.bfs b = true → pysOf a = some p → pysOf b = some q → PyData.eqvAll p q = decide (a = b)
  | [], [], p, q, _, _, hp, hq => by cases hp; cases hq; simp [PyData.eqvAll]
  | [], b :: bs, p, q, _, hb, hp, hq => by
    cases hp
    obtain ⟨x, e, _⟩ := bfs_py (b :: bs) hb
    simp only [D.bfs, Bool.and_eq_true] at hb
    obtain ⟨y, e1, _⟩ := bf_py b hb.1
    obtain ⟨z, e2, _⟩ := bfs_py bs hb.2
    simp only [pysOf, e1, e2] at hq
    cases hq
    simp [PyData.eqvAll]
  | a :: as, [], p, q, ha, _, hp, hq => by
    cases hq
    simp only [D.bfs, Bool.and_eq_true] at ha
    obtain ⟨y, e1, _⟩ := bf_py a ha.1
    obtain ⟨z, e2, _⟩ := bfs_py as ha.2
    simp only [pysOf, e1, e2] at hp
    cases hp
    simp [PyData.eqvAll]
  | a :: as, b :: bs, p, q, ha, hb, hp, hq => by
    simp only [D.bfs, Bool.and_eq_true] at ha hb
    obtain ⟨y, e1, _⟩ := bf_py a ha.1
    obtain ⟨z, e2, _⟩ := bfs_py as ha.2
    obtain ⟨y', e1', _⟩ := bf_py b hb.1
    obtain ⟨z', e2', _⟩ := bfs_py bs hb.2
    simp only [pysOf, e1, e2] at hp
    simp only [pysOf, e1', e2'] at hq
    cases hp
    cases hq
    simp only [PyData.eqvAll, eqv_bf a b _ _ ha.1 hb.1 e1 e1', eqvs_bf as bs _ _ ha.2 hb.2 e2 e2']
    by_cases h1 : a = b <;> by_cases h2 : as = bs <;> simp [h1, h2]
end
theorem w_eqD {a b : D} {Q : Bool → Store → Prop} {S : Store} (ha : a.bf = true) (hb : b.bf = true) (da : a.dp ≤ 64) (db : b.dp ≤ 64) : wq (eqD a b) Q S = Q (decide (a = b)) S := by
  obtain ⟨p, a1, a2, a3⟩ := bf_py a ha
  obtain ⟨q, b1, b2, b3⟩ := bf_py b hb
  have e1 : pyAt S a = some p := by rw [← a1]; cases a <;> first | rfl | simp [D.bf] at ha
  have e2 : pyAt S b = some q := by rw [← b1]; cases b <;> first | rfl | simp [D.bf] at hb
  have e3 : (SeqAt.shaped p && SeqAt.shaped q) = true := by
    unfold SeqAt.shaped
    rw [a2, b2, a3, b3, decide_eq_true da, decide_eq_true db]
    rfl
  rw [wq_eq]
  unfold wp eqD
  simp only [e1, e2, e3, if_true, eqv_bf a b p q ha hb a1 b1]
theorem w_eqB {a b : Bool} {Q : Bool → Store → Prop} {S : Store} : wq (eqD (.bl a) (.bl b)) Q S = Q (a == b) S := by
  have e3 : (SeqAt.shaped (.bool a) && SeqAt.shaped (.bool b)) = true := by decide +revert
  have e1 : eqD (.bl a) (.bl b) S = some (PyData.eqv (.bool a) (.bool b), S) := by
    show (if (SeqAt.shaped (.bool a) && SeqAt.shaped (.bool b)) = true then some (PyData.eqv (.bool a) (.bool b), S) else none) = _
    rw [if_pos e3]
  rw [wq_eq]
  unfold wp
  rw [e1]
  rfl
theorem bfs_ints : ∀ xs : List Int, D.bfs (xs.map .int) = true
  | [] => rfl
  | x :: xs => by simp only [List.map_cons, D.bfs, D.bf, bfs_ints xs, Bool.and_self]
theorem dps_ints : ∀ xs : List Int, D.dps (xs.map .int) = 0
  | [] => rfl
  | x :: xs => by simp only [List.map_cons, D.dps, D.dp, dps_ints xs, Nat.max_self]
theorem map_int_inj {xs ys : List Int} : xs.map D.int = ys.map D.int ↔ xs = ys := ⟨fun h => by
  have := congrArg intsOf h
  rw [intsOf_map, intsOf_map] at this
  exact Option.some.inj this, fun h => by rw [h]⟩
theorem w_eqT {x y : List Int} {Q : Bool → Store → Prop} {S : Store} : wq (eqD (.tup (x.map .int)) (.tup (y.map .int))) Q S = Q (decide (x = y)) S := by
  rw [w_eqD (by simp only [D.bf, bfs_ints]) (by simp only [D.bf, bfs_ints]) (by simp only [D.dp, dps_ints]; omega) (by simp only [D.dp, dps_ints]; omega)]
  congr 1
  simp only [D.tup.injEq, map_int_inj]
theorem w_eqI {x y : Int} {Q : Bool → Store → Prop} {S : Store} : wq (eqD (.int x) (.int y)) Q S = Q (decide (x = y)) S := by
  rw [w_eqD rfl rfl (Nat.zero_le _) (Nat.zero_le _)]
  congr 1
  simp only [D.int.injEq]
end Dl
end

section
set_option Elab.async false
set_option linter.all false
set_option maxRecDepth 100000
set_option exponentiation.threshold 20000
/-! Dl: more of the calculus: mapped sources, ranges, indices, bounds. -/
namespace Dl
open PySem PySem.Spec PyProof.Rows L2
theorem rngItems_nat (n : Nat) : rngItems 0 (n : Int) = (List.range n).map fun (k : Nat) => D.int (k : Int) := by
  unfold rngItems
  rw [Int.sub_zero, Int.toNat_natCast]
  exact List.map_congr_left fun k _ => by rw [Int.zero_add]
theorem small62_of {i : Int} (h0 : -1000000 ≤ i) (h1 : i ≤ 1000000) : small62 i = true := by
  unfold small62
  rw [decide_eq_true (by omega), decide_eq_true (by omega)]
  rfl
theorem small_rng {n : Nat} (h : n ≤ 1000000) : (small62 0 && small62 (n : Int)) = true := by
  rw [small62_of (by omega) (by omega), small62_of (by omega) (by omega)]
  rfl
theorem log2_lt {n k : Nat} (h : n < 2 ^ k) (hk : 0 < k) : n.log2 < k := by
  by_cases e : n = 0
  · subst e
    exact hk
  · exact (Nat.log2_lt e).mpr h
theorem mulFits_of {i j : Int} (hi : i.natAbs < 2 ^ 8000) (hj : j.natAbs < 2 ^ 8000) : mulFits i j = true := by
  have a := log2_lt hi (by omega)
  have b := log2_lt hj (by omega)
  exact decide_eq_true (by omega)
theorem fits_small {i : Int} (h0 : -1000000 ≤ i) (h1 : i ≤ 1000000) : i.natAbs < 2 ^ 8000 := by
  have : (2 : Nat) ^ 20 ≤ 2 ^ 8000 := Nat.pow_le_pow_right (by omega) (by omega)
  have : (1000000 : Nat) < 2 ^ 20 := by decide
  omega
theorem fits_x {i : Int} (h0 : -1000000000000000000000000000000000000000000 ≤ i) (h1 : i ≤ 1000000000000000000000000000000000000000000) : i.natAbs < 2 ^ 8000 := by
  have : (2 : Nat) ^ 150 ≤ 2 ^ 8000 := Nat.pow_le_pow_right (by omega) (by omega)
  have : (1000000000000000000000000000000000000000000 : Nat) < 2 ^ 150 := by decide
  omega
theorem fits_big {i : Int} (h0 : -1000000000000 ≤ i) (h1 : i ≤ 1000000000000) : i.natAbs < 2 ^ 8000 := by
  have : (2 : Nat) ^ 40 ≤ 2 ^ 8000 := Nat.pow_le_pow_right (by omega) (by omega)
  have : (1000000000000 : Nat) < 2 ^ 40 := by decide
  omega
theorem atI_map {α : Type} {xs : List α} {e : α → D} {k : Nat} {x : α} (h : xs[k]? = some x) : atI (xs.map e) (k : Int) = some (e x) :=
  atI_of (by omega) (by rw [Int.toNat_natCast, List.getElem?_map, h]; rfl)
theorem atI_ints {xs : List Int} {k : Nat} (h : k < xs.length) : atI (xs.map D.int) (k : Int) = some (D.int (xs.getD k 0)) :=
  atI_map (by rw [List.getD_eq_getElem?_getD, List.getElem?_eq_getElem h]; rfl)
theorem atI_int {xs : List Int} {k : Int} (h0 : 0 ≤ k) (h : k.toNat < xs.length) : atI (xs.map D.int) k = some (D.int (xs.getD k.toNat 0)) := by
  have := atI_ints h
  rwa [Int.toNat_of_nonneg h0] at this
theorem getD_mem {xs : List Int} {k : Nat} (h : k < xs.length) : xs.getD k 0 ∈ xs := by
  rw [List.getD_eq_getElem?_getD, List.getElem?_eq_getElem h]
  exact List.getElem_mem h
/-- over mapped items, in general: what each item may tell, over a frame that keeps P -/
theorem compL_gen {α : Type} {s : Src} {f : D → M (Option D)} {S : Store} {L : List Nat} {P : Store → Prop} {e : α → D} {R : α → Option D → Prop} {xs : List α} {Q : List D → Store → Prop} (hs : xs.length ≤ 1000000) (hg : ∀ S', Fr L S S' → P S' → s.Gd S') (hP : P S)
    (h : ∀ x, x ∈ xs → ∀ S', Fr L S S' → P S' → wq (f (e x)) (fun r S'' => R x r ∧ Fr L S' S'' ∧ P S'') S')
    (k : ∀ (os : List (Option D)) S', os.length = xs.length → (∀ p ∈ xs.zip os, R p.1 p.2) → Fr L S S' → P S' → Q (os.filterMap id) S') : wq (compL s f (xs.map e) []) Q S := by
  have key := compL_inv (s := s) (f := f) (fun rest acc S' => ∃ (done rs : List α) (os : List (Option D)), xs = done ++ rs ∧ rest = rs.map e ∧ os.length = done.length ∧ (∀ p ∈ done.zip os, R p.1 p.2) ∧ acc = os.filterMap id ∧ Fr L S S' ∧ P S') ?_ ?_ (xs.map e) [] S
    ⟨[], xs, [], rfl, rfl, rfl, fun p hp => by simp at hp, rfl, .refl, hP⟩
  · refine wq_mono key fun r S' ⟨done, rs, os, e1, e0, e2, e3, e4, e5, e6⟩ => ?_
    cases rs with
    | cons _ _ => cases e0
    | nil =>
      rw [List.append_nil] at e1
      subst e1
      rw [e4]
      exact k os S' e2 e3 e5 e6
  · rintro rest acc S' ⟨done, rs, os, e1, e0, e2, e3, e4, e5, e6⟩
    exact hg S' e5 e6
  · rintro d rest acc S' ⟨done, rs, os, e1, e0, e2, e3, e4, e5, e6⟩
    cases rs with
    | nil => cases e0
    | cons x rs =>
    cases e0
    have hm : x ∈ xs := by rw [e1]; simp
    have hl : acc.length < sizeLine := by
      have a1 : acc.length ≤ os.length := by rw [e4]; exact List.length_filterMap_le _ _
      have a2 : xs.length = done.length + (rs.length + 1) := by rw [e1]; simp
      exact Nat.lt_of_lt_of_le (show acc.length < 1000000 by omega) (by decide)
    refine wq_mono (h x hm S' e5 e6) fun r S'' ⟨k1, k2, k3⟩ => ?_
    have z : ∀ p ∈ (done ++ [x]).zip (os ++ [r]), R p.1 p.2 := fun p hp => by
      rw [List.zip_append (by rw [e2])] at hp
      rcases List.mem_append.mp hp with q | q
      · exact e3 p q
      · simp only [List.zip_cons_cons, List.zip_nil_right, List.mem_singleton] at q
        subst q
        exact k1
    cases r with
    | none => exact ⟨done ++ [x], rs, os ++ [none], by rw [e1]; simp, rfl, by simp [e2], z, by rw [List.filterMap_append, ← e4]; simp, e5.trans k2, k3⟩
    | some y => exact ⟨hl, done ++ [x], rs, os ++ [some y], by rw [e1]; simp, rfl, by simp [e2], z, by rw [List.filterMap_append, ← e4]; simp, e5.trans k2, k3⟩
/-- over mapped items: a pure test and a pure element -/
theorem compL_filt {α : Type} {s : Src} {f : D → M (Option D)} {S : Store} {e : α → D} (g : α → Option D) {xs : List α} {Q : List D → Store → Prop} (hs : xs.length ≤ 1000000) (hg : ∀ S', Fr [] S S' → s.Gd S')
    (h : ∀ x, x ∈ xs → ∀ S', Fr [] S S' → wq (f (e x)) (fun r S'' => r = g x ∧ Fr [] S' S'') S') (k : ∀ S', Fr [] S S' → Q (xs.filterMap g) S') : wq (compL s f (xs.map e) []) Q S := by
  refine compL_gen (L := []) (P := fun _ => True) (R := fun x r => r = g x) hs (fun S' a _ => hg S' a) trivial (fun x hx S' a _ => wq_mono (h x hx S' a) fun r S'' ⟨k1, k2⟩ => ⟨k1, k2, trivial⟩) fun os S' e1 e2 e3 _ => ?_
  have := zip_fun e1 e2
  subst this
  rw [List.filterMap_map]
  exact k S' e3
/-- the same, with no test -/
theorem compL_tot {α : Type} {s : Src} {f : D → M (Option D)} {S : Store} {e : α → D} (g : α → D) {xs : List α} {Q : List D → Store → Prop} (hs : xs.length ≤ 1000000) (hg : ∀ S', Fr [] S S' → s.Gd S')
    (h : ∀ x, x ∈ xs → ∀ S', Fr [] S S' → wq (f (e x)) (fun r S'' => r = some (g x) ∧ Fr [] S' S'') S') (k : ∀ S', Fr [] S S' → Q (xs.map g) S') : wq (compL s f (xs.map e) []) Q S := by
  refine compL_filt (fun x => some (g x)) hs hg h fun S' a => ?_
  have : xs.filterMap (fun x => some (g x)) = xs.map g := by
    clear k h hs
    induction xs with
    | nil => rfl
    | cons x xs ih => simp only [List.filterMap_cons, List.map_cons, ih]
  rw [this]
  exact k S' a
/-- a comprehension with no test that draws -/
theorem compL_drw {α β : Type} {s : Src} {f : D → M (Option D)} {S : Store} {l : Nat} {e : α → D} {e2 : β → D} {R : α → β → Prop} {xs : List α} {Q : List D → Store → Prop} (hs : xs.length ≤ 1000000) (hg : ∀ S', Dr l S S' → s.Gd S') (hd : Dw l S)
    (h : ∀ x, x ∈ xs → ∀ S', Dr l S S' → wq (f (e x)) (fun r S'' => (∃ y, r = some (e2 y) ∧ R x y) ∧ Dr l S' S'') S')
    (k : ∀ (ys : List β) S', ys.length = xs.length → (∀ p ∈ xs.zip ys, R p.1 p.2) → Dr l S S' → Q (ys.map e2) S') : wq (compL s f (xs.map e) []) Q S := by
  refine compL_gen (L := [l]) (P := Dw l) (R := fun x r => ∃ y, r = some (e2 y) ∧ R x y) hs (fun S' a b => hg S' ⟨b, a⟩) hd (fun x hx S' a b => wq_mono (h x hx S' ⟨b, a⟩) fun r S'' ⟨k1, k2⟩ => ⟨k1, k2.f, k2.d⟩) fun os S' e1 e2' e3 e4 => ?_
  have : ∃ ys : List β, ys.length = xs.length ∧ (∀ p ∈ xs.zip ys, R p.1 p.2) ∧ os.filterMap id = ys.map e2 := by
    clear k h hs e3 e4
    induction xs generalizing os with
    | nil =>
      cases os with
      | nil => exact ⟨[], rfl, fun p hp => by simp at hp, rfl⟩
      | cons _ _ => cases e1
    | cons x xs ih =>
      cases os with
      | nil => cases e1
      | cons o os =>
        obtain ⟨y, rfl, hy⟩ := e2' (x, o) (by simp)
        obtain ⟨ys, a1, a2, a3⟩ := ih os (Nat.succ.inj e1) fun p hp => e2' p (by simp only [List.zip_cons_cons, List.mem_cons]; exact .inr hp)
        refine ⟨y :: ys, by simp [a1], fun p hp => ?_, by simp [a3]⟩
        simp only [List.zip_cons_cons, List.mem_cons] at hp
        rcases hp with rfl | hp
        · exact hy
        · exact a2 p hp
  obtain ⟨ys, a1, a2, a3⟩ := this
  rw [a3]
  exact k ys S' a1 a2 ⟨e4, e3⟩
/-- a comprehension that draws whether it keeps its item -/
theorem compL_sub {α : Type} {s : Src} {f : D → M (Option D)} {S : Store} {l : Nat} {e : α → D} {xs : List α} {Q : List D → Store → Prop} (hs : xs.length ≤ 1000000) (hg : ∀ S', Dr l S S' → s.Gd S') (hd : Dw l S)
    (h : ∀ x, x ∈ xs → ∀ S', Dr l S S' → wq (f (e x)) (fun r S'' => (r = none ∨ r = some (e x)) ∧ Dr l S' S'') S')
    (k : ∀ (ys : List α) S', List.Sublist ys xs → Dr l S S' → Q (ys.map e) S') : wq (compL s f (xs.map e) []) Q S := by
  refine compL_gen (L := [l]) (P := Dw l) (R := fun x r => r = none ∨ r = some (e x)) hs (fun S' a b => hg S' ⟨b, a⟩) hd (fun x hx S' a b => wq_mono (h x hx S' ⟨b, a⟩) fun r S'' ⟨k1, k2⟩ => ⟨k1, k2.f, k2.d⟩) fun os S' e1 e2' e3 e4 => ?_
  have : ∃ ys : List α, List.Sublist ys xs ∧ os.filterMap id = ys.map e := by
    clear k h hs e3 e4
    induction xs generalizing os with
    | nil =>
      cases os with
      | nil => exact ⟨[], .slnil, rfl⟩
      | cons _ _ => cases e1
    | cons x xs ih =>
      cases os with
      | nil => cases e1
      | cons o os =>
        obtain ⟨ys, a1, a3⟩ := ih os (Nat.succ.inj e1) fun p hp => e2' p (by simp only [List.zip_cons_cons, List.mem_cons]; exact .inr hp)
        rcases e2' (x, o) (by simp) with h | h
        · exact ⟨ys, .cons _ a1, by simp at h; subst h; simp [a3]⟩
        · exact ⟨x :: ys, .cons₂ _ a1, by simp at h; subst h; simp [a3]⟩
  obtain ⟨ys, a1, a3⟩ := this
  rw [a3]
  exact k ys S' a1 ⟨e4, e3⟩
theorem Gd_none {ds : List D} {S : Store} : (Src.mk ds none none).Gd S := ⟨trivial, trivial⟩
theorem Gd_ref {ds es : List D} {l : Nat} {S : Store} (h : S[l]? = some (.lst es)) : (Src.mk ds (some (l, es)) none).Gd S := ⟨h, trivial⟩
/-- a for over mapped items -/
theorem forL_gen {α : Type} {s : Src} {f : D → Sl → M (Fl × Sl)} {Q : Fl × Sl → Store → Prop} {e : α → D} (I : List α → List α → Sl → Store → Prop) {xs : List α} {env : Sl} {S : Store} (hg : ∀ a b e S, I a b e S → s.Gd S)
    (h0 : I [] xs env S) (he : ∀ e S, I xs [] e S → Q (.nx, e) S)
    (h : ∀ (done : List α) (x : α) (rest : List α) (e1 : Sl) (S : Store), xs = done ++ x :: rest → I done (x :: rest) e1 S → wq (f (e x) e1) (fun r S' => match r with | (.nx, e2) => I (done ++ [x]) rest e2 S' | (.ct, e2) => I (done ++ [x]) rest e2 S' | (.bk, e2) => Q (.nx, e2) S' | (.rt v, e2) => Q (.rt v, e2) S') S) :
    wq (forL s f (xs.map e) env) Q S := by
  refine forL_inv (fun ds e1 S => ∃ done rest, xs = done ++ rest ∧ ds = rest.map e ∧ I done rest e1 S) ?_ ?_ ?_ (xs.map e) env S ⟨[], xs, rfl, rfl, h0⟩
  · rintro ds e1 S ⟨done, rest, _, _, k⟩
    exact hg _ _ _ _ k
  · rintro e1 S ⟨done, rest, a, b, k⟩
    cases rest with
    | cons _ _ => cases b
    | nil =>
      rw [List.append_nil] at a
      subst a
      exact he _ _ k
  · rintro d ds e1 S ⟨done, rest, a, b, k⟩
    cases rest with
    | nil => cases b
    | cons x rest =>
      cases b
      refine wq_mono (h done x rest e1 S a k) fun r S' z => ?_
      obtain ⟨fl, e2⟩ := r
      cases fl with
      | nx => exact ⟨done ++ [x], rest, by rw [a]; simp, rfl, z⟩
      | ct => exact ⟨done ++ [x], rest, by rw [a]; simp, rfl, z⟩
      | bk => exact z
      | rt v => exact z
/-- a for over mapped items whose invariant does not name the items -/
theorem forL_inv1 {α : Type} {s : Src} {f : D → Sl → M (Fl × Sl)} {Q : Fl × Sl → Store → Prop} {e : α → D} (I : Nat → Sl → Store → Prop) {xs : List α} {env : Sl} {S : Store} (hg : ∀ n e S, I n e S → s.Gd S)
    (h0 : I 0 env S) (he : ∀ e S, I xs.length e S → Q (.nx, e) S)
    (h : ∀ (n : Nat) (x : α) (e1 : Sl) (S : Store), xs[n]? = some x → I n e1 S → wq (f (e x) e1) (fun r S' => match r with | (.nx, e2) => I (n + 1) e2 S' | (.ct, e2) => I (n + 1) e2 S' | (.bk, e2) => Q (.nx, e2) S' | (.rt v, e2) => Q (.rt v, e2) S') S) :
    wq (forL s f (xs.map e) env) Q S := by
  refine forL_gen (fun done _ e1 S => I done.length e1 S) (fun a b e S k => hg _ _ _ k) h0 he fun done x rest e1 S a k => ?_
  have := h done.length x e1 S (by rw [a]; simp) k
  simpa only [List.length_append, List.length_cons, List.length_nil] using this
theorem filter_sub {α : Type} [DecidableEq α] : ∀ {ks xs : List α}, List.Sublist ks xs → xs.Nodup → xs.filter (fun x => decide (x ∈ ks)) = ks
  | _, _, .slnil, _ => rfl
  | ks, _, .cons (l₂ := xs) a h, nd => by
    have nd' := List.nodup_cons.mp nd
    have hn : a ∉ ks := fun m => nd'.1 (h.subset m)
    rw [List.filter_cons_of_neg (by simpa using hn)]
    exact filter_sub h nd'.2
  | _, _, .cons₂ (l₁ := ks) (l₂ := xs) a h, nd => by
    have nd' := List.nodup_cons.mp nd
    rw [List.filter_cons_of_pos (by simp)]
    congr 1
    have : xs.filter (fun x => decide (x ∈ a :: ks)) = xs.filter (fun x => decide (x ∈ ks)) := by
      refine List.filter_congr fun x hx => ?_
      have : x ≠ a := fun e => nd'.1 (e ▸ hx)
      simp [this]
    rw [this]
    exact filter_sub h nd'.2
end Dl
end

section
set_option Elab.async false
set_option linter.all false
set_option maxRecDepth 100000
/-! Dl: wq of each form of the language, bodies of loops kept shut. -/
namespace Dl
open PySem PySem.Spec PyProof.Rows L2
section
variable {gl : Nat → D} {cf : Nat → List D → M D} {env : Sl} {S : Store} {Q : D → Store → Prop} {QB : Bool → Store → Prop} {QL : List D → Store → Prop} {QO : Option Int → Store → Prop} {QS : Src → Store → Prop} {QE : Sl → Store → Prop} {QF : Fl × Sl → Store → Prop} {QD : Option D → Store → Prop}
/-- the body of a comprehension -/
def cB (gl : Nat → D) (cf : Nat → List D → M D) (t : TG) (cond : IC) (e : IE) (env0 : Sl) (d : D) : M (Option D) := do
  let env1 ← asg gl cf t d env0
  if ← evc gl cf cond env1 then
    let y ← ev gl cf e env1
    pure (some y)
  else pure none
/-- the body of a for -/
def fB (gl : Nat → D) (cf : Nat → List D → M D) (t : TG) (b : ISs) (d : D) (e : Sl) : M (Fl × Sl) := do let e1 ← asg gl cf t d e; exs gl cf b e1
theorem e_cB {t : TG} {cond : IC} {e : IE} {d : D} : wq (cB gl cf t cond e env d) QD S = wq (asg gl cf t d env) (fun env1 S' => wq (evc gl cf cond env1) (fun b S'' => if b = true then wq (ev gl cf e env1) (fun y => QD (some y)) S'' else QD none S'') S') S := by
  unfold cB
  simp only [wq_bind, wq_ite, wq_pure]
theorem e_fB {t : TG} {b : ISs} {d : D} : wq (fB gl cf t b d env) QF S = wq (asg gl cf t d env) (fun e1 S' => wq (exs gl cf b e1) QF S') S := by
  unfold fB
  simp only [wq_bind]
theorem e_var {i : Nat} : wq (ev gl cf (.var i) env) Q S = match env[i]? with | some (some d) => Q d S | _ => False := by
  simp only [ev]
  cases env[i]? with
  | none => exact wq_l rfl
  | some o => cases o <;> first | exact wq_l rfl | rfl
theorem e_int {z : Int} : wq (ev gl cf (.int z) env) Q S = Q (.int z) S := by simp only [ev, wq_pure]
theorem e_bl {b : Bool} : wq (ev gl cf (.bl b) env) Q S = Q (.bl b) S := by simp only [ev, wq_pure]
theorem e_non : wq (ev gl cf .non env) Q S = Q .non S := by simp only [ev, wq_pure]
theorem e_str {x : Str} : wq (ev gl cf (.str x) env) Q S = Q (.str x) S := by simp only [ev, wq_pure]
theorem e_glo {g : Nat} : wq (ev gl cf (.glo g) env) Q S = Q (gl g) S := by simp only [ev, wq_pure]
theorem e_tup {es : IEs} : wq (ev gl cf (.tup es) env) Q S = wq (evs gl cf es env) (fun ds S' => lens ds.length = true ∧ Q (.tup ds) S') S := by simp only [ev, wq_bind, wq_need, wq_pure]
theorem e_lst {es : IEs} : wq (ev gl cf (.lst es) env) Q S = wq (evs gl cf es env) (fun ds S' => lens ds.length = true ∧ Q (.ref S'.length) (S' ++ [.lst ds])) S := by simp only [ev, wq_bind, wq_need, wq_newO]
theorem e_op {o : Operator} {a b : IE} : wq (ev gl cf (.op o a b) env) Q S = wq (ev gl cf a env) (fun x S' => wq (ev gl cf b env) (fun y S'' => wq (bop o x y) Q S'') S') S := by simp only [ev, wq_bind]
def negD : D → M D
  | .int i => pure (.int (-i))
  | _ => fail
theorem w_neg {i : Int} : wq (negD (.int i)) Q S = Q (.int (-i)) S := by unfold negD; rw [wq_pure]
theorem e_neg {a : IE} : wq (ev gl cf (.neg a) env) Q S = wq (ev gl cf a env) (fun x S' => wq (negD x) Q S') S := by
  simp only [ev, wq_bind]
  congr 1
theorem e_not {a : IE} : wq (ev gl cf (.not a) env) Q S = wq (ev gl cf a env) (fun x S' => wq (truth x) (fun b S'' => Q (.bl (!b)) S'') S') S := by simp only [ev, wq_bind, wq_pure]
theorem e_and {a b : IE} : wq (ev gl cf (.and a b) env) Q S = wq (ev gl cf a env) (fun x S' => wq (truth x) (fun t S'' => if t = true then wq (ev gl cf b env) Q S'' else Q x S'') S') S := by simp only [ev, wq_bind, wq_ite, wq_pure]
theorem e_or {a b : IE} : wq (ev gl cf (.or a b) env) Q S = wq (ev gl cf a env) (fun x S' => wq (truth x) (fun t S'' => if t = true then Q x S'' else wq (ev gl cf b env) Q S'') S') S := by simp only [ev, wq_bind, wq_ite, wq_pure]
theorem e_cmp {o : CmpOp} {a b : IE} : wq (ev gl cf (.cmp o a b) env) Q S = wq (ev gl cf a env) (fun x S' => wq (ev gl cf b env) (fun y S'' => wq (cop o x y) (fun r => Q (.bl r)) S'') S') S := by simp only [ev, wq_bind, wq_pure]
theorem e_chain {o o2 : CmpOp} {a b c : IE} : wq (ev gl cf (.chain o o2 a b c) env) Q S = wq (ev gl cf a env) (fun x S' => wq (ev gl cf b env) (fun y S'' => wq (cop o x y) (fun t S3 => if t = true then wq (ev gl cf c env) (fun z S4 => wq (cop o2 y z) (fun r => Q (.bl r)) S4) S3 else Q (.bl false) S3) S'') S') S := by simp only [ev, wq_bind, wq_ite, wq_pure]
theorem e_ite {c a b : IE} : wq (ev gl cf (.ite c a b) env) Q S = wq (tst gl cf c env) (fun t S' => if t = true then wq (ev gl cf a env) Q S' else wq (ev gl cf b env) Q S') S := by simp only [ev, wq_bind, wq_ite]
theorem e_ix {a b : IE} : wq (ev gl cf (.ix a b) env) Q S = wq (ev gl cf a env) (fun x S' => wq (ev gl cf b env) (fun y S'' => wq (ixD x y) Q S'') S') S := by simp only [ev, wq_bind]
theorem e_sl {a : IE} {lo hi : IO} : wq (ev gl cf (.sl a lo hi) env) Q S = wq (ev gl cf a env) (fun x S' => wq (evo gl cf lo env) (fun u S'' => wq (evo gl cf hi env) (fun v S3 => wq (slD x u v) Q S3) S'') S') S := by simp only [ev, wq_bind]
theorem e_rev {a : IE} : wq (ev gl cf (.rev a) env) Q S = wq (ev gl cf a env) (fun x S' => wq (revD x) Q S') S := by simp only [ev, wq_bind]
theorem e_call {f : Nat} {es : IEs} : wq (ev gl cf (.call f es) env) Q S = wq (evs gl cf es env) (fun ds S' => wq (cf f ds) Q S') S := by simp only [ev, wq_bind]
theorem e_bi {b : Bi} {es : IEs} : wq (ev gl cf (.bi b es) env) Q S = wq (evs gl cf es env) (fun ds S' => wq (biRun b ds) Q S') S := by simp only [ev, wq_bind]
theorem e_me {m : Me} {o : IE} {es : IEs} : wq (ev gl cf (.me m o es) env) Q S = wq (ev gl cf o env) (fun x S' => wq (isL x) (fun _ S'' => wq (evs gl cf es env) (fun ds S3 => wq (meRun m x ds) Q S3) S'') S') S := by simp only [ev, wq_bind]
theorem e_isi {a : IE} {t : Ty} : wq (ev gl cf (.isi a t) env) Q S = wq (ev gl cf a env) (fun x S' => wq (isiRun x [t]) Q S') S := by simp only [ev, wq_bind]
theorem e_isis {a : IE} {ts : List Ty} : wq (ev gl cf (.isis a ts) env) Q S = wq (ev gl cf a env) (fun x S' => wq (isiRun x ts) Q S') S := by simp only [ev, wq_bind]
theorem e_comp {t : TG} {own : List Nat} {it : II} {cond : IC} {e : IE} : wq (ev gl cf (.comp t own it cond e) env) Q S = wq (evi gl cf it env) (fun s S' => wq (compL s (cB gl cf t cond e (wipeE env own)) s.items []) (fun r S'' => Q (.ref S''.length) (S'' ++ [.lst r])) S') S := by
  simp only [ev, wq_bind, wq_newO]
  rfl
def tuprD : D → M D
  | .int i => do need (rngOk i && decide (1 ≤ i)); pure (.tup (rngItems 0 i))
  | _ => fail
theorem w_tupr {i : Int} : wq (tuprD (.int i)) Q S = ((rngOk i && decide (1 ≤ i)) = true ∧ Q (.tup (rngItems 0 i)) S) := by unfold tuprD; rw [wq_bind, wq_need, wq_pure]
theorem e_tupr {a : IE} : wq (ev gl cf (.tupr a) env) Q S = wq (ev gl cf a env) (fun x S' => wq (tuprD x) Q S') S := by
  simp only [ev, wq_bind]
  congr 1
def lstrD : D → M D
  | .int i => do need (rngOk i); newO (.lst (rngItems 0 i))
  | _ => fail
theorem w_lstr {i : Int} : wq (lstrD (.int i)) Q S = (rngOk i = true ∧ Q (.ref S.length) (S ++ [.lst (rngItems 0 i)])) := by unfold lstrD; rw [wq_bind, wq_need, wq_newO]
theorem e_lstr {a : IE} : wq (ev gl cf (.lstr a) env) Q S = wq (ev gl cf a env) (fun x S' => wq (lstrD x) Q S') S := by
  simp only [ev, wq_bind]
  congr 1
theorem e_nil : wq (evs gl cf .nil env) QL S = QL [] S := by simp only [evs, wq_pure]
theorem e_cons {e : IE} {es : IEs} : wq (evs gl cf (.cons e es) env) QL S = wq (ev gl cf e env) (fun d S' => wq (evs gl cf es env) (fun ds S'' => QL (d :: ds) S'') S') S := by simp only [evs, wq_bind, wq_pure]
theorem e_ono : wq (evo gl cf .no env) QO S = QO none S := by simp only [evo, wq_pure]
theorem e_oso {e : IE} : wq (evo gl cf (.so e) env) QO S = wq (ev gl cf e env) (fun d S' => wq (asInt d) QO S') S := by simp only [evo, wq_bind]
theorem e_cno : wq (evc gl cf .no env) QB S = QB true S := by simp only [evc, wq_pure]
theorem e_cso {e : IE} : wq (evc gl cf (.so e) env) QB S = wq (tst gl cf e env) QB S := by simp only [evc]
theorem vt_and {a b : IE} : wq (tst gl cf (.and a b) env) QB S = wq (tst gl cf a env) (fun t S'' => if t = true then wq (tst gl cf b env) QB S'' else QB false S'') S := by simp only [tst, wq_bind, wq_ite, wq_pure]
theorem vt_or {a b : IE} : wq (tst gl cf (.or a b) env) QB S = wq (tst gl cf a env) (fun t S'' => if t = true then QB true S'' else wq (tst gl cf b env) QB S'') S := by simp only [tst, wq_bind, wq_ite, wq_pure]
theorem vt_not {a : IE} : wq (tst gl cf (.not a) env) QB S = wq (tst gl cf a env) (fun t S'' => QB (!t) S'') S := by simp only [tst, wq_bind, wq_pure]
theorem vt_cmp {o : CmpOp} {a b : IE} : wq (tst gl cf (.cmp o a b) env) QB S = wq (ev gl cf a env) (fun x S' => wq (ev gl cf b env) (fun y S'' => wq (cop o x y) QB S'') S') S := by simp only [tst, wq_bind]
theorem vt_chain {o o2 : CmpOp} {a b c : IE} : wq (tst gl cf (.chain o o2 a b c) env) QB S = wq (ev gl cf a env) (fun x S' => wq (ev gl cf b env) (fun y S'' => wq (cop o x y) (fun t S3 => if t = true then wq (ev gl cf c env) (fun z S4 => wq (cop o2 y z) QB S4) S3 else QB false S3) S'') S') S := by simp only [tst, wq_bind, wq_ite, wq_pure]
theorem vt_var {i : Nat} : wq (tst gl cf (.var i) env) QB S = match env[i]? with | some (some d) => wq (truth d) QB S | _ => False := by
  simp only [tst]
  cases env[i]? with
  | none => exact wq_l rfl
  | some o => cases o <;> first | exact wq_l rfl | rfl
theorem vt_bl {b : Bool} : wq (tst gl cf (.bl b) env) QB S = QB b S := by simp only [tst, wq_pure]
theorem vt_call {f : Nat} {es : IEs} : wq (tst gl cf (.call f es) env) QB S = wq (evs gl cf es env) (fun ds S' => wq (cf f ds) (fun d S'' => wq (truth d) QB S'') S') S := by simp only [tst, wq_bind]
theorem vt_bi {b : Bi} {es : IEs} : wq (tst gl cf (.bi b es) env) QB S = wq (evs gl cf es env) (fun ds S' => wq (biRun b ds) (fun d S'' => wq (truth d) QB S'') S') S := by simp only [tst, wq_bind]
theorem vt_isi {a : IE} {t : Ty} : wq (tst gl cf (.isi a t) env) QB S = wq (ev gl cf a env) (fun x S' => wq (isiRun x [t]) (fun d S'' => wq (truth d) QB S'') S') S := by simp only [tst, wq_bind]
theorem vt_isis {a : IE} {ts : List Ty} : wq (tst gl cf (.isis a ts) env) QB S = wq (ev gl cf a env) (fun x S' => wq (isiRun x ts) (fun d S'' => wq (truth d) QB S'') S') S := by simp only [tst, wq_bind]
theorem vi_seq {e : IE} : wq (evi gl cf (.seq e) env) QS S = wq (ev gl cf e env) (fun d S' => wq (seqSrc d) QS S') S := by simp only [evi, wq_bind]
theorem vi_rng1 {e : IE} : wq (evi gl cf (.rng1 e) env) QS S = wq (ev gl cf e env) (fun d S' => wq (rngSrc (.int 0) d) QS S') S := by simp only [evi, wq_bind]
theorem vi_rng2 {a b : IE} : wq (evi gl cf (.rng2 a b) env) QS S = wq (ev gl cf a env) (fun x S' => wq (ev gl cf b env) (fun y S'' => wq (rngSrc x y) QS S'') S') S := by simp only [evi, wq_bind]
theorem vi_zip {a b : IE} : wq (evi gl cf (.zip a b) env) QS S = wq (ev gl cf a env) (fun x S' => wq (ev gl cf b env) (fun y S'' => wq (zipSrc x y) QS S'') S') S := by simp only [evi, wq_bind]
theorem vg_nm {i : Nat} {d : D} : wq (asg gl cf (.nm i) d env) QE S = (i < env.length ∧ QE (env.set i (some d)) S) := by simp only [asg, wq_bind, wq_need, wq_pure, decide_eq_true_eq]
theorem vg_tp {ts : TGs} {d : D} : wq (asg gl cf (.tp ts) d env) QE S = wq (unpk d ts.len) (fun ds S' => wq (asgs gl cf ts ds env) QE S') S := by simp only [asg, wq_bind]
theorem vg_ixs {o i : IE} {d : D} : wq (asg gl cf (.ixs o i) d env) QE S = wq (ev gl cf o env) (fun x S' => wq (ev gl cf i env) (fun y S'' => wq (setIx x y d) (fun _ S3 => QE env S3) S'') S') S := by simp only [asg, wq_bind, wq_pure]
theorem gs_nil : wq (asgs gl cf .nil [] env) QE S = QE env S := by simp only [asgs, wq_pure]
theorem gs_cons {t : TG} {ts : TGs} {d : D} {ds : List D} : wq (asgs gl cf (.cons t ts) (d :: ds) env) QE S = wq (asg gl cf t d env) (fun e S' => wq (asgs gl cf ts ds e) QE S') S := by simp only [asgs, wq_bind]
theorem x_asg {t : TG} {e : IE} : wq (ex gl cf (.asg t e) env) QF S = wq (ev gl cf e env) (fun d S' => wq (asg gl cf t d env) (fun e2 S'' => QF (.nx, e2) S'') S') S := by simp only [ex, wq_bind, wq_pure]
theorem x_par {i j : Nat} {a b : IE} : wq (ex gl cf (.par i j a b) env) QF S = wq (ev gl cf a env) (fun x S' => wq (ev gl cf b env) (fun y S'' => (i < env.length ∧ j < env.length) ∧ QF (.nx, (env.set i (some x)).set j (some y)) S'') S') S := by simp only [ex, wq_bind, wq_need, wq_pure, Bool.and_eq_true, decide_eq_true_eq]
theorem x_aug {i : Nat} {o : Operator} {e : IE} : wq (ex gl cf (.aug i o e) env) QF S = match env[i]? with | some (some x) => wq (ev gl cf e env) (fun y S' => augOk o x y = true ∧ wq (bop o x y) (fun z S'' => QF (.nx, env.set i (some z)) S'') S') S | _ => False := by
  simp only [ex]
  cases env[i]? with
  | none => exact wq_l rfl
  | some x =>
    cases x with
    | none => exact wq_l rfl
    | some x => simp only [wq_bind, wq_need, wq_pure]
theorem x_expr {e : IE} : wq (ex gl cf (.expr e) env) QF S = wq (ev gl cf e env) (fun _ S' => QF (.nx, env) S') S := by simp only [ex, wq_bind, wq_pure]
theorem x_ret {e : IE} : wq (ex gl cf (.ret e) env) QF S = wq (ev gl cf e env) (fun d S' => QF (.rt d, env) S') S := by simp only [ex, wq_bind, wq_pure]
theorem x_retN : wq (ex gl cf .retN env) QF S = QF (.rt .non, env) S := by simp only [ex, wq_pure]
theorem x_ite {c : IE} {a b : ISs} : wq (ex gl cf (.ite c a b) env) QF S = wq (tst gl cf c env) (fun t S' => if t = true then wq (exs gl cf a env) QF S' else wq (exs gl cf b env) QF S') S := by simp only [ex, wq_bind, wq_ite]
theorem x_for {t : TG} {it : II} {b : ISs} : wq (ex gl cf (.forr t it b) env) QF S = wq (evi gl cf it env) (fun s S' => wq (forL s (fB gl cf t b) s.items env) QF S') S := by
  simp only [ex, wq_bind]
  rfl
theorem x_whl {c : IE} {b : ISs} : wq (ex gl cf (.whl c b) env) QF S = wq (whlL (tst gl cf c) (exs gl cf b) bigN env) QF S := by
  simp only [ex]
theorem x_pass : wq (ex gl cf .pass env) QF S = QF (.nx, env) S := by simp only [ex, wq_pure]
theorem x_brk : wq (ex gl cf .brk env) QF S = QF (.bk, env) S := by simp only [ex, wq_pure]
theorem x_cnt : wq (ex gl cf .cnt env) QF S = QF (.ct, env) S := by simp only [ex, wq_pure]
theorem xs_nil : wq (exs gl cf .nil env) QF S = QF (.nx, env) S := by simp only [exs, wq_pure]
theorem xs_cons {s : IS} {ss : ISs} : wq (exs gl cf (.cons s ss) env) QF S = wq (ex gl cf s env) (fun r S' => match r with | (.nx, e) => wq (exs gl cf ss e) QF S' | r => QF r S') S := by
  simp only [exs, wq_bind]
  congr 1
  funext r S'
  obtain ⟨f, e⟩ := r
  cases f <;> first | exact wq_l rfl | rfl
theorem r_nx : wq (ofFl (.nx, env)) Q S = Q .non S := by unfold ofFl; rw [wq_pure]
theorem r_rt {d : D} : wq (ofFl (.rt d, env)) Q S = Q d S := by unfold ofFl; rw [wq_pure]
/-- what follows a statement, kept shut -/
structure kQ (gl : Nat → D) (cf : Nat → List D → M D) (ss : ISs) (QF : Fl × Sl → Store → Prop) (r : Fl × Sl) (S : Store) : Prop where
  out : match r with | (.nx, e) => wq (exs gl cf ss e) QF S | r => QF r S
theorem kQ_eq {ss : ISs} {r : Fl × Sl} : kQ gl cf ss QF r S = match r with | (.nx, e) => wq (exs gl cf ss e) QF S | r => QF r S := propext ⟨fun h => h.out, fun h => ⟨h⟩⟩
theorem k_cons {s : IS} {ss : ISs} : wq (exs gl cf (.cons s ss) env) QF S = wq (ex gl cf s env) (kQ gl cf ss QF) S := by
  rw [xs_cons]
  congr 1
  funext r S'
  rw [kQ_eq]
theorem k_one {s : IS} : wq (exs gl cf (.cons s .nil) env) QF S = wq (ex gl cf s env) QF S := by
  rw [xs_cons]
  congr 1
  funext r S'
  obtain ⟨f, e⟩ := r
  cases f <;> simp only [xs_nil]
theorem k_nx {ss : ISs} : kQ gl cf ss QF (.nx, env) S = wq (exs gl cf ss env) QF S := by rw [kQ_eq]
theorem k_rt {ss : ISs} {d : D} : kQ gl cf ss QF (.rt d, env) S = QF (.rt d, env) S := by rw [kQ_eq]
theorem k_bk {ss : ISs} : kQ gl cf ss QF (.bk, env) S = QF (.bk, env) S := by rw [kQ_eq]
theorem k_ct {ss : ISs} : kQ gl cf ss QF (.ct, env) S = QF (.ct, env) S := by rw [kQ_eq]
end
end Dl
end

section
set_option Elab.async false
set_option linter.all false
set_option maxRecDepth 100000
/-! Dl: wq of the forms for dicts and sorting. -/
namespace Dl
open PySem PySem.Spec PyProof.Rows L2
/-- a row of ints as a key -/
abbrev kI (e : List Int) : List Key := e.map Sum.inl
section
variable {S : Store} {l : Nat} {b : Bool} {kvs : List (List Key × D)} {e : List Int} {d z : D} {Q : D → Store → Prop} {QB : Bool → Store → Prop} {QU : Unit → Store → Prop}
theorem w_getT {QT : Bool × List (List Key × D) → Store → Prop} (h : S[l]? = some (.dt b kvs)) : wq (getT (.ref l)) QT S = QT (b, kvs) S := by
  unfold getT
  dsimp only
  rw [wq_bind, wq_getO]
  exact propext ⟨fun ⟨o, e, k⟩ => by rw [h] at e; cases e; simpa only [wq_pure] using k, fun k => ⟨_, h, by simpa only [wq_pure] using k⟩⟩
theorem keyI_of (he : e ≠ []) : keyI (.tup (e.map .int)) = some (kI e) := by
  unfold keyI
  simp only [intsOf_map]
  cases e with
  | nil => exact absurd rfl he
  | cons _ _ => rfl
theorem w_toKey {QK : List Key → Store → Prop} (he : e ≠ []) : wq (toKey (.tup (e.map .int))) QK S = QK (kI e) S := by
  unfold toKey
  rw [keyI_of he]
  exact wq_pure _ _ _
theorem w_dget (h : S[l]? = some (.dt b kvs)) (he : e ≠ []) (hf : findT kvs (kI e) = some d) : wq (dgetD (.ref l) (.tup (e.map .int))) Q S = Q d S := by
  unfold dgetD
  rw [wq_bind, w_getT h, wq_bind, w_toKey he]
  dsimp only
  rw [hf]
  exact wq_pure _ _ _
theorem w_din (h : S[l]? = some (.dt b kvs)) (he : e ≠ []) : wq (dinD (.tup (e.map .int)) (.ref l)) QB S = QB (findT kvs (kI e)).isSome S := by
  unfold dinD
  rw [wq_bind, w_getT h, wq_bind, w_toKey he, wq_pure]
theorem w_isT (h : S[l]? = some (.dt b kvs)) : wq (isT (.ref l)) QU S = QU () S := by
  unfold isT
  rw [wq_bind, w_getT h, wq_pure]
theorem w_dget2 (h : S[l]? = some (.dt b kvs)) (he : e ≠ []) : wq (dget2D (.ref l) (.tup (e.map .int)) z) Q S = Q ((findT kvs (kI e)).getD z) S := by
  unfold dget2D
  rw [wq_bind, w_getT h, wq_bind, w_toKey he, wq_pure]
theorem w_dpop (h : S[l]? = some (.dt false kvs)) (he : e ≠ []) (hf : findT kvs (kI e) = some d) : wq (dpopD (.ref l) (.tup (e.map .int))) Q S = Q d (S.set l (.dt false (dropT kvs (kI e)))) := by
  have hl := lt_of_get h
  unfold dpopD
  dsimp only
  rw [wq_bind, wq_getO]
  refine propext ⟨fun ⟨o, e', k⟩ => ?_, fun k => ⟨_, h, ?_⟩⟩
  · rw [h] at e'
    cases e'
    dsimp only at k
    rw [wq_bind, w_toKey he, hf] at k
    dsimp only at k
    rw [wq_bind, wq_setO, wq_pure] at k
    exact k.2
  · dsimp only
    rw [wq_bind, w_toKey he, hf]
    dsimp only
    rw [wq_bind, wq_setO, wq_pure]
    exact ⟨hl, k⟩
theorem w_dput (h : S[l]? = some (.dt false kvs)) (he : e ≠ []) (hz : kvs.length < sizeLine) : wq (dputD (.ref l) (.tup (e.map .int)) z) QU S = QU () (S.set l (.dt false (putT kvs (kI e) z))) := by
  have hl := lt_of_get h
  unfold dputD
  dsimp only
  rw [wq_bind, wq_getO]
  refine propext ⟨fun ⟨o, e', k⟩ => ?_, fun k => ⟨_, h, ?_⟩⟩
  · rw [h] at e'
    cases e'
    dsimp only at k
    rw [wq_bind, w_toKey he, wq_bind, wq_need, wq_setO] at k
    exact k.2.2
  · dsimp only
    rw [wq_bind, w_toKey he, wq_bind, wq_need, wq_setO]
    exact ⟨decide_eq_true hz, hl, k⟩
theorem w_sortPD {ds : List D} {ps : List (List Int × List Int)} (h : S[l]? = some (.lst ds)) (hp : pairsI ds = some ps) : wq (sortPD (.ref l)) Q S = Q (.ref S.length) (S ++ [.lst (sortBy ds (ps.map encP))]) := by
  unfold sortPD
  rw [wq_bind, w_getL_ref h, hp]
  exact wq_newO _ _ _
end
section
variable {gl : Nat → D} {cf : Nat → List D → M D} {env : Sl} {S : Store} {Q : D → Store → Prop} {QB : Bool → Store → Prop} {QF : Fl × Sl → Store → Prop} {a b c o v xs e : IE}
theorem e_dnew : wq (ev gl cf .dnew env) Q S = Q (.ref S.length) (S ++ [.dt false []]) := by simp only [ev, wq_newO]
theorem e_dget : wq (ev gl cf (.dget a b) env) Q S = wq (ev gl cf a env) (fun x S' => wq (ev gl cf b env) (fun y S'' => wq (dgetD x y) Q S'') S') S := by simp only [ev, wq_bind]
theorem e_din : wq (ev gl cf (.din a b) env) Q S = wq (ev gl cf a env) (fun y S' => wq (ev gl cf b env) (fun x S'' => wq (dinD y x) (fun r => Q (.bl r)) S'') S') S := by simp only [ev, wq_bind, wq_pure]
theorem vt_din : wq (tst gl cf (.din a b) env) QB S = wq (ev gl cf a env) (fun y S' => wq (ev gl cf b env) (fun x S'' => wq (dinD y x) QB S'') S') S := by simp only [tst, wq_bind]
theorem e_dget2 : wq (ev gl cf (.dget2 a b c) env) Q S = wq (ev gl cf a env) (fun x S' => wq (isT x) (fun _ S2 => wq (ev gl cf b env) (fun y S3 => wq (ev gl cf c env) (fun z S4 => wq (dget2D x y z) Q S4) S3) S2) S') S := by simp only [ev, wq_bind]
theorem e_dpop : wq (ev gl cf (.dpop a b) env) Q S = wq (ev gl cf a env) (fun x S' => wq (isT x) (fun _ S2 => wq (ev gl cf b env) (fun y S3 => wq (dpopD x y) Q S3) S2) S') S := by simp only [ev, wq_bind]
theorem e_sortp : wq (ev gl cf (.sortp a) env) Q S = wq (ev gl cf a env) (fun x S' => wq (sortPD x) Q S') S := by simp only [ev, wq_bind]
theorem x_dput : wq (ex gl cf (.dput o a v) env) QF S = wq (ev gl cf v env) (fun z S' => wq (ev gl cf o env) (fun x S'' => wq (ev gl cf a env) (fun y S3 => wq (dputD x y z) (fun _ S4 => QF (.nx, env) S4) S3) S'') S') S := by simp only [ex, wq_bind, wq_pure]
/-- a comprehension over a dict's keys: it is locked meanwhile -/
theorem e_dcomp {i l : Nat} {t : TG} {own : List Nat} {cond : IC} {kvs : List (List Key × D)} (hi : env[i]? = some (some (.ref l))) (h : S[l]? = some (.dt false kvs))
    (k : wq (compL ⟨kvs.map fun kv => unkey kv.1, none, none⟩ (cB gl cf t cond e (wipeE env own)) (kvs.map fun kv => unkey kv.1) []) (fun r S' => S'[l]? = some (.dt true kvs) ∧ Q (.ref S'.length) (S'.set l (.dt false kvs) ++ [.lst r])) (S.set l (.dt true kvs))) :
    wq (ev gl cf (.dcomp i t own cond e) env) Q S := by
  simp only [ev, hi]
  rw [wq_bind, wq_getO]
  refine ⟨_, h, ?_⟩
  dsimp only
  rw [wq_bind, wq_setO]
  refine ⟨lt_of_get h, ?_⟩
  rw [wq_bind]
  refine wq_mono k fun r S' ⟨k1, k2⟩ => ?_
  rw [wq_bind, wq_getO]
  refine ⟨_, k1, ?_⟩
  dsimp only
  rw [wq_bind, wq_setO, wq_newO]
  refine ⟨lt_of_get k1, ?_⟩
  rw [List.length_set]
  exact k2
theorem keysL_wq {g : D → M D} {α : Type} {f : α → D} {key : α → List Int} {R : List (List Int) → Store → Prop} : ∀ {xs : List α} {S : Store}, (∀ x ∈ xs, ∀ S', Fr [] S S' → wq (g (f x)) (fun d S'' => d = .tup ((key x).map .int) ∧ key x ≠ [] ∧ Fr [] S' S'') S') →
    (∀ S', Fr [] S S' → R (xs.map key) S') → wq (keysL g (xs.map f)) R S
  | [], S, _, k => by
    simp only [List.map_nil, keysL]
    rw [wq_pure]
    exact k S .refl
  | x :: xs, S, h, k => by
    simp only [List.map_cons, keysL]
    rw [wq_bind]
    refine wq_mono (h x (by simp) S .refl) fun d S' ⟨h1, h2, h3⟩ => ?_
    have hk : keyOfD d = some (key x) := by
      rw [h1]
      unfold keyOfD
      simp only [intsOf_map]
      cases e : key x with
      | nil => exact absurd e h2
      | cons _ _ => rfl
    rw [hk]
    dsimp only
    rw [wq_bind]
    refine keysL_wq (key := key) (fun y hy S2 a => h y (by simp [hy]) S2 (h3.trans a)) fun S2 a => ?_
    rw [wq_pure]
    exact k S2 (h3.trans a)
theorem x_rsort {α : Type} {f : α → D} {key : α → List Int} {l i : Nat} {r : D} {ys : List α} {Sx : Store} (hx : wq (ev gl cf xs env) (fun x S' => x = .ref l ∧ S' = Sx) S) (hl : Sx[l]? = some (.lst (ys.map f))) (hi : env[i]? = some (some r))
    (h : ∀ x ∈ ys, ∀ S', Fr [] Sx S' → wq (ev gl cf e [some (f x), some r]) (fun d S'' => d = .tup ((key x).map .int) ∧ key x ≠ [] ∧ Fr [] S' S'') S')
    (k : ∀ S', Fr [] Sx S' → QF (.rt (.ref S'.length), env) (S' ++ [.lst (sortBy (ys.map f) (ys.map fun y => encI (key y)))])) : wq (ex gl cf (.rsort i xs e) env) QF S := by
  simp only [ex]
  rw [wq_bind]
  refine wq_mono hx fun x S' ⟨h1, h2⟩ => ?_
  subst h1 h2
  rw [wq_bind, w_getL_ref hl]
  simp only [hi]
  rw [wq_bind]
  refine keysL_wq (key := key) h fun S2 a => ?_
  rw [wq_bind, wq_newO, wq_pure]
  have := k S2 a
  rw [List.map_map]
  exact this
end
end Dl
end

section
set_option Elab.async false
set_option linter.all false
set_option maxRecDepth 100000
/-! Dl: wq of the forms for instances and texts. -/
namespace Dl
open PySem PySem.Spec PyProof.Rows L2
/-- a text by its code points -/
def tS (cs : List Nat) : Str := ⟨cs.toArray⟩
theorem tS_cps (cs : List Nat) : (tS cs).cps.toList = cs := by unfold tS; simp
theorem tS_len (cs : List Nat) : (tS cs).length = cs.length := by unfold tS Str.length; simp
theorem tS_app (a b : List Nat) : tS a ++ tS b = tS (a ++ b) := by
  show (⟨a.toArray ++ b.toArray⟩ : Str) = ⟨(a ++ b).toArray⟩
  simp
theorem tS_inj {a b : List Nat} (h : tS a = tS b) : a = b := by
  have := congrArg (fun x : Str => x.cps.toList) h
  simpa only [tS_cps] using this
theorem tS_eq {a b : List Nat} : (tS a = tS b) = (a = b) := propext ⟨tS_inj, congrArg tS⟩
theorem tS_of (x : Str) : x = tS x.cps.toList := by cases x; unfold tS; simp
theorem tS_one (c : Nat) : (⟨#[c]⟩ : Str) = tS [c] := rfl
theorem tS_ok {cs : List Nat} (h : ∀ c ∈ cs, c < 1000000) : PyData.canLay0 (.str (tS cs)) = true := by
  show (tS cs).cps.all (· < 0x110000) = true
  unfold tS
  rw [List.all_toArray, List.all_eq_true]
  exact fun c hc => decide_eq_true (by have := h c hc; omega)
/-- joined -/
def jn (z : List Nat) : List (List Nat) → List Nat
  | [] => []
  | [x] => x
  | x :: y :: r => x ++ (z ++ jn z (y :: r))
theorem tS_join (z : List Nat) : ∀ ys : List (List Nat), Txt.join (tS z) (ys.map tS) = tS (jn z ys) := fun ys => by
  unfold Txt.join
  rw [StrLaws.glued_eq_join]
  induction ys with
  | nil => rfl
  | cons x r ih =>
    cases r with
    | nil => rfl
    | cons y r =>
      rw [List.map_cons, List.map_cons]
      show tS x ++ tS z ++ Str.join (tS z) (tS y :: r.map tS) = _
      rw [List.map_cons] at ih
      rw [ih, tS_app, tS_app, List.append_assoc]
      rfl
theorem tS_rep (cs : List Nat) (n : Nat) : repS (tS cs) n = tS (List.replicate n cs).flatten := by unfold repS; rw [tS_cps]; rfl
theorem tS_cut (cs : List Nat) (lo hi : Option Int) : cutS (tS cs) lo hi = tS ((cs.drop (HT.sIx cs.length 0 lo)).take (HT.sIx cs.length cs.length hi - HT.sIx cs.length 0 lo)) := by
  unfold cutS
  rw [tS_cps, tS_len]
  rfl
section
variable {gl : Nat → D} {cf : Nat → List D → M D} {env : Sl} {S : Store} {Q : D → Store → Prop} {QB : Bool → Store → Prop} {QL : List D → Store → Prop} {QU : Unit → Store → Prop} {QS : Src → Store → Prop} {QF : Fl × Sl → Store → Prop} {QT : Str → Store → Prop} {l : Nat} {C : Str} {fs : List (Str × D)}
/-! ### forms -/
theorem e_fld {f : Str} {a : IE} : wq (ev gl cf (.fld C f a) env) Q S = wq (ev gl cf a env) (fun x S' => wq (fldD C f x) Q S') S := by simp only [ev, wq_bind]
theorem e_new {fi : Nat} {es : IEs} : wq (ev gl cf (.new C fi es) env) Q S = wq (evs gl cf es env) (fun ds S' => wq (cf fi (.ref S'.length :: ds)) (fun d S'' => d = .non ∧ Q (.ref S'.length) S'') (S' ++ [.obj C []])) S := by
  simp only [ev, wq_bind, wq_newO, wq_need, wq_pure, decide_eq_true_eq]
theorem e_mcall {m : Str} {fi : Nat} {o : IE} {es : IEs} : wq (ev gl cf (.mcall C m fi o es) env) Q S = wq (ev gl cf o env) (fun x S' => wq (isO C m x) (fun _ S'' => wq (evs gl cf es env) (fun ds S3 => wq (cf fi (x :: ds)) Q S3) S'') S') S := by simp only [ev, wq_bind]
theorem vt_mcall {m : Str} {fi : Nat} {o : IE} {es : IEs} : wq (tst gl cf (.mcall C m fi o es) env) QB S = wq (ev gl cf o env) (fun x S' => wq (isO C m x) (fun _ S'' => wq (evs gl cf es env) (fun ds S3 => wq (cf fi (x :: ds)) (fun d S4 => wq (truth d) QB S4) S3) S'') S') S := by simp only [tst, wq_bind]
theorem e_m1 {k : Sm} {a b : IE} : wq (ev gl cf (.m1 k a b) env) Q S = wq (ev gl cf a env) (fun x S' => wq (smOk k x) (fun _ S'' => wq (ev gl cf b env) (fun y S3 => wq (smRun k x y) Q S3) S'') S') S := by simp only [ev, wq_bind]
theorem e_fst {es : IEs} : wq (ev gl cf (.fst es) env) Q S = wq (evf gl cf es (tS []) env) (fun x S' => Q (.str x) S') S := by simp only [ev, wq_bind, wq_pure]; rfl
theorem f_nil {acc : Str} : wq (evf gl cf .nil acc env) QT S = QT acc S := by simp only [evf, wq_pure]
theorem f_cons {e : IE} {es : IEs} {acc : Str} : wq (evf gl cf (.cons e es) acc env) QT S = wq (ev gl cf e env) (fun d S' => wq (fmtD d) (fun y S'' => lens (acc ++ y).length = true ∧ wq (evf gl cf es (acc ++ y) env) QT S'') S') S := by simp only [evf, wq_bind, wq_need]
theorem e_fnv {x : Str} : wq (ev gl cf (.fnv x) env) Q S = Q (.fn x) S := by simp only [ev, wq_pure]
theorem e_callv {i : Nat} {t : List (Str × Nat)} {es : IEs} : wq (ev gl cf (.callv i t es) env) Q S = match env[i]? with | some (some (.fn x)) => (match t.lookup x with | some f => wq (evs gl cf es env) (fun ds S' => wq (cf f ds) Q S') S | none => False) | _ => False := by
  simp only [ev]
  cases env[i]? with
  | none => exact wq_l rfl
  | some o =>
    cases o with
    | none => exact wq_l rfl
    | some d =>
      cases d <;> first | exact wq_l rfl | skip
      rename_i x
      dsimp only
      cases t.lookup x with
      | none => exact wq_l rfl
      | some f => simp only [wq_bind]
theorem vi_rngd {a b : IE} : wq (evi gl cf (.rngd a b) env) QS S = wq (ev gl cf a env) (fun x S' => wq (ev gl cf b env) (fun y S'' => wq (rngdSrc x y) QS S'') S') S := by simp only [evi, wq_bind]
theorem x_setf {f : Str} {o e : IE} : wq (ex gl cf (.setf C f o e) env) QF S = wq (ev gl cf e env) (fun y S' => wq (ev gl cf o env) (fun x S'' => wq (setfD C f x y) (fun _ S3 => QF (.nx, env) S3) S'') S') S := by simp only [ex, wq_bind, wq_pure]
theorem x_augf {f : Str} {o e : IE} {op : Operator} : wq (ex gl cf (.augf C f o op e) env) QF S = wq (ev gl cf o env) (fun x S' => wq (fldD C f x) (fun v S'' => wq (ev gl cf e env) (fun y S3 => augOk op v y = true ∧ wq (bop op v y) (fun z S4 => wq (setfD C f x z) (fun _ S5 => QF (.nx, env) S5) S4) S3) S'') S') S := by simp only [ex, wq_bind, wq_pure, wq_need]
theorem x_rse : wq (ex gl cf .rse env) QF S = False := by simp only [ex]; exact wq_fail _ _
/-! ### leaves: instances -/
theorem w_getA {QA : List (Str × D) → Store → Prop} (h : S[l]? = some (.obj C fs)) : wq (getA C (.ref l)) QA S = QA fs S := by
  unfold getA
  dsimp only
  rw [wq_bind, wq_getO]
  refine propext ⟨fun ⟨o, e, k⟩ => ?_, fun k => ⟨_, h, ?_⟩⟩
  · rw [h] at e
    cases e
    simpa only [wq_bind, wq_need, wq_pure, decide_eq_true_eq, true_and] using k
  · simpa only [wq_bind, wq_need, wq_pure, decide_eq_true_eq, true_and] using k
theorem w_fld {f : Str} {v : D} (h : S[l]? = some (.obj C fs)) (hf : fs.lookup f = some v) : wq (fldD C f (.ref l)) Q S = Q v S := by
  unfold fldD
  rw [wq_bind, w_getA h, hf]
  exact wq_pure _ _ _
theorem w_isO {m : Str} (h : S[l]? = some (.obj C fs)) (hf : fs.lookup m = none) : wq (isO C m (.ref l)) QU S = QU () S := by
  unfold isO
  rw [wq_bind, w_getA h, wq_need, hf]
  simp
theorem w_setf {f : Str} {v : D} (h : S[l]? = some (.obj C fs)) (hn : fs.length < 1000) : wq (setfD C f (.ref l) v) QU S = QU () (S.set l (.obj C (putA f v fs))) := by
  unfold setfD
  dsimp only
  rw [wq_bind, wq_getO]
  refine propext ⟨fun ⟨o, e, k⟩ => ?_, fun k => ⟨_, h, ?_⟩⟩
  · rw [h] at e
    cases e
    simp only [wq_bind, wq_need, wq_setO, hn, decide_true, Bool.and_self, true_and] at k
    exact k.2
  · simp only [wq_bind, wq_need, wq_setO, hn, decide_true, Bool.and_self, true_and]
    exact ⟨lt_of_get h, k⟩
/-! ### leaves: texts -/
variable {a b z : List Nat} {i j : Int}
theorem w_addS {x y : Str} : wq (bop .Add (.str x) (.str y)) Q S = (lens (x.length + y.length) = true ∧ Q (.str (x ++ y)) S) := by
  unfold bop
  dsimp only
  rw [wq_bind, wq_need, wq_pure]
theorem w_mulS {x : Str} {k : Int} : wq (bop .Mult (.str x) (.int k)) Q S = ((decide (0 ≤ k) && decide (k ≤ 1000) && decide (x.length ≤ 1000)) = true ∧ Q (.str (repS x k.toNat)) S) := by
  unfold bop
  dsimp only
  rw [wq_bind, wq_need, wq_pure]
theorem w_lenS {x : Str} : wq (biRun .len [.str x]) Q S = (lens x.length = true ∧ Q (.int x.length) S) := by
  unfold biRun
  dsimp only
  rw [wq_bind, wq_need, wq_pure]
theorem w_strI : wq (biRun .str [.int i]) Q S = (decide (i.natAbs.log2 < 1920) = true ∧ Q (.str (Str.ofString (toString i))) S) := by
  unfold biRun
  dsimp only
  rw [wq_bind, wq_need, wq_pure]
theorem w_strS {x : Str} : wq (biRun .str [.str x]) Q S = Q (.str x) S := wq_l rfl
theorem w_intS {x : Str} {n : Int} (h : intText? x = some n) : wq (biRun .int [.str x]) Q S = (decide (x.length ≤ 640) = true ∧ Q (.int n) S) := by
  unfold biRun
  dsimp only
  rw [h]
  dsimp only
  rw [wq_bind, wq_need, wq_pure]
theorem w_ixS {c : Nat} (h : atI a i = some c) (hl : a.length ≤ 1000000) : wq (ixD (.str (tS a)) (.int i)) Q S = Q (.str (tS [c])) S := by
  unfold ixD
  dsimp only
  rw [wq_bind, wq_need, tS_cps, h, tS_len]
  dsimp only
  rw [wq_pure]
  exact propext ⟨fun k => k.2, fun k => ⟨lens_of hl, k⟩⟩
theorem w_slS {lo hi : Option Int} : wq (slD (.str (tS a)) lo hi) Q S = (lens a.length = true ∧ Q (.str (tS ((a.drop (HT.sIx a.length 0 lo)).take (HT.sIx a.length a.length hi - HT.sIx a.length 0 lo)))) S) := by
  unfold slD
  dsimp only
  rw [wq_bind, wq_need, wq_pure, tS_cut, tS_len]
theorem w_inC {c : Nat} : wq (cop .In (.str (tS [c])) (.str (tS z))) QB S = QB (decide (c ∈ z)) S := by
  have := w_inS (c := c) (z := tS z) (QB := QB) (S := S)
  rw [tS_cps] at this
  exact this
theorem w_ninC {c : Nat} : wq (cop .NotIn (.str (tS [c])) (.str (tS z))) QB S = QB (!decide (c ∈ z)) S := by
  have := w_ninS (c := c) (z := tS z) (QB := QB) (S := S)
  rw [tS_cps] at this
  exact this
theorem w_trS {x : Str} : wq (truth (.str x)) QB S = (lens x.length = true ∧ QB ((x.length : Int) != 0) S) := by
  unfold truth
  dsimp only
  rw [wq_bind, wq_need, wq_pure]
theorem strsOf_map : ∀ xs : List Str, strsOf (xs.map .str) = some xs
  | [] => rfl
  | x :: xs => by simp only [List.map_cons, strsOf, strsOf_map xs, Option.map_some]
theorem w_okJ {x : Str} : wq (smOk .join (.str x)) QU S = QU () S := wq_l rfl
theorem w_okP {x : Str} : wq (smOk .split (.str x)) QU S = QU () S := wq_l rfl
theorem w_okC {x : Str} : wq (smOk .count (.str x)) QU S = QU () S := wq_l rfl
theorem w_okI {ds : List D} : wq (smOk .tindex (.tup ds)) QU S = (isX ds = true ∧ QU () S) := by
  unfold smOk
  rw [wq_need]
theorem w_joinL {ys : List (List Nat)} (h : S[l]? = some (.lst ((ys.map tS).map .str))) : wq (smRun .join (.str (tS z)) (.ref l)) Q S = ((ys.map (·.length)).sum + ys.length * z.length ≤ 16777216 ∧ Q (.str (tS (jn z ys))) S) := by
  show wq (getS (.ref l) >>= fun ds => match strsOf ds with | some ys => (do need (decide ((ys.map (·.length)).sum + ys.length * (tS z).length ≤ 16777216)); pure (D.str (Txt.join (tS z) ys))) | none => fail) Q S = _
  rw [wq_bind, w_getS_ref h, strsOf_map]
  dsimp only
  rw [wq_bind, wq_need, wq_pure, tS_join, tS_len, decide_eq_true_eq]
  have e : (ys.map tS).map (·.length) = ys.map (·.length) := by rw [List.map_map]; exact List.map_congr_left fun x _ => tS_len x
  rw [e, List.length_map]
theorem w_rngd {QS : Src → Store → Prop} : wq (rngdSrc (.int i) (.int j)) QS S = ((small62 i && small62 j) = true ∧ QS ⟨rngdItems i j, none, none⟩ S) := by
  unfold rngdSrc
  dsimp only
  rw [wq_bind, wq_need, wq_pure]
theorem w_fmtS {x : Str} : wq (fmtD (.str x)) QT S = (lens x.length = true ∧ QT x S) := by
  unfold fmtD
  dsimp only
  rw [wq_bind, wq_need, wq_pure]
theorem w_fmtI : wq (fmtD (.int i)) QT S = (decide (i.natAbs.log2 < 1920) = true ∧ QT (Str.ofString (toString i)) S) := by
  unfold fmtD
  dsimp only
  rw [wq_bind, wq_need, wq_pure]
end
end Dl
end

section
set_option Elab.async false
set_option linter.all false
set_option maxRecDepth 100000
/-! Dl: tokens of texts, in plain Lean. -/
namespace Dl
open PySem PySem.Spec PyProof.Rows L2
open PySem.NumText (digitsVal AllDigits)
/-! ### numbers as texts -/
/-- the digits of a number -/
def dg (n : Nat) : List Nat := (Nat.toDigits 10 n).map Char.toNat
theorem digitChar_toNat : ∀ d : Nat, d < 10 → (Nat.digitChar d).toNat = 48 + d := by decide
theorem dg_lt {n : Nat} (h : n < 10) : dg n = [48 + n] := by
  unfold dg
  rw [Nat.toDigits_of_lt_base h]
  simp [digitChar_toNat n h]
theorem dg_ge {n : Nat} (h : 10 ≤ n) : dg n = dg (n / 10) ++ [48 + n % 10] := by
  unfold dg
  rw [Nat.toDigits_of_base_le (by decide) h, List.map_append]
  simp [digitChar_toNat (n % 10) (Nat.mod_lt _ (by decide))]
theorem dg_ne (n : Nat) : dg n ≠ [] := by
  by_cases h : n < 10
  · rw [dg_lt h]; simp
  · rw [dg_ge (by omega)]; simp
theorem dg_all (n : Nat) : AllDigits (dg n) := by
  induction n using Nat.strongRecOn with
  | _ n ih =>
    by_cases h : n < 10
    · rw [dg_lt h]
      intro c hc
      rw [List.mem_singleton] at hc
      omega
    · rw [dg_ge (by omega)]
      intro c hc
      rcases List.mem_append.mp hc with hc | hc
      · exact ih (n / 10) (by omega) c hc
      · rw [List.mem_singleton] at hc
        omega
theorem dg_val (n : Nat) : digitsVal (dg n) = n := by
  induction n using Nat.strongRecOn with
  | _ n ih =>
    by_cases h : n < 10
    · rw [dg_lt h]
      show 0 * 10 + (48 + n - 48) = n
      omega
    · rw [dg_ge (by omega), NumText.digitsVal_snoc, ih (n / 10) (by omega)]
      omega
theorem dg_len {n k : Nat} (hk : 0 < k) (h : n < 10 ^ k) : (dg n).length ≤ k := by
  induction k generalizing n with
  | zero => omega
  | succ k ih =>
    by_cases hn : n < 10
    · rw [dg_lt hn]; simp
    · rw [dg_ge (by omega), List.length_append, List.length_singleton]
      have hk : 0 < k := by
        rcases Nat.eq_zero_or_pos k with rfl | h0
        · simp at h; omega
        · exact h0
      have := ih hk (n := n / 10) (by rw [Nat.pow_succ] at h; omega)
      omega
/-- no 0 ahead, but for 0 itself -/
theorem dg_head (n : Nat) : n = 0 ∨ ∃ c r, dg n = c :: r ∧ 49 ≤ c := by
  induction n using Nat.strongRecOn with
  | _ n ih =>
    by_cases h : n < 10
    · rw [dg_lt h]
      by_cases h0 : n = 0
      · exact .inl h0
      · exact .inr ⟨48 + n, [], rfl, by omega⟩
    · rcases ih (n / 10) (by omega) with h0 | ⟨c, r, e, hc⟩
      · omega
      · exact .inr ⟨c, r ++ [48 + n % 10], by rw [dg_ge (by omega), e]; rfl, hc⟩
theorem dg_of {cs : List Nat} (h : AllDigits cs) (hh : cs.length = 1 ∨ ∃ c r, cs = c :: r ∧ 49 ≤ c) : dg (digitsVal cs) = cs := by
  have hne : cs ≠ [] := by
    rcases hh with h | ⟨c, r, e, _⟩
    · intro e; rw [e] at h; simp at h
    · rw [e]; simp
  obtain ⟨n, hn⟩ : ∃ n, cs.length = n + 1 := ⟨cs.length - 1, by have := List.length_pos_iff.mpr hne; omega⟩
  have := NumText.toDigits_digitsVal n cs hn h (by
    rcases hh with h | h
    · exact .inl (by omega)
    · exact .inr h)
  unfold dg
  rw [this, List.map_map]
  have key : ∀ l : List Nat, AllDigits l → l.map (Char.toNat ∘ Char.ofNat) = l := fun l => by
    induction l with
    | nil => intro _; rfl
    | cons c l ih =>
      intro hl
      have hc := hl c List.mem_cons_self
      rw [List.map_cons, ih (fun d hd => hl d (List.mem_cons_of_mem _ hd))]
      have : ∀ c : Nat, 48 ≤ c → c ≤ 57 → (Char.ofNat c).toNat = c := by
        intro c h1 h2
        have : ∀ k : Nat, k < 10 → (Char.ofNat (48 + k)).toNat = 48 + k := by decide
        have := this (c - 48) (by omega)
        rw [show 48 + (c - 48) = c by omega] at this
        exact this
      rw [Function.comp_apply, this c hc.1 hc.2]
  exact key cs h
theorem val_lt {cs : List Nat} {k : Nat} (h : AllDigits cs) (hh : cs.length = 1 ∨ ∃ c r, cs = c :: r ∧ 49 ≤ c) (hk : 0 < k) (hv : digitsVal cs < 10 ^ k) : cs.length ≤ k := by
  rw [← dg_of h hh]
  exact dg_len hk hv
/-- str(n) -/
def dgI (i : Int) : List Nat := if i < 0 then 45 :: dg i.natAbs else dg i.natAbs
theorem str_dgI (i : Int) : Str.ofString (toString i) = tS (dgI i) := by
  cases i with
  | ofNat m =>
    rw [text_ofNat]
    unfold dgI
    rw [if_neg (by simp)]
    rfl
  | negSucc m =>
    have : toString (Int.negSucc m) = "-" ++ Nat.repr (m + 1) := rfl
    rw [this, Str.ofString_eq_toList]
    unfold dgI
    rw [if_pos (Int.negSucc_lt_zero m)]
    simp only [String.toList_append, List.map_append]
    have e : (Nat.repr (m + 1)).toList = Nat.toDigits 10 (m + 1) := by unfold Nat.repr; simp
    rw [e]
    rfl
theorem int_dg {n : Nat} (h : (dg n).length ≤ 4300) : intText? (tS (dg n)) = some (n : Int) := by
  have := PySem.intText_digits (x := tS (dg n)) (by rw [tS_cps]; exact dg_all n) (by rw [tS_cps]; exact dg_ne n) (by rw [tS_len]; exact h)
  rw [tS_cps, dg_val] at this
  exact this
/-! ### signs -/
def sgs : List Nat := [43, 45, 42, 47, 94, 40, 41, 59, 44, 58]
def lts : List Nat := [97, 98, 99, 100, 101, 102, 103, 104, 105, 106, 107, 108, 109, 110, 111, 112, 113, 114, 115, 116, 117, 118, 119, 120, 121, 122]
def dgs : List Nat := [48, 49, 50, 51, 52, 53, 54, 55, 56, 57]
theorem lit_sgs : ("+-*/^();,:" : Str) = tS sgs := by decide +kernel
theorem lit_lts : ("abcdefghijklmnopqrstuvwxyz" : Str) = tS lts := by decide +kernel
theorem lit_dgs : ("0123456789" : Str) = tS dgs := by decide +kernel
def isS (c : Nat) : Bool := decide (c ∈ sgs)
def isA (c : Nat) : Bool := decide (c ∈ lts)
def isD (c : Nat) : Bool := decide (c ∈ dgs)
theorem isD_iff {c : Nat} : isD c = true ↔ 48 ≤ c ∧ c ≤ 57 := by
  unfold isD dgs
  simp only [List.mem_cons, List.not_mem_nil, or_false, decide_eq_true_eq]
  omega
theorem isA_iff {c : Nat} : isA c = true ↔ 97 ≤ c ∧ c ≤ 122 := by
  unfold isA lts
  simp only [List.mem_cons, List.not_mem_nil, or_false, decide_eq_true_eq]
  omega
theorem isS_iff {c : Nat} : isS c = true ↔ c ∈ sgs := by unfold isS; rw [decide_eq_true_eq]
theorem isS_not {c : Nat} (h : isS c = true) : isA c = false ∧ isD c = false ∧ c ≠ 32 := by
  have : ∀ c ∈ sgs, isA c = false ∧ isD c = false ∧ c ≠ 32 := by decide
  exact this c (isS_iff.mp h)
theorem isA_not {c : Nat} (h : isA c = true) : isS c = false ∧ isD c = false ∧ c ≠ 32 := by
  have : ∀ c ∈ lts, isS c = false ∧ isD c = false ∧ c ≠ 32 := by decide
  exact this c (by unfold isA at h; exact of_decide_eq_true h)
theorem isD_not {c : Nat} (h : isD c = true) : isS c = false ∧ isA c = false ∧ c ≠ 32 := by
  have : ∀ c ∈ dgs, isS c = false ∧ isA c = false ∧ c ≠ 32 := by decide
  exact this c (by unfold isD at h; exact of_decide_eq_true h)
/-! ### tokens -/
inductive Tk where
  | sg (c : Nat) | wd (x : List Nat) | nm (n : Nat) | en | bd
  deriving DecidableEq, Inhabited
def isSp (c : Nat) : Bool := c == 32
def sk (l : List Nat) : List Nat := l.dropWhile isSp
def sn (l : List Nat) : Nat := (l.takeWhile isSp).length
theorem sk_drop (l : List Nat) : sk l = l.drop (sn l) := by
  unfold sk sn
  induction l with
  | nil => rfl
  | cons c l ih =>
    rw [List.dropWhile_cons, List.takeWhile_cons]
    cases isSp c with
    | true => simpa using ih
    | false => rfl
theorem dw_drop (p : Nat → Bool) (l : List Nat) : l.dropWhile p = l.drop (l.takeWhile p).length := by
  induction l with
  | nil => rfl
  | cons c l ih =>
    rw [List.dropWhile_cons, List.takeWhile_cons]
    cases p c with
    | true => simpa using ih
    | false => rfl
/-- the tokens of what is left, which begins at an index with no space -/
def lexF : Nat → List Nat → Nat → List (Nat × Tk)
  | 0, _, i => [(i, .bd)]
  | _ + 1, [], i => [(i, .en)]
  | n + 1, c :: r, i =>
    if isS c = true then (i, .sg c) :: lexF n (sk r) (i + 1 + sn r)
    else if isA c = true then (i, .wd (c :: r.takeWhile isA)) :: lexF n (sk (r.dropWhile isA)) (i + 1 + (r.takeWhile isA).length + sn (r.dropWhile isA))
    else if isD c = true then (if c = 48 ∧ r.takeWhile isD ≠ [] then [(i, .bd)] else (i, .nm (digitsVal (c :: r.takeWhile isD))) :: lexF n (sk (r.dropWhile isD)) (i + 1 + (r.takeWhile isD).length + sn (r.dropWhile isD)))
    else [(i, .bd)]
theorem sk_le (l : List Nat) : (sk l).length ≤ l.length := by unfold sk; exact (List.dropWhile_sublist _).length_le
theorem dw_le (p : Nat → Bool) (l : List Nat) : (l.dropWhile p).length ≤ l.length := (List.dropWhile_sublist _).length_le
/-- enough is enough -/
theorem lexF_more : ∀ (n m : Nat) (l : List Nat) (i : Nat), l.length < n → l.length < m → lexF n l i = lexF m l i
  | 0, _, _, _, h, _ => absurd h (Nat.not_lt_zero _)
  | _, 0, _, _, _, h => absurd h (Nat.not_lt_zero _)
  | n + 1, m + 1, [], i, _, _ => rfl
  | n + 1, m + 1, c :: r, i, h1, h2 => by
    simp only [List.length_cons] at h1 h2
    unfold lexF
    have a1 := sk_le r
    have a2 := sk_le (r.dropWhile isA)
    have a3 := dw_le isA r
    have a4 := sk_le (r.dropWhile isD)
    have a5 := dw_le isD r
    rw [lexF_more n m (sk r) _ (by omega) (by omega), lexF_more n m (sk (r.dropWhile isA)) _ (by omega) (by omega), lexF_more n m (sk (r.dropWhile isD)) _ (by omega) (by omega)]
/-- the tokens of a text from an index on -/
def lexI (l : List Nat) (i : Nat) : List (Nat × Tk) := lexF (l.length + 1) (sk l) (i + sn l)
def lexA (l : List Nat) : List (Nat × Tk) := lexI l 0
theorem lexF_I (n : Nat) (l : List Nat) (i : Nat) (h : l.length < n) : lexF n (sk l) (i + sn l) = lexI l i := lexF_more _ _ _ _ (by have := sk_le l; omega) (by have := sk_le l; omega)
theorem lexI_nil (i : Nat) : lexI [] i = [(i, .en)] := rfl
theorem lexI_sp (r : List Nat) (i : Nat) : lexI (32 :: r) i = lexI r (i + 1) := by
  have e1 : sk (32 :: r) = sk r := rfl
  have e2 : sn (32 :: r) = sn r + 1 := rfl
  unfold lexI
  rw [e1, e2, show i + (sn r + 1) = i + 1 + sn r by omega]
  exact lexF_more _ _ _ _ (by have := sk_le r; simp; omega) (by have := sk_le r; omega)
theorem sk_self {c : Nat} {r : List Nat} (h : c ≠ 32) : sk (c :: r) = c :: r ∧ sn (c :: r) = 0 := by
  have : isSp c = false := by unfold isSp; simpa using h
  unfold sk sn
  rw [List.dropWhile_cons, List.takeWhile_cons, this]
  exact ⟨rfl, rfl⟩
theorem lexI_sg {c : Nat} (h : isS c = true) (r : List Nat) (i : Nat) : lexI (c :: r) i = (i, .sg c) :: lexI r (i + 1) := by
  obtain ⟨e1, e2⟩ := sk_self (r := r) (isS_not h).2.2
  unfold lexI
  rw [e1, e2, Nat.add_zero]
  rw [List.length_cons]
  conv => lhs; unfold lexF
  rw [if_pos h]
  congr 1
theorem lexI_wd {c : Nat} (h : isA c = true) (r : List Nat) (i : Nat) : lexI (c :: r) i = (i, .wd (c :: r.takeWhile isA)) :: lexI (r.dropWhile isA) (i + 1 + (r.takeWhile isA).length) := by
  obtain ⟨e1, e2⟩ := sk_self (r := r) (isA_not h).2.2
  have a3 := dw_le isA r
  unfold lexI
  rw [e1, e2, Nat.add_zero]
  rw [List.length_cons]
  conv => lhs; unfold lexF
  rw [if_neg (by rw [(isA_not h).1]; exact Bool.false_ne_true), if_pos h]
  congr 1
  exact lexF_more _ _ _ _ (by have := sk_le (r.dropWhile isA); omega) (by have := sk_le (r.dropWhile isA); omega)
theorem lexI_nm {c : Nat} (h : isD c = true) (r : List Nat) (i : Nat) (h0 : ¬ (c = 48 ∧ r.takeWhile isD ≠ [])) : lexI (c :: r) i = (i, .nm (digitsVal (c :: r.takeWhile isD))) :: lexI (r.dropWhile isD) (i + 1 + (r.takeWhile isD).length) := by
  obtain ⟨e1, e2⟩ := sk_self (r := r) (isD_not h).2.2
  have a3 := dw_le isD r
  unfold lexI
  rw [e1, e2, Nat.add_zero]
  rw [List.length_cons]
  conv => lhs; unfold lexF
  rw [if_neg (by rw [(isD_not h).1]; exact Bool.false_ne_true), if_neg (by rw [(isD_not h).2.1]; exact Bool.false_ne_true), if_pos h, if_neg h0]
  congr 1
  exact lexF_more _ _ _ _ (by have := sk_le (r.dropWhile isD); omega) (by have := sk_le (r.dropWhile isD); omega)
theorem lexI_b0 {r : List Nat} (i : Nat) (h0 : r.takeWhile isD ≠ []) : lexI (48 :: r) i = [(i, .bd)] := by
  obtain ⟨e1, e2⟩ := sk_self (c := 48) (r := r) (by decide)
  unfold lexI
  rw [e1, e2, Nat.add_zero, List.length_cons]
  conv => lhs; unfold lexF
  rw [if_neg (by decide), if_neg (by decide), if_pos (by decide), if_pos ⟨rfl, h0⟩]
  rfl
theorem lexI_bd {c : Nat} {r : List Nat} (i : Nat) (h : c ≠ 32) (h1 : isS c = false) (h2 : isA c = false) (h3 : isD c = false) : lexI (c :: r) i = [(i, .bd)] := by
  obtain ⟨e1, e2⟩ := sk_self (r := r) h
  unfold lexI
  rw [e1, e2, Nat.add_zero, List.length_cons]
  conv => lhs; unfold lexF
  rw [h1, h2, h3]
  rfl
/-! ### texts of tokens -/
def tx : Tk → List Nat
  | .sg c => [c]
  | .wd x => x
  | .nm n => dg n
  | _ => []
/-- a token of a text -/
def tkOk : Tk → Prop
  | .sg c => isS c = true
  | .wd x => x ≠ [] ∧ ∀ c ∈ x, isA c = true
  | .nm _ => True
  | _ => False
theorem tx_ne {t : Tk} (h : tkOk t) : tx t ≠ [] := by
  cases t with
  | sg c => simp [tx]
  | wd x => exact h.1
  | nm n => exact dg_ne n
  | en => exact h.elim
  | bd => exact h.elim
/-- what may stand behind a token with no space between -/
def apart (t : Tk) (l : List Nat) : Prop := match t with
  | .wd _ => ∀ c r, l = c :: r → isA c = false
  | .nm _ => ∀ c r, l = c :: r → isD c = false
  | _ => True
theorem tw_app {p : Nat → Bool} {a l : List Nat} (h : ∀ c ∈ a, p c = true) (hl : ∀ c r, l = c :: r → p c = false) : (a ++ l).takeWhile p = a ∧ (a ++ l).dropWhile p = l := by
  induction a with
  | nil =>
    cases l with
    | nil => exact ⟨rfl, rfl⟩
    | cons c r =>
      have := hl c r rfl
      rw [List.nil_append, List.takeWhile_cons, List.dropWhile_cons, this]
      exact ⟨rfl, rfl⟩
  | cons c a ih =>
    have hc := h c List.mem_cons_self
    obtain ⟨e1, e2⟩ := ih fun d hd => h d (List.mem_cons_of_mem _ hd)
    rw [List.cons_append, List.takeWhile_cons, List.dropWhile_cons, hc]
    exact ⟨congrArg (c :: ·) e1, e2⟩
theorem lexI_tk {t : Tk} (h : tkOk t) (l : List Nat) (ha : apart t l) (i : Nat) : lexI (tx t ++ l) i = (i, t) :: lexI l (i + (tx t).length) := by
  cases t with
  | sg c => exact lexI_sg h l i
  | wd x =>
    obtain ⟨h1, h2⟩ := h
    cases x with
    | nil => exact absurd rfl h1
    | cons c r =>
      obtain ⟨e1, e2⟩ := tw_app (l := l) (fun d hd => h2 d (List.mem_cons_of_mem _ hd)) ha
      show lexI (c :: (r ++ l)) i = _
      rw [lexI_wd (h2 c List.mem_cons_self), e1, e2]
      show _ = (i, Tk.wd (c :: r)) :: lexI l (i + (r.length + 1))
      rw [show i + (r.length + 1) = i + 1 + r.length by omega]
  | nm n =>
    have hall := dg_all n
    show lexI (dg n ++ l) i = (i, Tk.nm n) :: lexI l (i + (dg n).length)
    have hv := dg_val n
    have hh := dg_head n
    have h1 : n = 0 → dg n = [48] := fun e => by rw [e]; rfl
    cases hd : dg n with
    | nil => exact absurd hd (dg_ne n)
    | cons c r =>
      rw [hd] at hall hv hh h1
      obtain ⟨e1, e2⟩ := tw_app (p := isD) (a := r) (l := l) (fun d hd => isD_iff.mpr (hall d (List.mem_cons_of_mem _ hd))) ha
      show lexI (c :: (r ++ l)) i = _
      rw [lexI_nm (isD_iff.mpr (hall c List.mem_cons_self)), e1, e2, hv]
      · rw [show i + (c :: r).length = i + 1 + r.length by simp; omega]
      · rw [e1]
        rintro ⟨rfl, hr⟩
        rcases hh with h0 | ⟨c', r', e, hc⟩
        · exact hr (by have := h1 h0; simpa using this)
        · cases e
          omega
  | en => exact h.elim
  | bd => exact h.elim
theorem lexI_gap (k : Nat) (l : List Nat) (i : Nat) : lexI (List.replicate k 32 ++ l) i = lexI l (i + k) := by
  induction k generalizing i with
  | zero => rfl
  | succ k ih =>
    rw [List.replicate_succ, List.cons_append, lexI_sp, ih]
    congr 1
    omega
/-- a text of tokens: gap, token, gap, token, .., gap -/
def spr : List (Nat × Tk) → Nat → List Nat
  | [], k => List.replicate k 32
  | (g, t) :: r, k => List.replicate g 32 ++ (tx t ++ spr r k)
/-- need two tokens a space between -/
def near2 (t u : Tk) : Prop := match t, u with
  | .wd _, .wd _ => True
  | .nm _, .nm _ => True
  | _, _ => False
def sprOk : List (Nat × Tk) → Prop
  | [] => True
  | (_, t) :: r => tkOk t ∧ (match r with | (g, u) :: _ => near2 t u → 0 < g | [] => True) ∧ sprOk r
theorem apart_gap {t : Tk} {g : Nat} {l : List Nat} (h : 0 < g) : apart t (List.replicate g 32 ++ l) := by
  obtain ⟨k, rfl⟩ : ∃ k, g = k + 1 := ⟨g - 1, by omega⟩
  rw [List.replicate_succ, List.cons_append]
  cases t <;> first | trivial | (intro c r e; cases e; decide)
theorem apart_tk {t u : Tk} {l : List Nat} (hu : tkOk u) (h : ¬ near2 t u) : apart t (tx u ++ l) := by
  cases t with
  | sg c => trivial
  | en => trivial
  | bd => trivial
  | wd x =>
    intro c r e
    cases u with
    | sg d => cases e; exact (isS_not hu).1
    | wd y => exact absurd trivial h
    | nm n =>
      have e : dg n ++ l = c :: r := e
      have hall := dg_all n
      cases hd : dg n with
      | nil => exact absurd hd (dg_ne n)
      | cons d q =>
        rw [hd] at e hall
        cases e
        exact (isD_not (isD_iff.mpr (hall c List.mem_cons_self))).2.1
    | en => exact hu.elim
    | bd => exact hu.elim
  | nm x =>
    intro c r e
    cases u with
    | sg d => cases e; exact (isS_not hu).2.1
    | wd y =>
      obtain ⟨h1, h2⟩ := hu
      cases y with
      | nil => exact absurd rfl h1
      | cons d q =>
        cases e
        exact (isA_not (h2 c List.mem_cons_self)).2.1
    | nm n => exact absurd trivial h
    | en => exact hu.elim
    | bd => exact hu.elim
/-- the tokens of a text of tokens -/
theorem lex_spr : ∀ (ps : List (Nat × Tk)) (k i : Nat), sprOk ps → (lexI (spr ps k) i).map (·.2) = ps.map (·.2) ++ [.en]
  | [], k, i, _ => by
    unfold spr
    have := lexI_gap k [] i
    rw [List.append_nil] at this
    rw [this, lexI_nil]
    rfl
  | (g, t) :: r, k, i, h => by
    obtain ⟨h1, h2, h3⟩ := h
    unfold spr
    rw [lexI_gap]
    have ha : apart t (spr r k) := by
      cases r with
      | nil =>
        unfold spr
        cases k with
        | zero => cases t <;> first | trivial | (intro c r e; cases e)
        | succ k => have := apart_gap (t := t) (g := k + 1) (l := []) (by omega); rwa [List.append_nil] at this
      | cons q r =>
        obtain ⟨g', u⟩ := q
        unfold spr
        by_cases hg : 0 < g'
        · exact apart_gap hg
        · have hz : g' = 0 := by omega
          subst hz
          rw [List.replicate_zero, List.nil_append]
          exact apart_tk h3.1 fun z => hg (h2 z)
    rw [lexI_tk h1 _ ha, List.map_cons, lex_spr r k _ h3]
    rfl
end Dl
end

section
set_option Elab.async false
set_option linter.all false
set_option maxRecDepth 100000
/-! Dl: polynomials as rows of powers and fractions: plain matter. -/
namespace Dl
open PySem PySem.Spec PyProof.Rows L2
/-! ### fractions -/
theorem num_den (a : Rat) : (a.num : Rat) / ((a.den : Nat) : Rat) = a := by rw [← Rat.mkRat_eq_div]; exact Rat.mkRat_self a
def frQ (q : Rat) : D := .tup [.int q.num, .int q.den]
theorem frQ_of {a b c d : Int} (hb : b ≠ 0) (hd : 0 < d) (h : c * b = a * d) (hg : Nat.gcd c.natAbs d.natAbs = 1) : D.tup [.int c, .int d] = frQ ((a : Rat) / (b : Rat)) := by
  obtain ⟨n, rfl⟩ := Int.eq_ofNat_of_zero_le (Int.le_of_lt hd)
  have hn : n ≠ 0 := by omega
  have e : (⟨c, n, hn, hg⟩ : Rat) = (a : Rat) / (b : Rat) := by
    have h1 := num_den (⟨c, n, hn, hg⟩ : Rat)
    rw [← h1]
    have h2 : ((n : Nat) : Rat) ≠ 0 := by exact_mod_cast hn
    have h3 : (b : Rat) ≠ 0 := by exact_mod_cast hb
    have h4 : (c : Rat) * b = a * ((n : Nat) : Rat) := by exact_mod_cast h
    show (c : Rat) / ((n : Nat) : Rat) = _
    grind
  rw [← e]
  rfl
/-- n / d with n at most M in size and d a divisor of N -/
structure Bd (N M : Nat) (q : Rat) : Prop where
  pos : 0 < N
  ex : ∃ z : Int, q * (N : Rat) = (z : Rat) ∧ z.natAbs ≤ M
theorem Bd.cross {N M : Nat} {q : Rat} (h : Bd N M q) : ∃ z : Int, q.num * (N : Int) = z * (q.den : Int) ∧ z.natAbs ≤ M := by
  obtain ⟨z, e, hz⟩ := h.ex
  refine ⟨z, ?_, hz⟩
  have h1 := num_den q
  have h2 : ((q.den : Nat) : Rat) ≠ 0 := by exact_mod_cast q.den_nz
  have h3 : (q.num : Rat) * (N : Rat) = (z : Rat) * ((q.den : Nat) : Rat) := by
    rw [← h1] at e
    grind
  exact_mod_cast h3
theorem Bd.den {N M : Nat} {q : Rat} (h : Bd N M q) : q.den ∣ N ∧ q.den ≤ N := by
  obtain ⟨z, e, _⟩ := h.cross
  have h1 : q.den ∣ q.num.natAbs * N := by
    have : (q.den : Int) ∣ q.num * (N : Int) := ⟨z, by rw [e, Int.mul_comm]⟩
    have := Int.natAbs_dvd_natAbs.mpr this
    rwa [Int.natAbs_mul, Int.natAbs_natCast, Int.natAbs_natCast] at this
  have h2 : q.den ∣ N := (Nat.Coprime.symm q.reduced).dvd_of_dvd_mul_left h1
  exact ⟨h2, Nat.le_of_dvd h.pos h2⟩
theorem Bd.num {N M : Nat} {q : Rat} (h : Bd N M q) : q.num.natAbs ≤ M := by
  obtain ⟨k, hk⟩ := h.den.1
  obtain ⟨z, e, hz⟩ := h.cross
  have hp := h.pos
  have hd : 0 < q.den := q.den_pos
  have hk0 : 0 < k := by
    rcases Nat.eq_zero_or_pos k with rfl | hk0
    · rw [hk, Nat.mul_zero] at hp; omega
    · exact hk0
  have e2 : q.num * (k : Int) = z := by
    have e3 : (q.den : Int) * (q.num * (k : Int)) = (q.den : Int) * z := by
      rw [hk] at e
      push_cast at e
      grind
    exact Int.eq_of_mul_eq_mul_left (by omega) e3
  have : q.num.natAbs * k = z.natAbs := by rw [← e2, Int.natAbs_mul, Int.natAbs_natCast]
  have := Nat.le_mul_of_pos_right q.num.natAbs hk0
  omega
theorem Bd.mono {N M M' : Nat} {q : Rat} (h : Bd N M q) (hm : M ≤ M') : Bd N M' q := by
  obtain ⟨z, e, hz⟩ := h.ex
  exact ⟨h.pos, z, e, by omega⟩
theorem Bd.scale {N M : Nat} {q : Rat} (h : Bd N M q) {k : Nat} (hk : 0 < k) : Bd (N * k) (M * k) q := by
  obtain ⟨z, e, hz⟩ := h.ex
  refine ⟨Nat.mul_pos h.pos hk, z * k, ?_, ?_⟩
  · push_cast
    grind
  · rw [Int.natAbs_mul, Int.natAbs_natCast]
    exact Nat.mul_le_mul_right k hz
theorem Bd.add {N M M' : Nat} {p q : Rat} (h : Bd N M p) (k : Bd N M' q) : Bd N (M + M') (p + q) := by
  obtain ⟨z, e, hz⟩ := h.ex
  obtain ⟨y, e', hy⟩ := k.ex
  refine ⟨h.pos, z + y, ?_, by omega⟩
  push_cast
  grind
theorem Bd.mul {N N' M M' : Nat} {p q : Rat} (h : Bd N M p) (k : Bd N' M' q) : Bd (N * N') (M * M') (p * q) := by
  obtain ⟨z, e, hz⟩ := h.ex
  obtain ⟨y, e', hy⟩ := k.ex
  refine ⟨Nat.mul_pos h.pos k.pos, z * y, ?_, ?_⟩
  · push_cast
    grind
  · rw [Int.natAbs_mul]
    exact Nat.mul_le_mul hz hy
theorem Bd.zero {N M : Nat} (h : 0 < N) : Bd N M 0 := ⟨h, 0, by grind, by simp⟩
theorem Bd.neg {N M : Nat} {p : Rat} (h : Bd N M p) : Bd N M (-p) := by
  obtain ⟨z, e, hz⟩ := h.ex
  refine ⟨h.pos, -z, ?_, by omega⟩
  push_cast
  grind
/-! ### tables -/
abbrev Tb := List (List Int × Rat)
def tabD (T : Tb) : List (List Key × D) := T.map fun p => (kI p.1, frQ p.2)
def has (T : Tb) (e : List Int) : Bool := T.any fun p => decide (p.1 = e)
def val (T : Tb) (e : List Int) : Rat := ((T.find? fun p => decide (p.1 = e)).map (·.2)).getD 0
def putQ (T : Tb) (e : List Int) (q : Rat) : Tb := if has T e = true then T.map (fun p => if p.1 = e then (p.1, q) else p) else T ++ [(e, q)]
def dropQ (T : Tb) (e : List Int) : Tb := T.filter fun p => decide (p.1 ≠ e)
theorem kI_inj {a b : List Int} : kI a = kI b ↔ a = b := ⟨fun h => by
  have : Function.Injective (Sum.inl : Int → Key) := fun x y h => by cases h; rfl
  exact (List.map_inj_right (fun x y h => this h)).mp h, fun h => by rw [h]⟩
theorem val_cons {p : List Int × Rat} {T : Tb} {e : List Int} : val (p :: T) e = if p.1 = e then p.2 else val T e := by
  unfold val
  by_cases h : p.1 = e <;> simp [h]
theorem has_cons {p : List Int × Rat} {T : Tb} {e : List Int} : has (p :: T) e = (decide (p.1 = e) || has T e) := rfl
theorem val_nil {e : List Int} : val [] e = 0 := rfl
theorem val_not {T : Tb} {e : List Int} (h : has T e = false) : val T e = 0 := by
  induction T with
  | nil => rfl
  | cons p T ih =>
    rw [has_cons, Bool.or_eq_false_iff] at h
    rw [val_cons, if_neg (of_decide_eq_false h.1)]
    exact ih h.2
theorem findT_tab (T : Tb) (e : List Int) : findT (tabD T) (kI e) = if has T e = true then some (frQ (val T e)) else none := by
  induction T with
  | nil => rfl
  | cons p T ih =>
    unfold findT tabD at *
    rw [List.map_cons, List.find?_cons]
    by_cases h : p.1 = e
    · subst h
      simp [has_cons, val_cons]
    · have h' : ¬ kI p.1 = kI e := fun z => h (kI_inj.mp z)
      rw [decide_eq_false h']
      dsimp only
      rw [ih, has_cons, decide_eq_false h, Bool.false_or, val_cons, if_neg h]
theorem any_tab (T : Tb) (e : List Int) : ((tabD T).any fun kv => decide (kv.1 = kI e)) = has T e := by
  unfold tabD has
  rw [List.any_map]
  congr 1
  funext p
  simp only [Function.comp, kI_inj]
theorem putT_tab (T : Tb) (e : List Int) (q : Rat) : putT (tabD T) (kI e) (frQ q) = tabD (putQ T e q) := by
  unfold putT putQ
  rw [any_tab]
  split
  · unfold tabD
    rw [List.map_map, List.map_map]
    refine List.map_congr_left fun p _ => ?_
    simp only [Function.comp, kI_inj]
    split <;> rfl
  · unfold tabD
    rw [List.map_append]
    rfl
theorem dropT_tab (T : Tb) (e : List Int) : dropT (tabD T) (kI e) = tabD (dropQ T e) := by
  unfold dropT dropQ tabD
  rw [List.filter_map]
  congr 1
  refine List.filter_congr fun p _ => ?_
  simp only [Function.comp, ne_eq, kI_inj]
theorem val_app (T : Tb) (e : List Int) (q : Rat) (e' : List Int) (h : has T e = false) : val (T ++ [(e, q)]) e' = if e' = e then q else val T e' := by
  induction T with
  | nil =>
    rw [List.nil_append, val_cons, val_nil]
    by_cases h : e' = e
    · subst h; simp
    · rw [if_neg (fun z => h z.symm), if_neg h]
  | cons p T ih =>
    rw [has_cons, Bool.or_eq_false_iff] at h
    rw [List.cons_append, val_cons, val_cons, ih h.2]
    have h1 := of_decide_eq_false h.1
    by_cases h2 : p.1 = e'
    · rw [if_pos h2, if_pos h2, if_neg (fun z => h1 (h2.trans z))]
    · rw [if_neg h2, if_neg h2]
theorem val_rep (T : Tb) (e : List Int) (q : Rat) (e' : List Int) (h : has T e = true) : val (T.map fun p => if p.1 = e then (p.1, q) else p) e' = if e' = e then q else val T e' := by
  have gen : ∀ T : Tb, val (T.map fun p => if p.1 = e then (p.1, q) else p) e' = if e' = e ∧ has T e = true then q else if e' = e then 0 else val T e' := by
    intro T
    induction T with
    | nil => simp [val_nil, has]
    | cons p T ih =>
      rw [List.map_cons, val_cons, val_cons, ih, has_cons]
      by_cases h1 : p.1 = e
      · subst h1
        by_cases h2 : e' = p.1
        · subst h2; simp
        · have h3 : ¬ p.1 = e' := fun z => h2 z.symm
          simp [h2, h3]
      · by_cases h2 : e' = e
        · subst h2
          simp [h1]
        · by_cases h3 : p.1 = e' <;> simp [h1, h2, h3]
  rw [gen T]
  by_cases h2 : e' = e <;> simp [h2, h]
theorem val_put (T : Tb) (e : List Int) (q : Rat) (e' : List Int) : val (putQ T e q) e' = if e' = e then q else val T e' := by
  unfold putQ
  cases h : has T e with
  | true => rw [if_pos rfl]; exact val_rep T e q e' h
  | false => rw [if_neg (by decide)]; exact val_app T e q e' h
theorem val_drop (T : Tb) (e e' : List Int) : val (dropQ T e) e' = if e' = e then 0 else val T e' := by
  unfold dropQ
  induction T with
  | nil => simp [val_nil]
  | cons p T ih =>
    rw [List.filter_cons]
    by_cases h1 : p.1 = e
    · rw [if_neg (by simp [h1]), ih, val_cons]
      by_cases h2 : e' = e
      · rw [if_pos h2, if_pos h2]
      · rw [if_neg h2, if_neg h2, if_neg (fun z => h2 (z.symm.trans h1))]
    · rw [if_pos (by simp [h1]), val_cons, val_cons, ih]
      by_cases h2 : e' = e
      · subst h2; simp [h1]
      · by_cases h3 : p.1 = e' <;> simp [h2, h3]
theorem val_mem {T : Tb} (nd : (T.map (·.1)).Nodup) {p : List Int × Rat} (h : p ∈ T) : val T p.1 = p.2 := by
  induction T with
  | nil => cases h
  | cons q T ih =>
    rw [List.map_cons, List.nodup_cons] at nd
    rw [val_cons]
    rcases List.mem_cons.mp h with rfl | h
    · simp
    · rw [if_neg (fun z => nd.1 (by rw [z]; exact List.mem_map_of_mem h))]
      exact ih nd.2 h
theorem has_mem {T : Tb} {e : List Int} : has T e = true ↔ e ∈ T.map (·.1) := by
  unfold has
  simp [List.any_eq_true]
theorem keys_put (T : Tb) (e : List Int) (q : Rat) : (putQ T e q).map (·.1) = if has T e = true then T.map (·.1) else T.map (·.1) ++ [e] := by
  unfold putQ
  split
  · rw [List.map_map]
    refine List.map_congr_left fun p _ => ?_
    simp only [Function.comp]
    split <;> rfl
  · simp
theorem nodup_put {T : Tb} (nd : (T.map (·.1)).Nodup) (e : List Int) (q : Rat) : ((putQ T e q).map (·.1)).Nodup := by
  rw [keys_put]
  split
  · exact nd
  · rename_i h
    refine List.nodup_append.mpr ⟨nd, by simp, fun a ha b hb z => h (has_mem.mpr ?_)⟩
    rw [List.mem_singleton.mp hb] at z
    rw [← z]
    exact ha
theorem nodup_drop {T : Tb} (nd : (T.map (·.1)).Nodup) (e : List Int) : ((dropQ T e).map (·.1)).Nodup := nd.sublist ((List.filter_sublist).map _)
theorem mem_put {T : Tb} {e : List Int} {q : Rat} {p : List Int × Rat} (h : p ∈ putQ T e q) : p ∈ T ∨ p = (e, q) := by
  unfold putQ at h
  split at h
  · obtain ⟨r, hr, rfl⟩ := List.mem_map.mp h
    split
    · rename_i z; subst z; exact .inr rfl
    · exact .inl hr
  · rcases List.mem_append.mp h with h | h
    · exact .inl h
    · exact .inr (List.mem_singleton.mp h)
theorem len_put (T : Tb) (e : List Int) (q : Rat) : (putQ T e q).length ≤ T.length + 1 := by
  unfold putQ
  split
  · rw [List.length_map]; omega
  · simp
/-! ### sums of terms -/
def sumT : Tb → List Int → Rat
  | [], _ => 0
  | p :: T, e => (if e = p.1 then p.2 else 0) + sumT T e
theorem sumT_app : ∀ (T T' : Tb) (e : List Int), sumT (T ++ T') e = sumT T e + sumT T' e
  | [], T', e => by simp only [List.nil_append, sumT]; grind
  | p :: T, T', e => by
    simp only [List.cons_append, sumT, sumT_app T T' e]
    grind
theorem sumT_perm {T T' : Tb} (h : T.Perm T') (e : List Int) : sumT T e = sumT T' e := by
  induction h with
  | nil => rfl
  | cons p _ ih => simp only [sumT, ih]
  | swap p q l => simp only [sumT]; grind
  | trans _ _ h1 h2 => exact h1.trans h2
theorem sumT_val : ∀ {T : Tb}, (T.map (·.1)).Nodup → ∀ e, sumT T e = val T e
  | [], _, e => rfl
  | p :: T, nd, e => by
    rw [List.map_cons, List.nodup_cons] at nd
    simp only [sumT]
    rw [sumT_val nd.2, val_cons]
    by_cases h : e = p.1
    · subst h
      rw [if_pos rfl, if_pos rfl, val_not]
      · grind
      · cases q : has T p.1 with
        | false => rfl
        | true => exact absurd (has_mem.mp q) nd.1
    · rw [if_neg h, if_neg (fun z => h z.symm)]
      grind
abbrev addE (a b : List Int) : List Int := List.zipWith (· + ·) a b
def prodT (f g : Tb) : Tb := f.flatMap fun p => g.map fun q => (addE p.1 q.1, p.2 * q.2)
theorem addE_comm (a b : List Int) : addE a b = addE b a := by
  unfold addE
  rw [List.zipWith_comm]
  congr 1
  funext x y
  exact Int.add_comm _ _
theorem prodT_perm : ∀ (f g : Tb), (prodT f g).Perm (prodT g f)
  | [], g => by
    have : prodT g [] = [] := by
      unfold prodT
      simp
    rw [this]
    exact .nil
  | p :: f, g => by
    have ih := prodT_perm f g
    have e : ∀ g : Tb, (prodT g (p :: f)).Perm ((g.map fun q => (addE q.1 p.1, q.2 * p.2)) ++ prodT g f) := by
      intro g
      induction g with
      | nil => exact .nil
      | cons q g ihg =>
        have e1 : prodT (q :: g) (p :: f) = ((addE q.1 p.1, q.2 * p.2) :: f.map fun r => (addE q.1 r.1, q.2 * r.2)) ++ prodT g (p :: f) := rfl
        have e2 : prodT (q :: g) f = (f.map fun r => (addE q.1 r.1, q.2 * r.2)) ++ prodT g f := rfl
        rw [e1, e2, List.cons_append, List.map_cons, List.cons_append]
        refine .cons _ ?_
        refine (List.Perm.append_left _ ihg).trans ?_
        rw [← List.append_assoc, ← List.append_assoc]
        exact List.Perm.append_right _ List.perm_append_comm
    have e3 : prodT (p :: f) g = (g.map fun q => (addE p.1 q.1, p.2 * q.2)) ++ prodT f g := rfl
    have e4 : (g.map fun q => (addE p.1 q.1, p.2 * q.2)) = g.map fun q => (addE q.1 p.1, q.2 * p.2) := List.map_congr_left fun q _ => by rw [addE_comm, Rat.mul_comm]
    rw [e3, e4]
    exact (List.Perm.append_left _ ih).trans (e g).symm
/-! ### the one row -/
def memD (p : List Int × Rat) : D := .tup [.tup (p.1.map .int), frQ p.2]
def polyD (L : Tb) : D := .tup (L.map memD)
structure Can (k : List Int → List Int) (F : List Int → Rat) (L : Tb) : Prop where
  desc : L.Pairwise fun p q => k q.1 < k p.1
  mem : ∀ p ∈ L, p.2 = F p.1 ∧ p.2 ≠ 0
  all : ∀ e, F e ≠ 0 → (e, F e) ∈ L
theorem Can.nodup {k : List Int → List Int} {F : List Int → Rat} {L : Tb} (h : Can k F L) : (L.map (·.1)).Nodup := by
  rw [List.Nodup, List.pairwise_map]
  exact h.desc.imp fun {p q} hpq z => by rw [z] at hpq; exact List.lt_irrefl _ hpq
theorem Can.uniq {k : List Int → List Int} {F : List Int → Rat} {L L' : Tb} (h : Can k F L) (h' : Can k F L') : L = L' := by
  have mm : ∀ {A B : Tb}, Can k F A → Can k F B → ∀ p, p ∈ A → p ∈ B := fun {A B} a b p hp => by
    obtain ⟨e1, e2⟩ := a.mem p hp
    have := b.all p.1 (by rw [← e1]; exact e2)
    rw [← e1] at this
    exact this
  have m1 := mm h h'
  have m2 := mm h' h
  have d1 := h.desc
  have d2 := h'.desc
  clear h h' mm
  induction L generalizing L' with
  | nil => cases L' with
    | nil => rfl
    | cons q L' => exact absurd (m2 q (by simp)) (by simp)
  | cons p L ih => cases L' with
    | nil => exact absurd (m1 p (by simp)) (by simp)
    | cons q L' =>
      rw [List.pairwise_cons] at d1 d2
      have hpq : p = q := by
        rcases List.mem_cons.mp (m1 p (by simp)) with h | h
        · exact h
        · rcases List.mem_cons.mp (m2 q (by simp)) with h' | h'
          · exact h'.symm
          · exact absurd (List.lt_trans (d2.1 p h) (d1.1 q h')) (List.lt_irrefl _)
      subst hpq
      congr 1
      refine ih (fun r hr => ?_) (fun r hr => ?_) d1.2 d2.2
      · rcases List.mem_cons.mp (m1 r (by simp [hr])) with h | h
        · subst h
          exact absurd (d1.1 r hr) (List.lt_irrefl _)
        · exact h
      · rcases List.mem_cons.mp (m2 r (by simp [hr])) with h | h
        · subst h
          exact absurd (d2.1 r hr) (List.lt_irrefl _)
        · exact h
theorem Can.sum {k : List Int → List Int} {F : List Int → Rat} {L : Tb} (h : Can k F L) (e : List Int) : sumT L e = F e := by
  rw [sumT_val h.nodup]
  by_cases c : F e = 0
  · rw [c]
    refine Classical.byContradiction fun z => ?_
    cases q : has L e with
    | false => exact z (val_not q)
    | true =>
      obtain ⟨p, hp, rfl⟩ := List.mem_map.mp (has_mem.mp q)
      obtain ⟨e1, e2⟩ := h.mem p hp
      rw [e1] at e2
      exact e2 c
  · exact val_mem h.nodup (h.all e c)
/-! ### sorting -/
def srt (k : List Int → List Int) (xs : List (List Int)) : List (List Int) := xs.mergeSort fun a b => !decide (k a < k b)
theorem dataLt_encI (a b : List Int) : PySem.W.dataLt (encI a) (encI b) = decide (a < b) := by
  unfold encI
  rw [PySem.W.dataLt_tuple]
  exact PySem.W.dataLt_ints a b
theorem sortBy_map {α : Type} (f : α → D) (g : α → PyData) (xs : List α) : sortBy (xs.map f) (xs.map g) = (xs.mergeSort (PySem.W.dataLe true g)).map f := by
  unfold sortBy
  have e : (xs.map f).zip (xs.map g) = xs.map fun x => (f x, g x) := by
    rw [List.zip_map']
  rw [e, ← PySem.W.sort_maps (r := PySem.W.dataLe true g) (s := PySem.W.dataLe true (·.2)) (fun x => (f x, g x)) (fun _ _ _ _ => rfl), List.map_map]
  rfl
theorem sort_prog (k : List Int → List Int) (f : List Int → D) (xs : List (List Int)) : sortBy (xs.map f) (xs.map fun x => encI (k x)) = (srt k xs).map f := by
  rw [sortBy_map]
  congr 1
  unfold srt
  congr 1
  funext a b
  show (!PySem.W.dataLt (encI (k a)) (encI (k b))) = _
  rw [dataLt_encI]
theorem eqv_ints : ∀ a b : List Int, PyData.eqvAll (a.map .int) (b.map .int) = decide (a = b)
  | [], [] => by simp [PyData.eqvAll]
  | [], _ :: _ => by simp [PyData.eqvAll]
  | _ :: _, [] => by simp [PyData.eqvAll]
  | x :: a, y :: b => by
    simp only [List.map_cons, PyData.eqvAll, PyData.eqv, eqv_ints a b]
    by_cases h1 : x = y <;> by_cases h2 : a = b <;> simp [h1, h2]
theorem sort_law (k : List Int → List Int) (f : List Int → D) (xs : List (List Int)) (inj : ∀ a ∈ xs, ∀ b ∈ xs, k a = k b → a = b) : sortBy (xs.map f) (xs.map fun x => encP (k x, x)) = (srt k xs).map f := by
  rw [sortBy_map]
  congr 1
  have := PySem.W.sort_maps (r := PySem.W.dataLe true fun x => encP (k x, x)) (s := fun a b => !decide (k a < k b)) (l := xs) id (fun a ha b hb => ?_)
  · rw [List.map_id, List.map_id] at this
    exact this
  · show (!PySem.W.dataLt (encP (k a, a)) (encP (k b, b))) = !decide (k a < k b)
    unfold encP
    rw [PySem.W.dataLt_pair (encI_alike' _ _) (encI_alike' _ _), dataLt_encI, dataLt_encI]
    have e1 : PyData.eqv (encI (k a)) (encI (k b)) = decide (k a = k b) := by
      unfold encI
      simp only [PyData.eqv]
      exact eqv_ints _ _
    rw [e1]
    by_cases h : k a = k b
    · have h2 := inj a ha b hb h
      subst h2
      have e2 : PyData.eqv (encI a) (encI a) = true := by
        unfold encI
        simp only [PyData.eqv]
        rw [eqv_ints]; simp
      rw [if_pos (by simp), if_pos e2]
      have := List.lt_irrefl (k a)
      simp [this]
    · rw [if_neg (by simpa using h)]
where
  encI_alike' (a b : List Int) : PySem.W.alike (encI a) (encI b) = true := by
    unfold encI
    simp only [PySem.W.alike]
    exact PySem.W.alike_ints a b
theorem srt_perm (k : List Int → List Int) (xs : List (List Int)) : (srt k xs).Perm xs := List.mergeSort_perm _ _
theorem srt_desc (k : List Int → List Int) (xs : List (List Int)) (nd : xs.Nodup) (inj : ∀ a ∈ xs, ∀ b ∈ xs, k a = k b → a = b) : (srt k xs).Pairwise fun a b => k b < k a := by
  have h : (srt k xs).Pairwise fun a b => (!decide (k a < k b)) = true := by
    refine List.pairwise_mergeSort (fun a b c h1 h2 => ?_) (fun a b => ?_) xs
    · simp only [Bool.not_eq_true', decide_eq_false_iff_not] at *
      exact List.not_lt.mpr (List.le_trans (List.not_lt.mp h2) (List.not_lt.mp h1))
    · by_cases h1 : k a < k b
      · have := List.lt_asymm h1
        simp [h1, this]
      · simp [h1]
  have nd' : (srt k xs).Nodup := (srt_perm k xs).nodup_iff.mpr nd
  refine (List.Pairwise.and h nd').imp_of_mem fun {a b} ha hb ⟨h1, h2⟩ => ?_
  simp only [Bool.not_eq_true', decide_eq_false_iff_not] at h1
  have h3 : k b ≤ k a := List.not_lt.mp h1
  rcases List.le_iff_lt_or_eq.mp h3 with h4 | h4
  · exact h4
  · exact absurd (inj a ((srt_perm k xs).mem_iff.mp ha) b ((srt_perm k xs).mem_iff.mp hb) h4.symm) h2
/-- what both read off a table -/
def nz (T : Tb) : List (List Int) := (T.filter fun p => decide (p.2 ≠ 0)).map (·.1)
def rowOf (k : List Int → List Int) (T : Tb) : Tb := (srt k (nz T)).map fun e => (e, val T e)
theorem can_row (k : List Int → List Int) {T : Tb} (nd : (T.map (·.1)).Nodup) (inj : ∀ a ∈ T.map (·.1), ∀ b ∈ T.map (·.1), k a = k b → a = b) : Can k (val T) (rowOf k T) := by
  have sub : ∀ e ∈ nz T, e ∈ T.map (·.1) := fun e he => by
    obtain ⟨p, hp, rfl⟩ := List.mem_map.mp he
    exact List.mem_map_of_mem (List.mem_filter.mp hp).1
  have hnd : (nz T).Nodup := nd.sublist ((List.filter_sublist).map _)
  refine ⟨?_, fun p hp => ?_, fun e he => ?_⟩
  · unfold rowOf
    rw [List.pairwise_map]
    exact srt_desc k _ hnd fun a ha b hb => inj a (sub a ha) b (sub b hb)
  · obtain ⟨e, he, rfl⟩ := List.mem_map.mp hp
    refine ⟨rfl, ?_⟩
    obtain ⟨q, hq, rfl⟩ := List.mem_map.mp ((srt_perm k _).mem_iff.mp he)
    obtain ⟨h1, h2⟩ := List.mem_filter.mp hq
    dsimp only
    rw [val_mem nd h1]
    exact of_decide_eq_true h2
  · refine List.mem_map.mpr ⟨e, (srt_perm k _).mem_iff.mpr ?_, rfl⟩
    have hh : has T e = true := by
      cases q : has T e with
      | true => rfl
      | false => exact absurd (val_not q) he
    obtain ⟨p, hp, rfl⟩ := List.mem_map.mp (has_mem.mp hh)
    refine List.mem_map.mpr ⟨p, List.mem_filter.mpr ⟨hp, decide_eq_true ?_⟩, rfl⟩
    rw [← val_mem nd hp]
    exact he
end Dl
end

section
set_option Elab.async false
set_option linter.all false
set_option maxRecDepth 100000
/-! Dl: wq of the forms for dicts once more, of a greatest key, of while. -/
namespace Dl
open PySem PySem.Spec PyProof.Rows L2
section
variable {S : Store} {l : Nat} {b : Bool} {kvs : List (List Key × D)} {e : List Int} {d z : D} {Q : D → Store → Prop} {QB : Bool → Store → Prop} {QU : Unit → Store → Prop}
theorem w_dkeys (h : S[l]? = some (.dt false kvs)) : wq (dkeysD (.ref l)) Q S = Q (.ref S.length) (S ++ [.lst (kvs.map fun kv => unkey kv.1)]) := by
  unfold dkeysD
  dsimp only
  rw [wq_bind, wq_getO]
  exact propext ⟨fun ⟨o, e, k⟩ => by rw [h] at e; cases e; simpa only [wq_newO] using k, fun k => ⟨_, h, by simpa only [wq_newO] using k⟩⟩
theorem w_dlen (h : S[l]? = some (.dt false kvs)) : wq (dlenD (.ref l)) Q S = Q (.int kvs.length) S := by
  unfold dlenD
  dsimp only
  rw [wq_bind, wq_getO]
  exact propext ⟨fun ⟨o, e, k⟩ => by rw [h] at e; cases e; simpa only [wq_pure] using k, fun k => ⟨_, h, by simpa only [wq_pure] using k⟩⟩
theorem w_dof {ds : List D} {ks : List (List Key × D)} (he : entsD ds = some ks) (hx : isX ds = true) : wq (dofD (.tup ds)) Q S = Q (.ref S.length) (S ++ [.dt false (ks.foldl (fun acc q => putT acc q.1 q.2) [])]) := by
  unfold dofD
  dsimp only
  rw [he]
  dsimp only
  rw [wq_bind, wq_need, wq_newO, hx]
  simp
theorem w_getU {QK : List (List Key × D) → Store → Prop} (h : S[l]? = some (.dt false kvs)) : wq (getU (.ref l)) QK S = QK kvs S := by
  unfold getU
  dsimp only
  rw [wq_bind, wq_getO]
  exact propext ⟨fun ⟨o, e, k⟩ => by rw [h] at e; cases e; simpa only [wq_pure] using k, fun k => ⟨_, h, by simpa only [wq_pure] using k⟩⟩
theorem w_ddel (h : S[l]? = some (.dt false kvs)) (he : e ≠ []) (hf : (findT kvs (kI e)).isSome = true) : wq (ddelD (.ref l) (.tup (e.map .int))) QU S = QU () (S.set l (.dt false (dropT kvs (kI e)))) := by
  have hl := lt_of_get h
  unfold ddelD
  dsimp only
  rw [wq_bind, wq_getO]
  refine propext ⟨fun ⟨o, e', k⟩ => ?_, fun k => ⟨_, h, ?_⟩⟩
  · rw [h] at e'
    cases e'
    dsimp only at k
    rw [wq_bind, w_toKey he, wq_bind, wq_need, wq_setO] at k
    exact k.2.2
  · dsimp only
    rw [wq_bind, w_toKey he, wq_bind, wq_need, wq_setO]
    exact ⟨hf, hl, k⟩
/-- the first place of a greatest key -/
theorem best_max {α : Type} (key : α → List Int) (ys : List α) : ∀ n, n < ys.length → bestI (ys.map fun y => encI (key y)) n ≤ n ∧ ∀ j y z, j ≤ n → ys[j]? = some y → ys[bestI (ys.map fun y => encI (key y)) n]? = some z → ¬ key z < key y
  | 0, h => ⟨Nat.le_refl _, fun j y z hj hy hz => by
    obtain rfl : j = 0 := by omega
    have hz : ys[0]? = some z := hz
    rw [hy] at hz
    cases hz
    exact List.lt_irrefl _⟩
  | n + 1, h => by
    obtain ⟨i1, i2⟩ := best_max key ys n (by omega)
    have g : ∀ i, i < ys.length → ∃ y, ys[i]? = some y ∧ (ys.map fun y => encI (key y)).getD i .none = encI (key y) := fun i hi => ⟨ys[i], List.getElem?_eq_getElem hi, by
      rw [List.getD_eq_getElem?_getD, List.getElem?_map, List.getElem?_eq_getElem hi]
      rfl⟩
    obtain ⟨yb, b1, b2⟩ := g (bestI (ys.map fun y => encI (key y)) n) (by omega)
    obtain ⟨yn, n1, n2⟩ := g (n + 1) h
    unfold bestI
    rw [b2, n2, dataLt_encI]
    by_cases c : key yb < key yn
    · rw [if_pos (decide_eq_true c)]
      refine ⟨Nat.le_refl _, fun j y z hj hy hz => ?_⟩
      rw [n1] at hz
      cases hz
      by_cases k : j = n + 1
      · rw [k, n1] at hy
        cases hy
        exact List.lt_irrefl _
      · exact fun w => i2 j y yb (by omega) hy b1 (List.lt_trans c w)
    · rw [if_neg (by simpa using c)]
      refine ⟨by omega, fun j y z hj hy hz => ?_⟩
      rw [b1] at hz
      cases hz
      by_cases k : j = n + 1
      · rw [k, n1] at hy
        cases hy
        exact c
      · exact i2 j y yb (by omega) hy b1
theorem best_top {α : Type} {key : α → List Int} {ys : List α} {p : α} (hp : p ∈ ys) (ht : ∀ y ∈ ys, y ≠ p → key y < key p) : ys[bestI (ys.map fun y => encI (key y)) (ys.length - 1)]? = some p := by
  have hl := List.length_pos_of_mem hp
  obtain ⟨h1, h2⟩ := best_max key ys (ys.length - 1) (by omega)
  obtain ⟨j, hj, e⟩ := List.getElem_of_mem hp
  have hb : ys[bestI (ys.map fun y => encI (key y)) (ys.length - 1)]? = some ys[bestI (ys.map fun y => encI (key y)) (ys.length - 1)] := List.getElem?_eq_getElem (by omega)
  rw [hb]
  refine congrArg some (Classical.byContradiction fun n => ?_)
  exact h2 j p _ (by omega) (by rw [List.getElem?_eq_getElem hj, e]) hb (ht _ (List.getElem_mem _) n)
end
section
variable {gl : Nat → D} {cf : Nat → List D → M D} {env : Sl} {S : Store} {Q : D → Store → Prop} {QB : Bool → Store → Prop} {QF : Fl × Sl → Store → Prop} {a b c o v xs e : IE}
theorem e_dkeys : wq (ev gl cf (.dkeys a) env) Q S = wq (ev gl cf a env) (fun x S' => wq (dkeysD x) Q S') S := by simp only [ev, wq_bind]
theorem e_dlen : wq (ev gl cf (.dlen a) env) Q S = wq (ev gl cf a env) (fun x S' => wq (dlenD x) Q S') S := by simp only [ev, wq_bind]
theorem e_dof : wq (ev gl cf (.dof a) env) Q S = wq (ev gl cf a env) (fun x S' => wq (dofD x) Q S') S := by simp only [ev, wq_bind]
theorem x_ddel : wq (ex gl cf (.ddel o a) env) QF S = wq (ev gl cf o env) (fun x S' => wq (ev gl cf a env) (fun y S'' => wq (ddelD x y) (fun _ S3 => QF (.nx, env) S3) S'') S') S := by simp only [ex, wq_bind, wq_pure]
theorem x_rmaxk {α : Type} {f : α → D} {key : α → List Int} {t i l : Nat} {r : D} {ys : List α} {p : α} {kvs : List (List Key × D)} (hx : wq (ev gl cf a env) (fun x S' => x = .ref l ∧ S' = S) S) (hl : S[l]? = some (.dt false kvs)) (hk : kvs.map (fun kv => unkey kv.1) = ys.map f)
    (hi : env[i]? = some (some r)) (ht : t < env.length) (hp : p ∈ ys) (top : ∀ y ∈ ys, y ≠ p → key y < key p)
    (h : ∀ x ∈ ys, ∀ S', Fr [] S S' → wq (ev gl cf e [some (f x), some r]) (fun d S'' => d = .tup ((key x).map .int) ∧ key x ≠ [] ∧ Fr [] S' S'') S')
    (k : ∀ S', Fr [] S S' → QF (.nx, env.set t (some (f p))) S') : wq (ex gl cf (.rmaxk t i a e) env) QF S := by
  simp only [ex]
  rw [wq_bind]
  refine wq_mono hx fun x S' ⟨h1, h2⟩ => ?_
  subst h1 h2
  rw [wq_bind, w_getU hl]
  simp only [hi]
  rw [wq_bind, hk]
  refine keysL_wq (key := key) h fun S2 a => ?_
  rw [wq_bind, wq_need]
  refine ⟨decide_eq_true ht, ?_⟩
  have hlen : kvs.length = ys.length := by simpa using congrArg List.length hk
  have := best_top hp top
  rw [hlen, List.map_map, List.getElem?_map]
  have e1 : ys[bestI (ys.map (encI ∘ key)) (ys.length - 1)]? = some p := this
  rw [e1]
  show wq (pure (Fl.nx, env.set t (some (f p)))) QF S2
  rw [wq_pure]
  exact k S2 a
theorem whlL_wq {c : Sl → M Bool} {b : Sl → M (Fl × Sl)} (I : Nat → Sl → Store → Prop)
    (step : ∀ k e S, I k e S → wq (c e) (fun t S1 => if t = true then wq (b e) (fun r S2 => match r with | (.nx, e2) => ∃ k', k' < k ∧ I k' e2 S2 | (.ct, e2) => ∃ k', k' < k ∧ I k' e2 S2 | (.bk, e2) => QF (.nx, e2) S2 | (.rt v, e2) => QF (.rt v, e2) S2) S1 else QF (.nx, e) S1) S) :
    ∀ (n k : Nat) (e : Sl) (S : Store), I k e S → k < n → wq (whlL c b n e) QF S
  | 0, k, e, S, _, hk => absurd hk (Nat.not_lt_zero _)
  | n + 1, k, e, S, hi, hk => by
    unfold whlL
    rw [wq_bind]
    refine wq_mono (step k e S hi) fun t S1 h => ?_
    cases t with
    | false =>
      simp only [Bool.false_eq_true, if_false] at h ⊢
      rw [wq_pure]
      exact h
    | true =>
      simp only [if_true] at h ⊢
      rw [wq_bind]
      refine wq_mono h fun r S2 h => ?_
      obtain ⟨fl, e2⟩ := r
      cases fl with
      | nx =>
        obtain ⟨k', hk', hi'⟩ := h
        exact whlL_wq I step n k' e2 S2 hi' (by omega)
      | ct =>
        obtain ⟨k', hk', hi'⟩ := h
        exact whlL_wq I step n k' e2 S2 hi' (by omega)
      | bk => rw [wq_pure]; exact h
      | rt v => rw [wq_pure]; exact h
end
end Dl
end

section
set_option Elab.async false
set_option linter.all false
set_option maxRecDepth 100000
/-! Dl: words of the texts, lines of tokens. -/
namespace Dl
open PySem PySem.Spec PyProof.Rows L2
theorem li_word : ("word" : Str) = tS [119, 111, 114, 100] := by decide +kernel
theorem li_number : ("number" : Str) = tS [110, 117, 109, 98, 101, 114] := by decide +kernel
theorem li_end : ("end" : Str) = tS [101, 110, 100] := by decide +kernel
theorem li_empty : ("" : Str) = tS [] := by decide +kernel
theorem li_none : ("none" : Str) = tS [110, 111, 110, 101] := by decide +kernel
theorem li_lp : ("(" : Str) = tS [40] := by decide +kernel
theorem li_rp : (")" : Str) = tS [41] := by decide +kernel
theorem li_cm : ("," : Str) = tS [44] := by decide +kernel
theorem li_cms : (", " : Str) = tS [44, 32] := by decide +kernel
theorem li_mi : ("-" : Str) = tS [45] := by decide +kernel
theorem li_sp : (" " : Str) = tS [32] := by decide +kernel
theorem li_zero : ("0" : Str) = tS [48] := by decide +kernel
theorem ok_list {cs : List Nat} (h : cs.all (· < 1000000) = true) : PyData.canLay0 (.str (tS cs)) = true := tS_ok fun c hc => of_decide_eq_true (List.all_eq_true.mp h c hc)
/-! ### lines -/
def lineO (r : Int) (tl k : Nat) : Ob := .obj "Line" [("row_number", .int r), ("tokens", .ref tl), ("taken", .int k)]
theorem nL1 : (("tokens" : Str) == "row_number") = false := by decide +kernel
theorem nL2 : (("taken" : Str) == "row_number") = false := by decide +kernel
theorem nL3 : (("taken" : Str) == "tokens") = false := by decide +kernel
theorem nL4 : (("row_number" : Str) == "row_number") = true := by decide +kernel
theorem nL5 : (("tokens" : Str) == "tokens") = true := by decide +kernel
theorem nL6 : (("taken" : Str) == "taken") = true := by decide +kernel
section
variable {S : Store} {l tl k : Nat} {r : Int} {Q : D → Store → Prop} {QU : Unit → Store → Prop}
theorem wL_row (h : S[l]? = some (lineO r tl k)) : wq (fldD "Line" "row_number" (.ref l)) Q S = Q (.int r) S := w_fld h (by rw [List.lookup_cons, nL4])
theorem wL_tok (h : S[l]? = some (lineO r tl k)) : wq (fldD "Line" "tokens" (.ref l)) Q S = Q (.ref tl) S := w_fld h (by rw [List.lookup_cons, nL1]; dsimp only; rw [List.lookup_cons, nL5])
theorem wL_tak (h : S[l]? = some (lineO r tl k)) : wq (fldD "Line" "taken" (.ref l)) Q S = Q (.int k) S := w_fld h (by rw [List.lookup_cons, nL2]; dsimp only; rw [List.lookup_cons, nL3]; dsimp only; rw [List.lookup_cons, nL6])
/-- the names of the methods -/
def mths : List Str := ["kind_here", "value_here", "refuse", "refuse_at", "take", "take_one", "take_signed", "close"]
theorem nL7 : ∀ m ∈ mths, (m == "row_number") = false ∧ (m == "tokens") = false ∧ (m == "taken") = false := by decide +kernel
theorem wL_isO' {m : Str} (h : S[l]? = some (lineO r tl k)) (hm : m ∈ mths) : wq (isO "Line" m (.ref l)) QU S = QU () S := by
  obtain ⟨h1, h2, h3⟩ := nL7 m hm
  refine w_isO h ?_
  rw [List.lookup_cons, h1]; dsimp only; rw [List.lookup_cons, h2]; dsimp only; rw [List.lookup_cons, h3]; rfl
theorem nL8 : ("kind_here" : Str) ∈ mths ∧ ("value_here" : Str) ∈ mths ∧ ("refuse" : Str) ∈ mths ∧ ("take" : Str) ∈ mths ∧ ("take_one" : Str) ∈ mths ∧ ("take_signed" : Str) ∈ mths ∧ ("close" : Str) ∈ mths := by decide +kernel
theorem nO1 : ("row_number" : Str) = "tokens" ↔ False := by decide +kernel
theorem wL_setT {j : Int} (h : S[l]? = some (lineO r tl k)) : wq (setfD "Line" "taken" (.ref l) (.int j)) QU S = QU () (S.set l (.obj "Line" [("row_number", .int r), ("tokens", .ref tl), ("taken", .int j)])) := by
  have hz : [(("row_number" : Str), D.int r), (("tokens" : Str), D.ref tl), (("taken" : Str), D.int k)].length < 1000 := by
    show 3 < 1000
    decide
  rw [w_setf h hz]
  have e : putA "taken" (.int j) [(("row_number" : Str), D.int r), (("tokens" : Str), D.ref tl), (("taken" : Str), D.int k)] = [(("row_number" : Str), D.int r), (("tokens" : Str), D.ref tl), (("taken" : Str), D.int j)] := by
    unfold putA
    rw [if_neg (by decide +kernel)]
    unfold putA
    rw [if_neg (by decide +kernel)]
    unfold putA
    rw [if_pos rfl]
  rw [e]
theorem wL_init {x : D} (h : S[l]? = some (.obj "Line" [])) : wq (setfD "Line" "row_number" (.ref l) x) QU S = QU () (S.set l (.obj "Line" [("row_number", x)])) := by
  rw [w_setf h (by decide)]
  rfl
theorem wL_init2 {x y : D} (h : S[l]? = some (.obj "Line" [("row_number", x)])) : wq (setfD "Line" "tokens" (.ref l) y) QU S = QU () (S.set l (.obj "Line" [("row_number", x), ("tokens", y)])) := by
  have hz : [(("row_number" : Str), x)].length < 1000 := by
    show 1 < 1000
    decide
  rw [w_setf h hz]
  have e : putA "tokens" y [(("row_number" : Str), x)] = [(("row_number" : Str), x), (("tokens" : Str), y)] := by
    unfold putA
    rw [if_neg (by decide +kernel)]
    rfl
  rw [e]
theorem wL_init3 {x y z : D} (h : S[l]? = some (.obj "Line" [("row_number", x), ("tokens", y)])) : wq (setfD "Line" "taken" (.ref l) z) QU S = QU () (S.set l (.obj "Line" [("row_number", x), ("tokens", y), ("taken", z)])) := by
  have hz : [(("row_number" : Str), x), (("tokens" : Str), y)].length < 1000 := by
    show 2 < 1000
    decide
  rw [w_setf h hz]
  have e : putA "taken" z [(("row_number" : Str), x), (("tokens" : Str), y)] = [(("row_number" : Str), x), (("tokens" : Str), y), (("taken" : Str), z)] := by
    unfold putA
    rw [if_neg (by decide +kernel)]
    unfold putA
    rw [if_neg (by decide +kernel)]
    rfl
  rw [e]
end

/-! ### tokens as data -/
def kc : Tk → List Nat
  | .sg c => [c]
  | .wd _ => [119, 111, 114, 100]
  | .nm _ => [110, 117, 109, 98, 101, 114]
  | .en => [101, 110, 100]
  | .bd => []
def vlD : Tk → D
  | .sg c => .str (tS [c])
  | .wd x => .str (tS x)
  | .nm n => .int n
  | _ => .int 0
def tokD (p : Nat × Tk) : D := .tup [.int p.1, .str (tS (kc p.2)), vlD p.2]
def isWd : Tk → Bool | .wd _ => true | _ => false
def isNm : Tk → Bool | .nm _ => true | _ => false
theorem kc_sg {t : Tk} {c : Nat} : (kc t = [c]) = (t = .sg c) := by cases t <;> simp [kc]
theorem kc_wd {t : Tk} (h : ∀ c, t = .sg c → isS c = true) : (kc t = [119, 111, 114, 100]) = (isWd t = true) := by cases t <;> simp [kc, isWd]
theorem kc_nm {t : Tk} : (kc t = [110, 117, 109, 98, 101, 114]) = (isNm t = true) := by cases t <;> simp [kc, isNm]
theorem kc_wd' {t : Tk} : (kc t = [119, 111, 114, 100]) = (isWd t = true) := by cases t <;> simp [kc, isWd]
theorem kc_en {t : Tk} : (kc t = [101, 110, 100]) = (t = .en) := by cases t <;> simp [kc]
theorem kc_bd {t : Tk} : (kc t = []) = (t = .bd) := by cases t <;> simp [kc]
/-- what a token of a text is like -/
def tg : Tk → Prop
  | .sg c => isS c = true
  | .wd x => x ≠ [] ∧ ∀ c ∈ x, isA c = true
  | _ => True
theorem isS_lt {c : Nat} (h : isS c = true) : c < 1000 := by
  have : ∀ c ∈ sgs, c < 1000 := by decide
  exact this c (isS_iff.mp h)
theorem isA_lt {c : Nat} (h : isA c = true) : c < 1000 := by have := isA_iff.mp h; omega
theorem ok_kc {t : Tk} (h : tg t) : PyData.canLay0 (.str (tS (kc t))) = true := by
  cases t with
  | sg c => exact tS_ok fun d hd => by rw [show kc (.sg c) = [c] from rfl, List.mem_singleton] at hd; subst hd; have := isS_lt h; omega
  | wd x => show PyData.canLay0 (.str (tS [119, 111, 114, 100])) = true; decide +kernel
  | nm x => show PyData.canLay0 (.str (tS [110, 117, 109, 98, 101, 114])) = true; decide +kernel
  | en => decide +kernel
  | bd => decide +kernel
theorem lexF_tg : ∀ (n : Nat) (l : List Nat) (i : Nat), ∀ p ∈ lexF n l i, tg p.2
  | 0, _, _, p, hp => by unfold lexF at hp; rw [List.mem_singleton] at hp; subst hp; trivial
  | n + 1, [], i, p, hp => by unfold lexF at hp; rw [List.mem_singleton] at hp; subst hp; trivial
  | n + 1, c :: r, i, p, hp => by
    unfold lexF at hp
    by_cases h1 : isS c = true
    · rw [if_pos h1] at hp
      rcases List.mem_cons.mp hp with rfl | hp
      · exact h1
      · exact lexF_tg n _ _ p hp
    · rw [if_neg h1] at hp
      by_cases h2 : isA c = true
      · rw [if_pos h2] at hp
        rcases List.mem_cons.mp hp with rfl | hp
        · refine ⟨by simp, fun d hd => ?_⟩
          rcases List.mem_cons.mp hd with rfl | hd
          · exact h2
          · have tw : ∀ (l : List Nat), d ∈ l.takeWhile isA → isA d = true := fun l => by
              induction l with
              | nil => intro h; simp at h
              | cons x l ih =>
                intro h
                rw [List.takeWhile_cons] at h
                cases hx : isA x with
                | false => rw [hx] at h; simp at h
                | true =>
                  rw [hx] at h
                  rcases List.mem_cons.mp h with rfl | h
                  · exact hx
                  · exact ih h
            exact tw r hd
        · exact lexF_tg n _ _ p hp
      · rw [if_neg h2] at hp
        by_cases h3 : isD c = true
        · rw [if_pos h3] at hp
          split at hp
          · rw [List.mem_singleton] at hp; subst hp; trivial
          · rcases List.mem_cons.mp hp with rfl | hp
            · trivial
            · exact lexF_tg n _ _ p hp
        · rw [if_neg h3, List.mem_singleton] at hp; subst hp; trivial
theorem lexI_tg (l : List Nat) (i : Nat) : ∀ p ∈ lexI l i, tg p.2 := lexF_tg _ _ _
/-- a number that the machine reads -/
def sm : Tk → Prop
  | .nm n => n < 10 ^ 640
  | _ => True
theorem sp_eq : (fun c => decide (c ∈ [32])) = isSp := by
  funext c
  unfold isSp
  simp only [List.mem_singleton]
  cases h : c == 32 with
  | true => rw [eq_of_beq h]; rfl
  | false => exact decide_eq_false (by simpa using h)
theorem cutS_nat (a : List Nat) {i e : Nat} (h : i ≤ e) (he : e ≤ a.length) : (a.drop (HT.sIx a.length 0 (some (i : Int)))).take (HT.sIx a.length a.length (some (e : Int)) - HT.sIx a.length 0 (some (i : Int))) = (a.drop i).take (e - i) := by
  rw [HT.sIx_nat, HT.sIx_nat, Nat.min_eq_left he, Nat.min_eq_left (Nat.le_trans h he)]
theorem take_tw (p : Nat → Bool) : ∀ l : List Nat, l.take (l.takeWhile p).length = l.takeWhile p
  | [] => rfl
  | c :: l => by
    rw [List.takeWhile_cons]
    cases p c with
    | true =>
      show (c :: l).take ((l.takeWhile p).length + 1) = c :: l.takeWhile p
      rw [List.take_succ_cons, take_tw p l]
    | false => rfl
theorem tw_len (p : Nat → Bool) (l : List Nat) : (l.takeWhile p).length ≤ l.length := (List.takeWhile_sublist _).length_le
theorem tw_all (p : Nat → Bool) : ∀ (l : List Nat), ∀ c ∈ l.takeWhile p, p c = true
  | [], c, h => by simp at h
  | x :: l, c, h => by
    rw [List.takeWhile_cons] at h
    cases hx : p x with
    | false => rw [hx] at h; simp at h
    | true =>
      rw [hx] at h
      rcases List.mem_cons.mp h with rfl | h
      · exact hx
      · exact tw_all p l c h
/-- a line at a place of its tokens -/
structure LN (S : Store) (l tl : Nat) (r : Int) (ts : List (Nat × Tk)) (k : Nat) : Prop where
  ok : ∀ p ∈ ts, tg p.2
  lo : S[l]? = some (lineO r tl k)
  tk : S[tl]? = some (.lst (ts.map tokD))
section
variable {S S' : Store} {l tl : Nat} {r : Int} {ts : List (Nat × Tk)} {k : Nat} {L : List Nat}
theorem LN.fr (h : LN S l tl r ts k) (f : Fr L S S') (h1 : l ∉ L) (h2 : tl ∉ L) : LN S' l tl r ts k := ⟨h.ok, f.get _ _ h1 h.lo, f.get _ _ h2 h.tk⟩
theorem LN.fr0 (h : LN S l tl r ts k) (f : Fr [] S S') : LN S' l tl r ts k := h.fr f (by simp) (by simp)
theorem LN.ne (h : LN S l tl r ts k) : tl ≠ l := fun e => by
  have := h.tk
  rw [e, h.lo] at this
  cases this
theorem LN.set (h : LN S l tl r ts k) (j : Nat) : LN (S.set l (lineO r tl j)) l tl r ts j := ⟨h.ok, get_set h.lo, by rw [List.getElem?_set_ne h.ne.symm]; exact h.tk⟩
theorem LN.okc (h : LN S l tl r ts k) {p : Nat × Tk} {j : Nat} (e : ts[j]? = some p) : PyData.canLay0 (.str (tS (kc p.2))) = true := ok_kc (h.ok p (List.mem_of_getElem? e))
end
theorem atI_tok {ts : List (Nat × Tk)} {k : Nat} {p : Nat × Tk} (h : ts[k]? = some p) : atI (ts.map tokD) (k : Int) = some (.tup [.int p.1, .str (tS (kc p.2)), vlD p.2]) := atI_map (e := tokD) h
end Dl
end

section
set_option Elab.async false
set_option linter.all false
set_option maxRecDepth 100000
/-! Dl: nested tuples as texts, in plain Lean. -/
namespace Dl
open PySem PySem.Spec PyProof.Rows L2
def wNone : List Nat := [110, 111, 110, 101]
/-! ### texts of things -/
mutual
def pt : D → List Nat
  | .non => wNone
  | .int i => dgI i
  | .str x => x.cps.toList
  | .tup ds => 40 :: (ptj ds ++ [41])
  | _ => []
def ptj : List D → List Nat
  | [] => []
  | d :: ds => pt d ++ ptk ds
/-- what stands behind the first one -/
def ptk : List D → List Nat
  | [] => []
  | d :: ds => 44 :: 32 :: (pt d ++ ptk ds)
end
/-- a word that is a thing -/
def wOk (x : List Nat) : Prop := x ≠ [] ∧ (∀ c ∈ x, isA c = true) ∧ x ≠ wNone ∧ x.length ≤ 1000
mutual
def pg : D → Prop
  | .non => True
  | .int i => i.natAbs < 10 ^ 50
  | .str x => wOk x.cps.toList
  | .tup ds => pgs ds
  | _ => False
def pgs : List D → Prop
  | [] => True
  | d :: ds => pg d ∧ pgs ds
end
theorem pgs_mem {ds : List D} (h : pgs ds) : ∀ d ∈ ds, pg d := by
  induction ds with
  | nil => intro d hd; cases hd
  | cons e ds ih =>
    intro d hd
    rcases List.mem_cons.mp hd with rfl | hd
    · exact h.1
    · exact ih h.2 d hd
/-- a word or none -/
def wTk (x : List Nat) : D := if x = wNone then .non else .str (tS x)
mutual
/-- the tokens, each with the spaces ahead -/
def pk (g : Nat) : D → List (Nat × Tk)
  | .non => [(g, .wd wNone)]
  | .int i => if i < 0 then [(g, .sg 45), (0, .nm i.natAbs)] else [(g, .nm i.natAbs)]
  | .str x => [(g, .wd x.cps.toList)]
  | .tup ds => (g, .sg 40) :: (pkj ds ++ [(0, .sg 41)])
  | _ => []
def pkj : List D → List (Nat × Tk)
  | [] => []
  | d :: ds => pk 0 d ++ pkk ds
def pkk : List D → List (Nat × Tk)
  | [] => []
  | d :: ds => (0, .sg 44) :: (pk 1 d ++ pkk ds)
end
mutual
def tks : D → List Tk
  | .non => [.wd wNone]
  | .int i => if i < 0 then [.sg 45, .nm i.natAbs] else [.nm i.natAbs]
  | .str x => [.wd x.cps.toList]
  | .tup ds => .sg 40 :: (tkj ds ++ [.sg 41])
  | _ => []
def tkj : List D → List Tk
  | [] => []
  | d :: ds => tks d ++ tkk ds
def tkk : List D → List Tk
  | [] => []
  | d :: ds => .sg 44 :: (tks d ++ tkk ds)
end
mutual
theorem pk_tks (g : Nat) : ∀ d : D, (pk g d).map (·.2) = tks d
  | .non => rfl
  | .int i => by simp only [pk, tks]; split <;> rfl
  | .str x => rfl
  | .tup ds => by simp only [pk, tks, List.map_cons, List.map_append, pkj_tkj ds, List.map_nil]
  | .bl _ => rfl
  | .ref _ => rfl
  | .ro _ => rfl
  | .fn _ => rfl
theorem pkj_tkj : ∀ ds : List D, (pkj ds).map (·.2) = tkj ds
  | [] => rfl
  | d :: ds => by simp only [pkj, tkj, List.map_append, pk_tks 0 d, pkk_tkk ds]
theorem pkk_tkk : ∀ ds : List D, (pkk ds).map (·.2) = tkk ds
  | [] => rfl
  | d :: ds => by simp only [pkk, tkk, List.map_cons, List.map_append, pk_tks 1 d, pkk_tkk ds]
end
theorem spr_app : ∀ (a b : List (Nat × Tk)) (k : Nat), spr (a ++ b) k = spr a 0 ++ spr b k
  | [], b, k => rfl
  | (g, t) :: a, b, k => by
    show List.replicate g 32 ++ (tx t ++ spr (a ++ b) k) = (List.replicate g 32 ++ (tx t ++ spr a 0)) ++ spr b k
    rw [spr_app a b k]
    simp only [List.append_assoc]
mutual
theorem spr_pk (g : Nat) : ∀ d : D, pg d → spr (pk g d) 0 = List.replicate g 32 ++ pt d
  | .non, _ => by simp only [pk, spr, pt, tx]; simp
  | .int i, _ => by
    simp only [pk, pt, dgI]
    split <;> simp [spr, tx]
  | .str x, _ => by simp only [pk, spr, pt, tx]; simp
  | .tup ds, h => by
    simp only [pk, pt, spr, tx]
    rw [spr_app, spr_pkj ds (by simpa [pg] using h)]
    simp [spr, tx]
  | .bl _, h => by simp [pg] at h
  | .ref _, h => by simp [pg] at h
  | .ro _, h => by simp [pg] at h
  | .fn _, h => by simp [pg] at h
theorem spr_pkj : ∀ ds : List D, pgs ds → spr (pkj ds) 0 = ptj ds
  | [], _ => rfl
  | d :: ds, h => by
    simp only [pkj, ptj]
    rw [spr_app, spr_pk 0 d h.1, spr_pkk ds h.2]
    rfl
theorem spr_pkk : ∀ ds : List D, pgs ds → spr (pkk ds) 0 = ptk ds
  | [], _ => rfl
  | d :: ds, h => by
    simp only [pkk, ptk, spr, tx]
    rw [spr_app, spr_pk 1 d h.1, spr_pkk ds h.2]
    rfl
end
theorem sprOk_app : ∀ {a b : List (Nat × Tk)}, sprOk a → sprOk b → (∀ p ∈ a.getLast?, ∀ q ∈ b.head?, near2 p.2 q.2 → 0 < q.1) → sprOk (a ++ b)
  | [], b, _, h, _ => h
  | (g, t) :: a, b, h1, h2, h3 => by
    obtain ⟨k1, k2, k3⟩ := h1
    rw [List.cons_append]
    refine ⟨k1, ?_, sprOk_app k3 h2 fun p hp q hq => ?_⟩
    · cases a with
      | nil =>
        rw [List.nil_append]
        cases b with
        | nil => trivial
        | cons q b => exact h3 (g, t) (by simp) q (by simp)
      | cons q a => exact k2
    · refine h3 p ?_ q hq
      cases a with
      | nil => simp at hp
      | cons q' a => rw [List.getLast?_cons_cons]; exact hp
theorem near_sg {c : Nat} {t : Tk} : ¬ near2 t (.sg c) := by cases t <;> exact fun h => h
theorem sg_near {c : Nat} {t : Tk} : ¬ near2 (.sg c) t := by cases t <;> exact fun h => h
theorem isA_none : ∀ c ∈ wNone, isA c = true := by decide
mutual
theorem sprOk_pk (g : Nat) : ∀ d : D, pg d → sprOk (pk g d)
  | .non, _ => ⟨⟨by decide, isA_none⟩, trivial, trivial⟩
  | .int i, _ => by
    simp only [pk]
    split
    · exact ⟨show isS 45 = true by decide, fun z => absurd z sg_near, trivial, trivial, trivial⟩
    · exact ⟨trivial, trivial, trivial⟩
  | .str x, h => by
    have h : wOk x.cps.toList := by simpa [pg] using h
    exact ⟨⟨h.1, h.2.1⟩, trivial, trivial⟩
  | .tup ds, h => by
    simp only [pk]
    have := sprOk_app (sprOk_pkj ds (by simpa [pg] using h)) (b := [(0, .sg 41)]) ⟨show isS 41 = true by decide, trivial, trivial⟩ fun p _ q hq z => by
      simp only [List.head?_cons, Option.mem_def, Option.some.injEq] at hq
      subst hq
      exact absurd z near_sg
    refine ⟨show isS 40 = true by decide, ?_, this⟩
    split
    · exact fun z => absurd z sg_near
    · trivial
  | .bl _, h => by simp [pg] at h
  | .ref _, h => by simp [pg] at h
  | .ro _, h => by simp [pg] at h
  | .fn _, h => by simp [pg] at h
theorem sprOk_pkj : ∀ ds : List D, pgs ds → sprOk (pkj ds)
  | [], _ => trivial
  | d :: ds, h => by
    simp only [pkj]
    refine sprOk_app (sprOk_pk 0 d h.1) (sprOk_pkk ds h.2) fun p _ q hq z => ?_
    cases ds with
    | nil => simp [pkk] at hq
    | cons e ds =>
      simp only [pkk, List.head?_cons, Option.mem_def, Option.some.injEq] at hq
      subst hq
      exact absurd z near_sg
theorem sprOk_pkk : ∀ ds : List D, pgs ds → sprOk (pkk ds)
  | [], _ => trivial
  | d :: ds, h => by
    simp only [pkk]
    have h2 := sprOk_app (sprOk_pk 1 d h.1) (sprOk_pkk ds h.2) fun p _ q hq z => by
      cases ds with
      | nil => simp [pkk] at hq
      | cons e ds =>
        simp only [pkk, List.head?_cons, Option.mem_def, Option.some.injEq] at hq
        subst hq
        exact absurd z near_sg
    refine ⟨show isS 44 = true by decide, ?_, h2⟩
    split
    · exact fun z => absurd z sg_near
    · trivial
end
/-- the tokens of a thing's text -/
theorem lex_pt {d : D} (h : pg d) : (lexA (pt d)).map (·.2) = tks d ++ [.en] := by
  have := lex_spr (pk 0 d) 0 0 (sprOk_pk 0 d h)
  rw [spr_pk 0 d h, List.replicate_zero, List.nil_append, pk_tks] at this
  exact this
/-! ### reading -/
inductive RdR where
  | ok (d : D) | er (i : Nat)
  deriving DecidableEq
/-- at a thing's beginning; just behind ( ; behind - ; behind a thing -/
inductive RdS where
  | h | o | m | a (d : D)
def stpH (t : Tk) (i : Nat) (lv : List (List D)) : (RdS × List (List D)) ⊕ RdR := match t with
  | .nm n => .inl (.a (.int n), lv)
  | .wd x => .inl (.a (wTk x), lv)
  | .sg c => if c = 40 then .inl (.o, [] :: lv) else if c = 45 then .inl (.m, lv) else .inr (.er i)
  | _ => .inr (.er i)
/-- one token; the open tuples, the innermost first -/
def stp (t : Tk) (i : Nat) (lv : List (List D)) : RdS → (RdS × List (List D)) ⊕ RdR
  | .h => stpH t i lv
  | .o => if t = .sg 41 then .inl (.a (.tup []), lv.tail) else stpH t i lv
  | .m => match t with
    | .nm n => if n = 0 then .inr (.er i) else .inl (.a (.int (-n)), lv)
    | _ => .inr (.er i)
  | .a d => match lv with
    | [] => if t = .en then .inr (.ok d) else .inr (.er i)
    | top :: lv => if t = .sg 44 then .inl (.h, (top ++ [d]) :: lv) else if t = .sg 41 then .inl (.a (.tup (top ++ [d])), lv) else .inr (.er i)
def rd : List (Nat × Tk) → RdS → List (List D) → RdR
  | [], _, _ => .er 0
  | (i, t) :: ts, s, lv => match stp t i lv s with
    | .inl (s', lv') => rd ts s' lv'
    | .inr r => r
theorem rd_cons {i : Nat} {t : Tk} {ts : List (Nat × Tk)} {s : RdS} {lv : List (List D)} : rd ((i, t) :: ts) s lv = match stp t i lv s with
    | .inl (s', lv') => rd ts s' lv'
    | .inr r => r := rfl
theorem rd_o {i : Nat} {t : Tk} {ts : List (Nat × Tk)} {lv : List (List D)} (h : t ≠ .sg 41) : rd ((i, t) :: ts) .o lv = rd ((i, t) :: ts) .h lv := by
  rw [rd_cons, rd_cons]
  show (match (if t = .sg 41 then _ else stpH t i lv) with | .inl (s', lv') => rd ts s' lv' | .inr r => r) = _
  rw [if_neg h]
  rfl
/-- tokens whose kinds and values are these -/
theorem map_cons_inv {ts : List (Nat × Tk)} {t : Tk} {r : List Tk} (h : ts.map (·.2) = t :: r) : ∃ i ts', ts = (i, t) :: ts' ∧ ts'.map (·.2) = r := by
  cases ts with
  | nil => cases h
  | cons p ts =>
    obtain ⟨i, u⟩ := p
    simp only [List.map_cons, List.cons.injEq] at h
    exact ⟨i, ts, by rw [h.1], h.2⟩
theorem tS_self (x : Str) : tS x.cps.toList = x := (tS_of x).symm
theorem tks_head : ∀ (d : D), pg d → ∃ u us, tks d = u :: us ∧ u ≠ .sg 41
  | .non, _ => ⟨_, _, rfl, by simp⟩
  | .int i, _ => by
    simp only [tks]
    split
    · exact ⟨_, _, rfl, by simp⟩
    · exact ⟨_, _, rfl, by simp⟩
  | .str x, _ => ⟨_, _, rfl, by simp⟩
  | .tup ds, _ => ⟨_, _, rfl, by simp⟩
  | .bl _, h => by simp [pg] at h
  | .ref _, h => by simp [pg] at h
  | .ro _, h => by simp [pg] at h
  | .fn _, h => by simp [pg] at h
mutual
theorem rd_tks : ∀ (d : D), pg d → ∀ (ts : List (Nat × Tk)) (r : List Tk) (lv : List (List D)), ts.map (·.2) = tks d ++ r → ∃ ts', ts'.map (·.2) = r ∧ rd ts .h lv = rd ts' (.a d) lv
  | .non, _, ts, r, lv, h => by
    obtain ⟨i, ts', e1, h'⟩ := map_cons_inv (show ts.map (·.2) = .wd wNone :: r from h)
    subst e1
    exact ⟨ts', h', by rw [rd_cons]; simp only [stp, stpH, wTk, if_true]⟩
  | .int i, _, ts, r, lv, h => by
    simp only [tks] at h
    by_cases hi : i < 0
    · rw [if_pos hi] at h
      obtain ⟨i1, ts1, e1, h1⟩ := map_cons_inv (show ts.map (·.2) = .sg 45 :: (.nm i.natAbs :: r) from h)
      obtain ⟨i2, ts2, e2, h2⟩ := map_cons_inv h1
      subst e2
      subst e1
      refine ⟨ts2, h2, ?_⟩
      have hn : ¬ i.natAbs = 0 := by omega
      rw [rd_cons]
      show rd ((i2, .nm i.natAbs) :: ts2) .m lv = _
      rw [rd_cons]
      simp only [stp, if_neg hn]
      rw [show (-(i.natAbs : Int)) = i by omega]
    · rw [if_neg hi] at h
      obtain ⟨i1, ts1, e1, h1⟩ := map_cons_inv (show ts.map (·.2) = .nm i.natAbs :: r from h)
      subst e1
      refine ⟨ts1, h1, ?_⟩
      rw [rd_cons]
      simp only [stp, stpH]
      rw [show ((i.natAbs : Nat) : Int) = i by omega]
  | .str x, hp, ts, r, lv, h => by
    have hp : wOk x.cps.toList := by simpa [pg] using hp
    obtain ⟨i1, ts1, e1, h1⟩ := map_cons_inv (show ts.map (·.2) = .wd x.cps.toList :: r from h)
    subst e1
    refine ⟨ts1, h1, ?_⟩
    rw [rd_cons]
    simp only [stp, stpH, wTk]
    rw [if_neg hp.2.2.1, tS_self]
  | .tup ds, hp, ts, r, lv, h => by
    have hp : pgs ds := by simpa [pg] using hp
    simp only [tks, List.cons_append, List.append_assoc, List.nil_append] at h
    obtain ⟨i1, ts1, e1, h1⟩ := map_cons_inv h
    subst e1
    cases ds with
    | nil =>
      simp only [tkj, List.nil_append] at h1
      obtain ⟨i2, ts2, e2, h2⟩ := map_cons_inv h1
      subst e2
      exact ⟨ts2, h2, rfl⟩
    | cons d ds =>
      simp only [tkj, List.append_assoc] at h1
      have e0 : rd ((i1, .sg 40) :: ts1) .h lv = rd ts1 .h ([] :: lv) := by
        obtain ⟨u, us, e2, hu⟩ := tks_head d hp.1
        rw [e2] at h1
        obtain ⟨j, ts2, e3, _⟩ := map_cons_inv (show ts1.map (·.2) = u :: (us ++ (tkk ds ++ Tk.sg 41 :: r)) from h1)
        subst e3
        rw [rd_cons]
        exact rd_o hu
      obtain ⟨ts2, h2, e2⟩ := rd_tks d hp.1 ts1 _ ([] :: lv) h1
      obtain ⟨ts3, h3, e3⟩ := rd_tkk ds hp.2 ts2 r lv [] d h2
      exact ⟨ts3, h3, by rw [e0, e2, e3]; rfl⟩
  | .bl _, h, _, _, _, _ => by simp [pg] at h
  | .ref _, h, _, _, _, _ => by simp [pg] at h
  | .ro _, h, _, _, _, _ => by simp [pg] at h
  | .fn _, h, _, _, _, _ => by simp [pg] at h
theorem rd_tkk : ∀ (ds : List D), pgs ds → ∀ (ts : List (Nat × Tk)) (r : List Tk) (lv : List (List D)) (top : List D) (d : D), ts.map (·.2) = tkk ds ++ (.sg 41 :: r) → ∃ ts', ts'.map (·.2) = r ∧ rd ts (.a d) (top :: lv) = rd ts' (.a (.tup (top ++ d :: ds))) lv
  | [], _, ts, r, lv, top, d, h => by
    obtain ⟨i1, ts1, e1, h1⟩ := map_cons_inv (show ts.map (·.2) = .sg 41 :: r from h)
    subst e1
    exact ⟨ts1, h1, rfl⟩
  | e :: ds, hp, ts, r, lv, top, d, h => by
    simp only [tkk, List.cons_append, List.append_assoc] at h
    obtain ⟨i1, ts1, e1, h1⟩ := map_cons_inv h
    subst e1
    obtain ⟨ts2, h2, e2⟩ := rd_tks e hp.1 ts1 _ ((top ++ [d]) :: lv) h1
    obtain ⟨ts3, h3, e3⟩ := rd_tkk ds hp.2 ts2 r lv (top ++ [d]) e h2
    refine ⟨ts3, h3, ?_⟩
    rw [rd_cons]
    show rd ts1 .h ((top ++ [d]) :: lv) = _
    rw [e2, e3, List.append_assoc]
    rfl
end
theorem rd_ok {d : D} (h : pg d) {ts : List (Nat × Tk)} (e : ts.map (·.2) = tks d ++ [.en]) : rd ts .h [] = .ok d := by
  obtain ⟨ts', h1, h2⟩ := rd_tks d h ts [.en] [] e
  obtain ⟨i, ts2, e1, h3⟩ := map_cons_inv h1
  subst e1
  rw [h2]
  rfl
end Dl
end

section
set_option Elab.async false
set_option linter.all false
set_option maxRecDepth 100000
/-! Dl: writing things, in plain Lean. -/
namespace Dl
open PySem PySem.Spec PyProof.Rows L2
/-! ### the writer's stack, the top first -/
abbrev WI := D × List Nat × Bool
def itT : WI → List Nat
  | (d, z, false) => pt d ++ z
  | (_, z, true) => 41 :: z
def itD : WI → D
  | (d, z, false) => .tup [d, .str (tS z)]
  | (_, z, true) => .tup [.non, .str (tS (41 :: z))]
def stT : List WI → List Nat
  | [] => []
  | w :: ws => itT w ++ stT ws
mutual
def wt : D → Nat
  | .tup ds => wts ds + 2
  | _ => 1
def wts : List D → Nat
  | [] => 0
  | d :: ds => wt d + wts ds
end
def itW : WI → Nat
  | (d, _, false) => wt d
  | (_, _, true) => 1
def stW : List WI → Nat
  | [] => 0
  | w :: ws => itW w + stW ws
/-- what may stand behind a thing -/
def tlOk (z : List Nat) : Prop := z = [] ∨ z = [44, 32]
def itOk (w : WI) : Prop := pg w.1 ∧ tlOk w.2.1
theorem wt_pos : ∀ d : D, 0 < wt d
  | .tup ds => by simp only [wt]; omega
  | .non => Nat.one_pos
  | .int _ => Nat.one_pos
  | .str _ => Nat.one_pos
  | .bl _ => Nat.one_pos
  | .ref _ => Nat.one_pos
  | .ro _ => Nat.one_pos
  | .fn _ => Nat.one_pos
theorem itW_pos (w : WI) : 0 < itW w := by
  obtain ⟨d, z, b⟩ := w
  cases b
  · exact wt_pos d
  · exact Nat.one_pos
theorem st_len : ∀ ws : List WI, ws.length ≤ stW ws
  | [] => Nat.le_refl _
  | w :: ws => by
    have := st_len ws
    have := itW_pos w
    simp only [List.length_cons, stW]
    omega
def chl : List D → List WI
  | [] => []
  | [d] => [(d, [], false)]
  | d :: e :: r => (d, [44, 32], false) :: chl (e :: r)
theorem chl_len : ∀ ds : List D, (chl ds).length = ds.length
  | [] => rfl
  | [d] => rfl
  | d :: e :: r => by rw [chl, List.length_cons, chl_len (e :: r)]; rfl
theorem chl_get : ∀ (ds : List D) (i : Nat) (d : D), ds[i]? = some d → (chl ds)[i]? = some (d, if i + 1 < ds.length then [44, 32] else [], false)
  | [], i, d, h => by simp at h
  | [x], 0, d, h => by
    simp only [List.getElem?_cons_zero, Option.some.injEq] at h
    subst h
    rfl
  | [x], i + 1, d, h => by simp at h
  | x :: e :: r, 0, d, h => by
    simp only [List.getElem?_cons_zero, Option.some.injEq] at h
    subst h
    rw [if_pos (by simp)]
    rfl
  | x :: e :: r, i + 1, d, h => by
    rw [List.getElem?_cons_succ] at h
    have := chl_get (e :: r) i d h
    rw [chl, List.getElem?_cons_succ, this]
    by_cases k : i + 1 < (e :: r).length
    · rw [if_pos k, if_pos (by simp only [List.length_cons] at k ⊢; omega)]
    · rw [if_neg k, if_neg (by simp only [List.length_cons] at k ⊢; omega)]
theorem chl_T : ∀ (ds : List D) (ws : List WI), stT (chl ds ++ ws) = ptj ds ++ stT ws
  | [], ws => rfl
  | [d], ws => by
    show (pt d ++ []) ++ stT ws = (pt d ++ ptk []) ++ stT ws
    rfl
  | d :: e :: r, ws => by
    show (pt d ++ [44, 32]) ++ stT (chl (e :: r) ++ ws) = (pt d ++ ptk (e :: r)) ++ stT ws
    rw [chl_T (e :: r) ws]
    simp [ptj, ptk]
theorem chl_W : ∀ (ds : List D) (ws : List WI), stW (chl ds ++ ws) = wts ds + stW ws
  | [], ws => by simp [chl, wts]
  | [d], ws => by
    show wt d + stW ws = (wt d + 0) + stW ws
    rfl
  | d :: e :: r, ws => by
    show wt d + stW (chl (e :: r) ++ ws) = (wt d + wts (e :: r)) + stW ws
    rw [chl_W (e :: r) ws]
    omega
theorem chl_ok : ∀ ds : List D, pgs ds → ∀ w ∈ chl ds, itOk w
  | [], _, w, h => by cases h
  | [d], p, w, h => by
    simp only [chl, List.mem_singleton] at h
    subst h
    exact ⟨p.1, .inl rfl⟩
  | d :: e :: r, p, w, h => by
    rw [chl] at h
    rcases List.mem_cons.mp h with rfl | h
    · exact ⟨p.1, .inr rfl⟩
    · exact chl_ok (e :: r) p.2 w h
/-- a leaf -/
def lf : D → Prop | .tup _ => False | _ => True
/-! ### sizes -/
theorem szl {n : Nat} (h : n ≤ 900000) : n < sizeLine := Nat.lt_of_le_of_lt h (by decide)
theorem pt_pos : ∀ d : D, pg d → 0 < (pt d).length
  | .non, _ => by decide
  | .int i, _ => by
    have := List.length_pos_iff.mpr (dg_ne i.natAbs)
    simp only [pt, dgI]
    split
    · simp
    · exact this
  | .str x, h => by
    have h : wOk x.cps.toList := by simpa [pg] using h
    exact List.length_pos_iff.mpr h.1
  | .tup ds, _ => by simp [pt]
  | .bl _, h => by simp [pg] at h
  | .ref _, h => by simp [pg] at h
  | .ro _, h => by simp [pg] at h
  | .fn _, h => by simp [pg] at h
mutual
theorem wt_le : ∀ d : D, pg d → wt d ≤ (pt d).length
  | .non, h => pt_pos _ h
  | .int i, h => pt_pos _ h
  | .str x, h => pt_pos _ h
  | .tup ds, h => by
    have := wts_j ds (by simpa [pg] using h)
    simp only [wt, pt, List.length_cons, List.length_append, List.length_nil]
    omega
  | .bl _, h => by simp [pg] at h
  | .ref _, h => by simp [pg] at h
  | .ro _, h => by simp [pg] at h
  | .fn _, h => by simp [pg] at h
theorem wts_j : ∀ ds : List D, pgs ds → wts ds ≤ (ptj ds).length
  | [], _ => Nat.le_refl _
  | d :: ds, h => by
    have := wt_le d h.1
    have := wts_k ds h.2
    simp only [wts, ptj, List.length_append]
    omega
theorem wts_k : ∀ ds : List D, pgs ds → wts ds ≤ (ptk ds).length
  | [], _ => Nat.le_refl _
  | d :: ds, h => by
    have := wt_le d h.1
    have := wts_k ds h.2
    simp only [wts, ptk, List.length_cons, List.length_append]
    omega
end
theorem pt_mem {ds : List D} {d : D} (h : d ∈ ds) : (pt d).length ≤ (ptj ds).length ∧ (pt d).length ≤ (ptk ds).length := by
  induction ds with
  | nil => cases h
  | cons e ds ih =>
    rcases List.mem_cons.mp h with rfl | h
    · simp only [ptj, ptk, List.length_cons, List.length_append]; omega
    · have := ih h
      simp only [ptj, ptk, List.length_cons, List.length_append]; omega
theorem dp_mem {ds : List D} {d : D} (h : d ∈ ds) : d.dp ≤ D.dps ds := by
  induction ds with
  | nil => cases h
  | cons e ds ih =>
    simp only [D.dps]
    rcases List.mem_cons.mp h with rfl | h
    · exact Nat.le_max_left _ _
    · exact Nat.le_trans (ih h) (Nat.le_max_right _ _)
theorem jn_pt : ∀ ds : List D, jn [44, 32] (ds.map pt) = ptj ds
  | [] => rfl
  | [d] => by simp [jn, ptj, ptk]
  | d :: e :: r => by
    show pt d ++ ([44, 32] ++ jn [44, 32] ((e :: r).map pt)) = pt d ++ ptk (e :: r)
    rw [jn_pt (e :: r)]
    rfl
theorem ptk_len : ∀ ds : List D, ((ds.map pt).map (·.length)).sum + ds.length * 2 = (ptk ds).length
  | [] => rfl
  | d :: ds => by
    have := ptk_len ds
    simp only [List.map_cons, List.sum_cons, List.length_cons, ptk, List.length_append]
    omega
theorem ptj_len (ds : List D) : ((ds.map pt).map (·.length)).sum + (ds.map pt).length * 2 ≤ (ptj ds).length + 2 := by
  rw [List.length_map, ptk_len]
  cases ds with
  | nil => simp [ptk]
  | cons d ds => simp only [ptk, ptj, List.length_cons, List.length_append]; omega
theorem jn_flat : ∀ ys : List (List Nat), jn [] ys = ys.flatten
  | [] => rfl
  | [x] => by simp [jn]
  | x :: y :: r => by
    show x ++ ([] ++ jn [] (y :: r)) = _
    rw [jn_flat (y :: r)]
    simp
theorem dgI_lt {i : Int} : ∀ c ∈ dgI i, c < 1000 := by
  intro c hc
  unfold dgI at hc
  have h := dg_all i.natAbs
  split at hc
  · rcases List.mem_cons.mp hc with rfl | hc
    · decide
    · have := h c hc; omega
  · have := h c hc; omega
mutual
theorem pt_lt : ∀ d : D, pg d → ∀ c ∈ pt d, c < 1000
  | .non, _ => by decide
  | .int i, _ => dgI_lt
  | .str x, h => fun c hc => isA_lt (h.2.1 c hc)
  | .tup ds, h => fun c hc => by
    simp only [pt, List.mem_cons, List.mem_append, List.not_mem_nil, or_false] at hc
    rcases hc with rfl | hc | rfl
    · decide
    · exact ptj_lt ds (by simpa [pg] using h) c hc
    · decide
  | .bl _, h => by simp [pg] at h
  | .ref _, h => by simp [pg] at h
  | .ro _, h => by simp [pg] at h
  | .fn _, h => by simp [pg] at h
theorem ptj_lt : ∀ ds : List D, pgs ds → ∀ c ∈ ptj ds, c < 1000
  | [], _ => fun c hc => by cases hc
  | d :: ds, h => fun c hc => by
    rcases List.mem_append.mp hc with hc | hc
    · exact pt_lt d h.1 c hc
    · exact ptk_lt ds h.2 c hc
theorem ptk_lt : ∀ ds : List D, pgs ds → ∀ c ∈ ptk ds, c < 1000
  | [], _ => fun c hc => by cases hc
  | d :: ds, h => fun c hc => by
    simp only [ptk, List.mem_cons, List.mem_append] at hc
    rcases hc with rfl | rfl | hc | hc
    · decide
    · decide
    · exact pt_lt d h.1 c hc
    · exact ptk_lt ds h.2 c hc
end
theorem log_50 {i : Int} (h : i.natAbs < 10 ^ 50) : decide (i.natAbs.log2 < 1920) = true :=
  decide_eq_true (Nat.lt_trans (log2_lt (k := 200) (Nat.lt_trans h (by decide)) (by decide)) (by decide))
theorem ok_of {cs : List Nat} (h : ∀ c ∈ cs, c < 1000) : PyData.canLay0 (.str (tS cs)) = true := tS_ok fun c hc => by have := h c hc; omega
end Dl
end

section
set_option Elab.async false
set_option linter.all false
set_option maxRecDepth 100000
/-! Dl: the store while a text of a nested tuple is read. -/
namespace Dl
open PySem PySem.Spec PyProof.Rows L2
def LVs (S : Store) : List Nat → List (List D) → Prop
  | [], [] => True
  | x :: as, d :: lv => S[x]? = some (.lst d) ∧ LVs S as lv
  | _, _ => False
theorem LVs.len {S : Store} : ∀ {as : List Nat} {lv : List (List D)}, LVs S as lv → as.length = lv.length
  | [], [], _ => rfl
  | [], _ :: _, h => h.elim
  | _ :: _, [], h => h.elim
  | x :: as, d :: lv, h => congrArg Nat.succ h.2.len
theorem LVs.keep {S S' : Store} : ∀ {as : List Nat} {lv : List (List D)}, LVs S as lv → (∀ x ∈ as, ∀ o, S[x]? = some o → S'[x]? = some o) → LVs S' as lv
  | [], [], _, _ => trivial
  | [], _ :: _, h, _ => h.elim
  | _ :: _, [], h, _ => h.elim
  | x :: as, d :: lv, h, k => ⟨k x List.mem_cons_self _ h.1, h.2.keep fun y hy => k y (List.mem_cons_of_mem _ hy)⟩
structure RS (S0 S : Store) (l tl a : Nat) (r : Int) (ts : List (Nat × Tk)) (k : Nat) (as : List Nat) (lv : List (List D)) : Prop where
  ln : LN S l tl r ts k
  ls : S[a]? = some (.lst (as.reverse.map .ref))
  it : LVs S as lv
  nd : as.Nodup
  na : a ∉ as
  nl : l ∉ as
  ntl : tl ∉ as
  al : a ≠ l
  atl : a ≠ tl
  fr : Fr [] S0 S
  ge : S0.length ≤ l ∧ S0.length ≤ a ∧ ∀ x ∈ as, S0.length ≤ x
section
variable {S0 S S' : Store} {l tl a k t : Nat} {r : Int} {ts : List (Nat × Tk)} {as : List Nat} {lv : List (List D)} {d : List D}
theorem RS.take (h : RS S0 S l tl a r ts k as lv) {j : Nat} (n : LN S' l tl r ts j) (f : Fr [l] S S') : RS S0 S' l tl a r ts j as lv :=
  ⟨n, f.get _ _ (by simpa using h.al) h.ls, h.it.keep fun x hx o e => f.get _ _ (by rw [List.mem_singleton]; rintro rfl; exact h.nl hx) e, h.nd, h.na, h.nl, h.ntl, h.al, h.atl,
    ⟨Nat.le_trans h.fr.le f.le, fun i o hi e => f.get i o (by rw [List.mem_singleton]; rintro rfl; have := h.ge.1; have := lt_of_get e; omega) (h.fr.get i o hi e)⟩, h.ge⟩
theorem RS.push (h : RS S0 S l tl a r ts k as lv) : RS S0 ((S ++ [Ob.lst []]).set a (Ob.lst (as.reverse.map D.ref ++ [D.ref S.length]))) l tl a r ts k (S.length :: as) ([] :: lv) := by
  have la := lt_of_get h.ls
  have ll := lt_of_get h.ln.lo
  have lt := lt_of_get h.ln.tk
  have las : ∀ x ∈ as, x < S.length := by
    have : ∀ {as : List Nat} {lv : List (List D)}, LVs S as lv → ∀ x ∈ as, x < S.length := by
      intro as
      induction as with
      | nil => intro lv _ x hx; cases hx
      | cons y as ih =>
        intro lv h x hx
        cases lv with
        | nil => exact h.elim
        | cons d lv =>
          rcases List.mem_cons.mp hx with rfl | hx
          · exact lt_of_get h.1
          · exact ih h.2 x hx
    exact this h.it
  have keep : ∀ x, x ≠ a → ∀ o, S[x]? = some o → ((S ++ [Ob.lst []]).set a (Ob.lst (as.reverse.map D.ref ++ [D.ref S.length])))[x]? = some o := fun x hx o e => by
    rw [List.getElem?_set_ne (Ne.symm hx)]
    exact get_app e
  refine ⟨⟨h.ln.ok, keep _ (Ne.symm h.al) _ h.ln.lo, keep _ (Ne.symm h.atl) _ h.ln.tk⟩, ?_, ⟨?_, h.it.keep fun x hx => keep x (by rintro rfl; exact h.na hx)⟩, ?_, ?_, ?_, ?_, h.al, h.atl, ?_, h.ge.1, h.ge.2.1, ?_⟩
  · rw [List.getElem?_set_self (by rw [List.length_append]; omega)]
    simp
  · rw [List.getElem?_set_ne (by omega)]
    exact get_new
  · exact List.nodup_cons.mpr ⟨fun hm => Nat.lt_irrefl _ (las _ hm), h.nd⟩
  · intro hm
    rcases List.mem_cons.mp hm with e | e
    · omega
    · exact h.na e
  · intro hm
    rcases List.mem_cons.mp hm with e | e
    · omega
    · exact h.nl e
  · intro hm
    rcases List.mem_cons.mp hm with e | e
    · omega
    · exact h.ntl e
  · exact (h.fr.new _).set _ (.inr h.ge.2.1)
  · intro x hx
    rcases List.mem_cons.mp hx with rfl | hx
    · exact h.fr.le
    · exact h.ge.2.2 x hx
theorem RS.top (h : RS S0 S l tl a r ts k (t :: as) (d :: lv)) : S[t]? = some (.lst d) := h.it.1
theorem RS.app (h : RS S0 S l tl a r ts k (t :: as) (d :: lv)) (x : D) : RS S0 (S.set t (Ob.lst (d ++ [x]))) l tl a r ts k (t :: as) ((d ++ [x]) :: lv) := by
  have hta : t ≠ a := fun e => h.na (by rw [e]; exact List.mem_cons_self)
  have htl : t ≠ l := fun e => h.nl (by rw [e]; exact List.mem_cons_self)
  have htt : t ≠ tl := fun e => h.ntl (by rw [e]; exact List.mem_cons_self)
  have keep : ∀ y, y ≠ t → ∀ o, S[y]? = some o → (S.set t (Ob.lst (d ++ [x])))[y]? = some o := fun y hy o e => by
    rw [List.getElem?_set_ne (Ne.symm hy)]
    exact e
  exact ⟨⟨h.ln.ok, keep _ (Ne.symm htl) _ h.ln.lo, keep _ (Ne.symm htt) _ h.ln.tk⟩, keep _ (Ne.symm hta) _ h.ls, ⟨get_set h.top, h.it.2.keep fun y hy => keep y (by rintro rfl; exact (List.nodup_cons.mp h.nd).1 hy)⟩, h.nd, h.na, h.nl, h.ntl, h.al, h.atl,
    h.fr.set _ (.inr (h.ge.2.2 t List.mem_cons_self)), h.ge⟩
theorem RS.pop (h : RS S0 S l tl a r ts k (t :: as) (d :: lv)) : RS S0 (S.set a (Ob.lst (as.reverse.map D.ref))) l tl a r ts k as lv ∧ (S.set a (Ob.lst (as.reverse.map D.ref)))[t]? = some (.lst d) := by
  have hta : t ≠ a := fun e => h.na (by rw [e]; exact List.mem_cons_self)
  have keep : ∀ y, y ≠ a → ∀ o, S[y]? = some o → (S.set a (Ob.lst (as.reverse.map D.ref)))[y]? = some o := fun y hy o e => by
    rw [List.getElem?_set_ne (Ne.symm hy)]
    exact e
  have hm : ∀ {y : Nat}, y ∈ as → y ∈ t :: as := fun hy => List.mem_cons_of_mem _ hy
  exact ⟨⟨⟨h.ln.ok, keep _ (Ne.symm h.al) _ h.ln.lo, keep _ (Ne.symm h.atl) _ h.ln.tk⟩, get_set h.ls, h.it.2.keep fun y hy => keep y (by rintro rfl; exact h.na (hm hy)), (List.nodup_cons.mp h.nd).2, fun z => h.na (hm z), fun z => h.nl (hm z), fun z => h.ntl (hm z), h.al, h.atl,
    h.fr.set _ (.inr h.ge.2.1), h.ge.1, h.ge.2.1, fun x hx => h.ge.2.2 x (hm hx)⟩, keep _ hta _ h.top⟩
theorem RS.shape (h : RS S0 S l tl a r ts k (t :: as) lv) : S[a]? = some (.lst (as.reverse.map .ref ++ [.ref t])) := by
  have := h.ls
  rw [List.reverse_cons, List.map_append] at this
  exact this
end
/-- what is left of the tokens -/
theorem drop_at {ts : List (Nat × Tk)} {k : Nat} {p : Nat × Tk} (h : ts[k]? = some p) : ts.drop k = p :: ts.drop (k + 1) := by
  obtain ⟨h1, h2⟩ := List.getElem?_eq_some_iff.mp h
  rw [List.drop_eq_getElem_cons h1, h2]
theorem rd_at {ts : List (Nat × Tk)} {j : Nat} {s : RdS} {lv : List (List D)} {d : D} (h : rd (ts.drop j) s lv = .ok d) :
    ∃ p, ts[j]? = some p ∧ (match stp p.2 p.1 lv s with | .inl (s', lv') => rd (ts.drop (j + 1)) s' lv' = .ok d | .inr r => r = .ok d) := by
  cases e : ts[j]? with
  | none =>
    have : ts.drop j = [] := List.drop_eq_nil_iff.mpr (List.getElem?_eq_none_iff.mp e)
    rw [this] at h
    cases h
  | some p =>
    refine ⟨p, rfl, ?_⟩
    rw [drop_at e] at h
    obtain ⟨i, t⟩ := p
    rw [rd_cons] at h
    cases q : stp t i lv s with
    | inl x => rw [q] at h; exact h
    | inr x => rw [q] at h; exact h
/-- behind a thing -/
theorem rd_a {ts : List (Nat × Tk)} {j : Nat} {lv : List (List D)} {d f : D} (h : rd (ts.drop j) (.a f) lv = .ok d) :
    (lv = [] ∧ f = d ∧ ∃ i, ts[j]? = some (i, .en)) ∨ ∃ i top lv', lv = top :: lv' ∧ ((ts[j]? = some (i, .sg 44) ∧ rd (ts.drop (j + 1)) .h ((top ++ [f]) :: lv') = .ok d) ∨ (ts[j]? = some (i, .sg 41) ∧ rd (ts.drop (j + 1)) (.a (.tup (top ++ [f]))) lv' = .ok d)) := by
  obtain ⟨⟨i, t⟩, e, k⟩ := rd_at h
  cases lv with
  | nil =>
    simp only [stp] at k
    by_cases ht : t = .en
    · rw [if_pos ht] at k
      subst ht
      cases k
      exact .inl ⟨rfl, rfl, i, e⟩
    · rw [if_neg ht] at k
      cases k
  | cons top lv =>
    simp only [stp] at k
    by_cases h1 : t = .sg 44
    · rw [if_pos h1] at k
      subst h1
      exact .inr ⟨i, top, lv, rfl, .inl ⟨e, k⟩⟩
    · rw [if_neg h1] at k
      by_cases h2 : t = .sg 41
      · rw [if_pos h2] at k
        subst h2
        exact .inr ⟨i, top, lv, rfl, .inr ⟨e, k⟩⟩
      · rw [if_neg h2] at k
        cases k
/-- at a thing's beginning -/
theorem rd_h {ts : List (Nat × Tk)} {j : Nat} {lv : List (List D)} {d : D} (h : rd (ts.drop j) .h lv = .ok d) :
    (∃ i n, ts[j]? = some (i, .nm n) ∧ rd (ts.drop (j + 1)) (.a (.int n)) lv = .ok d) ∨ (∃ i x, ts[j]? = some (i, .wd x) ∧ rd (ts.drop (j + 1)) (.a (wTk x)) lv = .ok d) ∨
    (∃ i i2 n, ts[j]? = some (i, .sg 45) ∧ ts[j + 1]? = some (i2, .nm n) ∧ n ≠ 0 ∧ rd (ts.drop (j + 2)) (.a (.int (-n))) lv = .ok d) ∨
    (∃ i i2, ts[j]? = some (i, .sg 40) ∧ ts[j + 1]? = some (i2, .sg 41) ∧ rd (ts.drop (j + 2)) (.a (.tup [])) lv = .ok d) ∨
    (∃ i p, ts[j]? = some (i, .sg 40) ∧ ts[j + 1]? = some p ∧ p.2 ≠ .sg 41 ∧ rd (ts.drop (j + 1)) .h ([] :: lv) = .ok d) := by
  obtain ⟨⟨i, t⟩, e, k⟩ := rd_at h
  cases t with
  | nm n => exact .inl ⟨i, n, e, k⟩
  | wd x => exact .inr (.inl ⟨i, x, e, k⟩)
  | en => cases k
  | bd => cases k
  | sg c =>
    simp only [stp, stpH] at k
    by_cases h1 : c = 40
    · rw [if_pos h1] at k
      subst h1
      have k : rd (ts.drop (j + 1)) .o ([] :: lv) = .ok d := k
      obtain ⟨⟨i2, u⟩, e2, k2⟩ := rd_at k
      by_cases hu : u = .sg 41
      · subst hu
        exact .inr (.inr (.inr (.inl ⟨i, i2, e, e2, k2⟩)))
      · refine .inr (.inr (.inr (.inr ⟨i, (i2, u), e, e2, hu, ?_⟩)))
        rw [drop_at e2] at k ⊢
        rw [rd_o hu] at k
        exact k
    · rw [if_neg h1] at k
      by_cases h2 : c = 45
      · rw [if_pos h2] at k
        subst h2
        have k : rd (ts.drop (j + 1)) .m lv = .ok d := k
        obtain ⟨⟨i2, u⟩, e2, k2⟩ := rd_at k
        cases u with
        | nm n =>
          simp only [stp] at k2
          by_cases hn : n = 0
          · rw [if_pos hn] at k2; cases k2
          · rw [if_neg hn] at k2
            exact .inr (.inr (.inl ⟨i, i2, n, e, e2, hn, k2⟩))
        | _ => cases k2
      · rw [if_neg h2] at k; cases k
theorem atI_last {α : Type} (xs : List α) (x : α) : atI (xs ++ [x]) (-1) = some x := by
  unfold atI ixN
  rw [if_neg (by decide), if_pos (by simp; omega)]
  have e : (-1 + (((xs ++ [x]).length : Nat) : Int)).toNat = xs.length := by simp; omega
  rw [e]
  simp
/-- few things -/
def BdL (lv : List (List D)) (j : Nat) : Prop := lv.length ≤ j ∧ ∀ d ∈ lv, d.length ≤ j
end Dl
end

section
set_option Elab.async false
set_option linter.all false
set_option maxRecDepth 100000
/-! Dl: the lexer's steps at a place of a text, in plain Lean. -/
namespace Dl
open PySem PySem.Spec PyProof.Rows L2
theorem at_sp {cs : List Nat} {p : Nat} (hp : p < cs.length) (h : cs[p] = 32) : lexI (cs.drop p) p = lexI (cs.drop (p + 1)) (p + 1) := by
  rw [List.drop_eq_getElem_cons hp, h, lexI_sp]
theorem at_sg {cs : List Nat} {p : Nat} (hp : p < cs.length) (h : isS cs[p] = true) : lexI (cs.drop p) p = (p, .sg cs[p]) :: lexI (cs.drop (p + 1)) (p + 1) := by
  rw [List.drop_eq_getElem_cons hp, lexI_sg h]
theorem at_tw {cs : List Nat} {p : Nat} {f : Nat → Bool} (hp : p < cs.length) (h : f cs[p] = true) :
    (cs.drop p).takeWhile f = cs[p] :: (cs.drop (p + 1)).takeWhile f ∧ ((cs.drop p).takeWhile f).length = 1 + ((cs.drop (p + 1)).takeWhile f).length ∧ p + 1 + ((cs.drop (p + 1)).takeWhile f).length ≤ cs.length ∧
      (cs.drop p).take (p + 1 + ((cs.drop (p + 1)).takeWhile f).length - p) = cs[p] :: (cs.drop (p + 1)).takeWhile f ∧ (cs.drop (p + 1)).dropWhile f = cs.drop (p + 1 + ((cs.drop (p + 1)).takeWhile f).length) := by
  have hd : cs.drop p = cs[p] :: cs.drop (p + 1) := List.drop_eq_getElem_cons hp
  have hlen := tw_len f (cs.drop (p + 1))
  rw [List.length_drop] at hlen
  have hw : (cs.drop p).takeWhile f = cs[p] :: (cs.drop (p + 1)).takeWhile f := by rw [hd, List.takeWhile_cons, if_pos h]
  refine ⟨hw, by rw [hw, List.length_cons]; omega, by omega, ?_, by rw [dw_drop, List.drop_drop]⟩
  rw [show p + 1 + ((cs.drop (p + 1)).takeWhile f).length - p = ((cs.drop (p + 1)).takeWhile f).length + 1 by omega, hd, List.take_succ_cons, take_tw]
theorem at_wd {cs : List Nat} {p : Nat} (hp : p < cs.length) (h : isA cs[p] = true) :
    ∃ e, p < e ∧ e ≤ cs.length ∧ p + ((cs.drop p).takeWhile isA).length = e ∧ lexI (cs.drop p) p = (p, .wd ((cs.drop p).take (e - p))) :: lexI (cs.drop e) e := by
  obtain ⟨a1, a2, a3, a4, a5⟩ := at_tw (f := isA) hp h
  refine ⟨p + 1 + ((cs.drop (p + 1)).takeWhile isA).length, by omega, a3, by omega, ?_⟩
  rw [a4]
  conv => lhs; rw [List.drop_eq_getElem_cons hp]
  rw [lexI_wd h, a5]
theorem at_nm {cs : List Nat} {p : Nat} (hp : p < cs.length) (h : isD cs[p] = true) :
    ∃ e, p < e ∧ e ≤ cs.length ∧ p + ((cs.drop p).takeWhile isD).length = e ∧ ((cs[p] = 48 ∧ p + 1 < e ∧ lexI (cs.drop p) p = [(p, .bd)]) ∨ (¬ (cs[p] = 48 ∧ p + 1 < e) ∧ ∃ v, dg v = (cs.drop p).take (e - p) ∧ lexI (cs.drop p) p = (p, .nm v) :: lexI (cs.drop e) e)) := by
  obtain ⟨a1, a2, a3, a4, a5⟩ := at_tw (f := isD) hp h
  refine ⟨p + 1 + ((cs.drop (p + 1)).takeWhile isD).length, by omega, a3, by omega, ?_⟩
  rw [a4]
  by_cases h0 : cs[p] = 48 ∧ (cs.drop (p + 1)).takeWhile isD ≠ []
  · left
    have := List.length_pos_iff.mpr h0.2
    refine ⟨h0.1, by omega, ?_⟩
    rw [List.drop_eq_getElem_cons hp, h0.1]
    exact lexI_b0 _ h0.2
  · right
    refine ⟨fun z => h0 ⟨z.1, List.length_pos_iff.mp (by omega)⟩, NumText.digitsVal (cs[p] :: (cs.drop (p + 1)).takeWhile isD), ?_, ?_⟩
    · refine dg_of (fun x hx => ?_) ?_
      · rcases List.mem_cons.mp hx with rfl | hx
        · exact isD_iff.mp h
        · exact isD_iff.mp (tw_all isD _ x hx)
      · by_cases hw : (cs.drop (p + 1)).takeWhile isD = []
        · left; rw [hw]; rfl
        · right
          have := isD_iff.mp h
          have : cs[p] ≠ 48 := fun z => h0 ⟨z, hw⟩
          exact ⟨_, _, rfl, by omega⟩
    · conv => lhs; rw [List.drop_eq_getElem_cons hp]
      rw [lexI_nm h _ _ h0, a5]
theorem at_bd {cs : List Nat} {p : Nat} (hp : p < cs.length) (h : cs[p] ≠ 32) (h1 : isS cs[p] = false) (h2 : isA cs[p] = false) (h3 : isD cs[p] = false) : lexI (cs.drop p) p = [(p, .bd)] := by
  rw [List.drop_eq_getElem_cons hp]
  exact lexI_bd _ h h1 h2 h3
/-- one character read by the law's own lexer -/
theorem tw_step {cs : List Nat} {p : Nat} (f : Nat → Bool) (hp : p < cs.length) : ((cs.drop p).takeWhile f).length = if f cs[p] = true then 1 + ((cs.drop (p + 1)).takeWhile f).length else 0 := by
  rw [List.drop_eq_getElem_cons hp, List.takeWhile_cons]
  split
  · rw [List.length_cons]; omega
  · rfl
theorem inF_true {α : Type} : ∀ xs : List α, inF (.bl false) (xs.map fun _ => D.bl true) = false
  | [] => rfl
  | _ :: xs => by
    show (eqF (.bl true) (.bl false) || inF (.bl false) (xs.map fun _ => D.bl true)) = false
    rw [inF_true xs]
    decide
theorem flat_true {α : Type} : ∀ xs : List α, (xs.map fun _ => D.bl true).all flat = true
  | [] => rfl
  | _ :: xs => flat_true xs
theorem bfs_mem {ds : List D} (h : D.bfs ds = true) : ∀ d ∈ ds, d.bf = true := by
  induction ds with
  | nil => intro d hd; cases hd
  | cons e ds ih =>
    simp only [D.bfs, Bool.and_eq_true] at h
    intro d hd
    rcases List.mem_cons.mp hd with rfl | hd
    · exact h.1
    · exact ih h.2 d hd
theorem wts_mem {ds : List D} {d : D} (h : d ∈ ds) : wt d ≤ wts ds := by
  induction ds with
  | nil => cases h
  | cons e ds ih =>
    simp only [wts]
    rcases List.mem_cons.mp h with rfl | h
    · omega
    · have := ih h; omega
mutual
theorem pg_bf : ∀ d : D, pg d → d.bf = true
  | .non, _ => rfl
  | .int _, _ => rfl
  | .str x, h => by
    show PyData.canLay0 (.str x) = true
    rw [tS_of x]
    exact ok_of fun c hc => isA_lt (h.2.1 c hc)
  | .tup ds, h => by
    simp only [D.bf]
    exact pgs_bf ds (by simpa [pg] using h)
  | .bl _, h => by simp [pg] at h
  | .ref _, h => by simp [pg] at h
  | .ro _, h => by simp [pg] at h
  | .fn _, h => by simp [pg] at h
theorem pgs_bf : ∀ ds : List D, pgs ds → D.bfs ds = true
  | [], _ => rfl
  | d :: ds, h => by simp only [D.bfs, pg_bf d h.1, pgs_bf ds h.2, Bool.and_self]
end
theorem lexF_ne : ∀ (n : Nat) (l : List Nat) (i : Nat), lexF n l i ≠ []
  | 0, _, _ => by unfold lexF; simp
  | n + 1, [], i => by unfold lexF; simp
  | n + 1, c :: r, i => by
    unfold lexF
    split
    · simp
    · split
      · simp
      · split
        · split <;> simp
        · simp
theorem lexI_ne (l : List Nat) (i : Nat) : (lexI l i).map (·.2) ≠ [] := by
  rw [Ne, List.map_eq_nil_iff]
  exact lexF_ne _ _ _
theorem sprOk_mem : ∀ {ps : List (Nat × Tk)}, sprOk ps → ∀ p ∈ ps, tkOk p.2
  | [], _, p, h => by cases h
  | (g, t) :: ps, ⟨h1, _, h3⟩, p, h => by
    rcases List.mem_cons.mp h with rfl | h
    · exact h1
    · exact sprOk_mem h3 p h
/-- the letters of tokens -/
def txL : List Tk → Nat
  | [] => 0
  | t :: ts => (tx t).length + txL ts
theorem txL_app : ∀ a b : List Tk, txL (a ++ b) = txL a + txL b
  | [], b => by simp [txL]
  | t :: a, b => by
    show (tx t).length + txL (a ++ b) = ((tx t).length + txL a) + txL b
    rw [txL_app a b]
    omega
theorem spr_len : ∀ {ps : List (Nat × Tk)} (k : Nat), sprOk ps → ps.length ≤ txL (ps.map (·.2)) ∧ txL (ps.map (·.2)) ≤ (spr ps k).length
  | [], k, _ => ⟨Nat.le_refl _, Nat.zero_le _⟩
  | (g, t) :: ps, k, ⟨h1, _, h3⟩ => by
    have h4 := List.length_pos_iff.mpr (tx_ne h1)
    have h5 := spr_len k h3
    simp only [List.map_cons, List.length_cons, spr, List.length_append, txL]
    omega
theorem tks_txL {d : D} (h : pg d) : (tks d).length ≤ txL (tks d) ∧ txL (tks d) ≤ (pt d).length := by
  have h1 := spr_len 0 (sprOk_pk 0 d h)
  rw [spr_pk 0 d h, pk_tks, List.replicate_zero, List.nil_append] at h1
  refine ⟨?_, h1.2⟩
  have h2 := congrArg List.length (pk_tks 0 d)
  rw [List.length_map] at h2
  omega
theorem tks_len {d : D} (h : pg d) : (tks d).length ≤ (pt d).length := Nat.le_trans (tks_txL h).1 (tks_txL h).2
theorem tks_ok {d : D} (h : pg d) : ∀ t ∈ tks d, tkOk t := fun t ht => by
  rw [← pk_tks 0 d] at ht
  obtain ⟨p, h1, rfl⟩ := List.mem_map.mp ht
  exact sprOk_mem (sprOk_pk 0 d h) p h1
theorem sm_en : sm .en := trivial
mutual
theorem tks_sm : ∀ {d : D}, pg d → ∀ t ∈ tks d, sm t
  | .non, _, t, h => by rw [List.mem_singleton.mp h]; trivial
  | .int i, hp, t, h => by
    have hp : i.natAbs < 10 ^ 50 := by simpa [pg] using hp
    have hs : sm (.nm i.natAbs) := Nat.lt_trans hp (by decide +kernel)
    simp only [tks] at h
    split at h
    · rcases List.mem_cons.mp h with rfl | h
      · trivial
      · rw [List.mem_singleton.mp h]; exact hs
    · rw [List.mem_singleton.mp h]; exact hs
  | .str x, _, t, h => by rw [List.mem_singleton.mp h]; trivial
  | .tup ds, hp, t, h => by
    simp only [tks, List.mem_cons, List.mem_append, List.not_mem_nil, or_false] at h
    rcases h with rfl | h | rfl
    · trivial
    · exact tkj_sm (by simpa [pg] using hp) t h
    · trivial
  | .bl _, hp, _, _ => by simp [pg] at hp
  | .ref _, hp, _, _ => by simp [pg] at hp
  | .ro _, hp, _, _ => by simp [pg] at hp
  | .fn _, hp, _, _ => by simp [pg] at hp
theorem tkj_sm : ∀ {ds : List D}, pgs ds → ∀ t ∈ tkj ds, sm t
  | [], _, t, h => by cases h
  | d :: ds, hp, t, h => by
    rcases List.mem_append.mp h with h | h
    · exact tks_sm hp.1 t h
    · exact tkk_sm hp.2 t h
theorem tkk_sm : ∀ {ds : List D}, pgs ds → ∀ t ∈ tkk ds, sm t
  | [], _, t, h => by cases h
  | d :: ds, hp, t, h => by
    simp only [tkk, List.mem_cons, List.mem_append] at h
    rcases h with rfl | h | h
    · trivial
    · exact tks_sm hp.1 t h
    · exact tkk_sm hp.2 t h
end
theorem tks_pos {d : D} (h : pg d) : tks d ≠ [] := by
  obtain ⟨u, us, e, _⟩ := tks_head d h
  rw [e]
  simp
theorem tx_lt {t : Tk} (h : tkOk t) : ∀ x ∈ tx t, x < 1000 := by
  cases t with
  | sg c => intro x hx; simp only [tx, List.mem_singleton] at hx; subst hx; exact isS_lt h
  | wd x => exact fun y hy => isA_lt (h.2 y hy)
  | nm n => exact fun y hy => by have := dg_all n y hy; omega
  | en => exact h.elim
  | bd => exact h.elim
theorem spr_lt {ps : List (Nat × Tk)} {k : Nat} (h : sprOk ps) : ∀ c ∈ spr ps k, c < 1000 := by
  induction ps with
  | nil => intro c hc; rw [(List.mem_replicate.mp hc).2]; decide
  | cons p ps ih =>
    obtain ⟨g, t⟩ := p
    intro c hc
    simp only [spr, List.mem_append] at hc
    rcases hc with hc | hc | hc
    · rw [(List.mem_replicate.mp hc).2]; decide
    · exact tx_lt h.1 c hc
    · exact ih h.2.2 c hc
/-! ### first and last letters -/
theorem cut_last {l : List Nat} {a : Nat} (h : l.getLast? = some a) : (l.drop (HT.sIx l.length 0 (some (-1)))).take (HT.sIx l.length l.length none - HT.sIx l.length 0 (some (-1))) = [a] := by
  obtain ⟨xs, rfl⟩ := List.getLast?_eq_some_iff.mp h
  rw [HT.sIx_none]
  have e : HT.sIx (xs ++ [a]).length 0 (some (-1)) = xs.length := by
    show (if (-1 : Int) < 0 then ((-1 : Int) + ((xs ++ [a]).length : Int)).toNat else min (-1 : Int).toNat (xs ++ [a]).length) = _
    rw [if_pos (by omega), List.length_append]
    simp only [List.length_cons, List.length_nil]
    omega
  rw [e, List.drop_left, List.length_append]
  simp
theorem cut_first {l : List Nat} {a : Nat} (h : l.head? = some a) : (l.drop (HT.sIx l.length 0 none)).take (HT.sIx l.length l.length (some 1) - HT.sIx l.length 0 none) = [a] := by
  cases l with
  | nil => cases h
  | cons b l =>
    simp only [List.head?_cons, Option.some.injEq] at h
    subst h
    rw [HT.sIx_none, show (1 : Int) = ((1 : Nat) : Int) from rfl, HT.sIx_nat, Nat.min_eq_left (by simp)]
    rfl
theorem atI_lastL {l : List Nat} {a : Nat} (h : l.getLast? = some a) : atI l (-1) = some a := by
  obtain ⟨xs, rfl⟩ := List.getLast?_eq_some_iff.mp h
  exact Dl.atI_last _ _
theorem atI_headL {l : List Nat} {a : Nat} (h : l.head? = some a) : atI l 0 = some a := by
  cases l with
  | nil => cases h
  | cons b l =>
    simp only [List.head?_cons, Option.some.injEq] at h
    subst h
    exact atI_of (by omega) rfl
theorem tk_ends {t : Tk} (h : tkOk t) : ∃ a c, (tx t).getLast? = some a ∧ (tx t).head? = some c ∧ a < 1000 ∧ c < 1000 ∧ (isWd t = true → a ∈ lts ∧ c ∈ lts) ∧ (isNm t = true → a ∈ dgs ∧ c ∈ dgs) := by
  have hne := tx_ne h
  have hlt : ∀ x ∈ tx t, x < 1000 := by
    cases t with
    | sg c => intro x hx; simp only [tx, List.mem_singleton] at hx; subst hx; exact isS_lt h
    | wd x => exact fun y hy => isA_lt (h.2 y hy)
    | nm n => exact fun y hy => by have := dg_all n y hy; omega
    | en => exact h.elim
    | bd => exact h.elim
  refine ⟨(tx t).getLast hne, (tx t).head hne, List.getLast?_eq_some_getLast hne, List.head?_eq_some_head hne, hlt _ (List.getLast_mem hne), hlt _ (List.head_mem hne), fun hw => ?_, fun hw => ?_⟩
  · cases t with
    | wd x => exact ⟨of_decide_eq_true (h.2 _ (List.getLast_mem hne)), of_decide_eq_true (h.2 _ (List.head_mem hne))⟩
    | _ => cases hw
  · cases t with
    | nm n => exact ⟨of_decide_eq_true (isD_iff.mpr (dg_all n _ (List.getLast_mem hne))), of_decide_eq_true (isD_iff.mpr (dg_all n _ (List.head_mem hne)))⟩
    | _ => cases hw
/-- rows of tokens -/
def rws (S : Store) (rl : Nat) : List Nat → List Tk → Prop
  | [], [] => True
  | a :: as, t :: ts => (∃ i : Int, a ≠ rl ∧ S[a]? = some (.lst [.str (tS (tx t)), .int i])) ∧ rws S rl as ts
  | _, _ => False
theorem rws_fr {S S' : Store} {rl : Nat} (f : Fr [rl] S S') : ∀ {as : List Nat} {ts : List Tk}, rws S rl as ts → rws S' rl as ts
  | [], [], _ => trivial
  | a :: as, t :: ts, ⟨⟨i, h1, h2⟩, h3⟩ => ⟨⟨i, h1, f.get _ _ (by simpa using h1) h2⟩, rws_fr f h3⟩
  | [], _ :: _, h => h.elim
  | _ :: _, [], h => h.elim
theorem rws_snoc {S : Store} {rl a : Nat} {t : Tk} {i : Int} (h1 : a ≠ rl) (h2 : S[a]? = some (.lst [.str (tS (tx t)), .int i])) : ∀ {as : List Nat} {ts : List Tk}, rws S rl as ts → rws S rl (as ++ [a]) (ts ++ [t])
  | [], [], _ => ⟨⟨i, h1, h2⟩, trivial⟩
  | _ :: _, _ :: _, ⟨h3, h4⟩ => ⟨h3, rws_snoc h1 h2 h4⟩
  | [], _ :: _, h => h.elim
  | _ :: _, [], h => h.elim
theorem rws_zip {S : Store} {rl : Nat} : ∀ {as : List Nat} {ts : List Tk}, rws S rl as ts → ∀ p ∈ as.zip ts, ∃ i, S[p.1]? = some (.lst [.str (tS (tx p.2)), .int i])
  | [], [], _ => fun p hp => by simp at hp
  | a :: as, t :: ts, ⟨⟨i, h1, h2⟩, h3⟩ => fun p hp => by
    simp only [List.zip_cons_cons, List.mem_cons] at hp
    rcases hp with rfl | hp
    · exact ⟨i, h2⟩
    · exact rws_zip h3 p hp
  | [], _ :: _, h => h.elim
  | _ :: _, [], h => h.elim
theorem rws_get {S : Store} {rl : Nat} : ∀ {as : List Nat} {ts : List Tk}, rws S rl as ts → as.length = ts.length ∧ ∀ (k : Nat) (a : Nat), as[k]? = some a → ∃ t i, ts[k]? = some t ∧ S[a]? = some (.lst [.str (tS (tx t)), .int i])
  | [], [], _ => ⟨rfl, fun k a h => by simp at h⟩
  | a :: as, t :: ts, ⟨⟨i, h1, h2⟩, h3⟩ => ⟨by rw [List.length_cons, List.length_cons, (rws_get h3).1], fun k b h => by
      cases k with
      | zero =>
        simp only [List.getElem?_cons_zero, Option.some.injEq] at h
        subst h
        exact ⟨t, i, rfl, h2⟩
      | succ k =>
        rw [List.getElem?_cons_succ] at h ⊢
        exact (rws_get h3).2 k b h⟩
  | [], _ :: _, h => h.elim
  | _ :: _, [], h => h.elim
end Dl
end

section
set_option linter.all false
set_option maxRecDepth 100000
namespace K76
open PySem Dl
/-! the terms of the text's defs (printed by mkir.py) -/
abbrev f__wall : Nat := 0
abbrev f_run_end : Nat := 1
abbrev f_token_from : Nat := 2
abbrev f_tokens_of : Nat := 3
abbrev f_Line___init__ : Nat := 4
abbrev f_Line_kind_here : Nat := 5
abbrev f_Line_value_here : Nat := 6
abbrev f_Line_refuse : Nat := 7
abbrev f_Line_refuse_at : Nat := 8
abbrev f_Line_take : Nat := 9
abbrev f_Line_take_one : Nat := 10
abbrev f_Line_take_signed : Nat := 11
abbrev f_Line_close : Nat := 12
abbrev f_leaf_text : Nat := 13
abbrev f_write_paper : Nat := 14
abbrev f_take_leaf : Nat := 15
abbrev f_read_paper : Nat := 16
abbrev f__law_draws : Nat := 17
abbrev f__law_take : Nat := 18
abbrev f__law_pick : Nat := 19
abbrev f__law_same : Nat := 20
abbrev f__law_words : Nat := 21
abbrev f__law_paper_text : Nat := 22
abbrev f__law_are_apart : Nat := 23
abbrev f__law_spread : Nat := 24
abbrev f__law_run : Nat := 25
abbrev f__law_tokens_of : Nat := 26
abbrev f__law_thing : Nat := 27
abbrev f__law_paper_tokens : Nat := 28
abbrev f_law : Nat := 29
def b__wall : ISs := (.cons (.whl (.bl true) (.cons .pass
  .nil))
  .nil)
abbrev d__wall : Fd := ⟨1, 1, b__wall⟩
def b_run_end : ISs := (.cons (.asg (.nm 3) (.var 1))
  (.cons (.whl (.and (.cmp .Lt (.var 3) (.bi .len (.cons (.var 0) .nil))) (.cmp .In (.ix (.var 0) (.var 3)) (.var 2))) (.cons (.aug 3 .Add (.int 1))
  .nil))
  (.cons (.ret (.var 3))
  .nil)))
abbrev d_run_end : Fd := ⟨3, 4, b_run_end⟩
def b_token_from : ISs := (.cons (.asg (.nm 2) (.ix (.var 0) (.var 1)))
  (.cons (.ite (.cmp .In (.var 2) (.glo 2)) (.cons (.ret (.tup (.cons (.var 2) (.cons (.var 2) (.cons (.op .Add (.var 1) (.int 1)) .nil)))))
  .nil) .nil)
  (.cons (.ite (.cmp .In (.var 2) (.glo 0)) (.cons (.asg (.nm 3) (.call f_run_end (.cons (.var 0) (.cons (.var 1) (.cons (.glo 0) .nil)))))
  (.cons (.ret (.tup (.cons (.str "word") (.cons (.sl (.var 0) (.so (.var 1)) (.so (.var 3))) (.cons (.var 3) .nil)))))
  .nil)) .nil)
  (.cons (.asg (.nm 3) (.call f_run_end (.cons (.var 0) (.cons (.var 1) (.cons (.glo 1) .nil)))))
  (.cons (.ite (.or (.cmp .Eq (.var 3) (.var 1)) (.and (.cmp .Eq (.var 2) (.str "0")) (.cmp .Gt (.op .Sub (.var 3) (.var 1)) (.int 1)))) (.cons (.ret (.tup (.cons (.str "") (.cons (.int 0) (.cons (.var 1) .nil)))))
  .nil) .nil)
  (.cons (.ret (.tup (.cons (.str "number") (.cons (.bi .int (.cons (.sl (.var 0) (.so (.var 1)) (.so (.var 3))) .nil)) (.cons (.var 3) .nil)))))
  .nil))))))
abbrev d_token_from : Fd := ⟨2, 4, b_token_from⟩
def b_tokens_of : ISs := (.cons (.asg (.nm 1) (.lst .nil))
  (.cons (.asg (.nm 2) (.call f_run_end (.cons (.var 0) (.cons (.int 0) (.cons (.str " ") .nil)))))
  (.cons (.whl (.cmp .Lt (.var 2) (.bi .len (.cons (.var 0) .nil))) (.cons (.asg (.tp (.cons (.nm 3) (.cons (.nm 4) (.cons (.nm 5) .nil)))) (.call f_token_from (.cons (.var 0) (.cons (.var 2) .nil))))
  (.cons (.expr (.me .append (.var 1) (.cons (.tup (.cons (.var 2) (.cons (.var 3) (.cons (.var 4) .nil)))) .nil)))
  (.cons (.ite (.cmp .Eq (.var 3) (.str "")) (.cons (.ret (.var 1))
  .nil) .nil)
  (.cons (.asg (.nm 2) (.call f_run_end (.cons (.var 0) (.cons (.var 5) (.cons (.str " ") .nil)))))
  .nil)))))
  (.cons (.expr (.me .append (.var 1) (.cons (.tup (.cons (.bi .len (.cons (.var 0) .nil)) (.cons (.str "end") (.cons (.int 0) .nil)))) .nil)))
  (.cons (.ret (.var 1))
  .nil)))))
abbrev d_tokens_of : Fd := ⟨1, 6, b_tokens_of⟩
def b_Line___init__ : ISs := (.cons (.setf "Line" "row_number" (.var 0) (.var 2))
  (.cons (.setf "Line" "tokens" (.var 0) (.call f_tokens_of (.cons (.var 1) .nil)))
  (.cons (.setf "Line" "taken" (.var 0) (.int 0))
  .nil)))
abbrev d_Line___init__ : Fd := ⟨3, 3, b_Line___init__⟩
def b_Line_kind_here : ISs := (.cons (.ret (.ix (.ix (.fld "Line" "tokens" (.var 0)) (.fld "Line" "taken" (.var 0))) (.int 1)))
  .nil)
abbrev d_Line_kind_here : Fd := ⟨1, 1, b_Line_kind_here⟩
def b_Line_value_here : ISs := (.cons (.ret (.ix (.ix (.fld "Line" "tokens" (.var 0)) (.fld "Line" "taken" (.var 0))) (.int 2)))
  .nil)
abbrev d_Line_value_here : Fd := ⟨1, 1, b_Line_value_here⟩
def b_Line_refuse : ISs := (.cons .rse
  .nil)
abbrev d_Line_refuse : Fd := ⟨1, 1, b_Line_refuse⟩
def b_Line_refuse_at : ISs := (.cons (.expr (.call f__wall (.cons (.int 0) .nil)))
  .nil)
abbrev d_Line_refuse_at : Fd := ⟨2, 2, b_Line_refuse_at⟩
def b_Line_take : ISs := (.cons (.ite (.cmp .NotEq (.mcall "Line" "kind_here" f_Line_kind_here (.var 0) .nil) (.var 1)) (.cons (.expr (.mcall "Line" "refuse" f_Line_refuse (.var 0) .nil))
  .nil) .nil)
  (.cons (.asg (.nm 2) (.mcall "Line" "value_here" f_Line_value_here (.var 0) .nil))
  (.cons (.augf "Line" "taken" (.var 0) .Add (.int 1))
  (.cons (.ret (.var 2))
  .nil))))
abbrev d_Line_take : Fd := ⟨2, 3, b_Line_take⟩
def b_Line_take_one : ISs := (.cons (.expr (.call f__wall (.cons (.int 1) .nil)))
  .nil)
abbrev d_Line_take_one : Fd := ⟨2, 2, b_Line_take_one⟩
def b_Line_take_signed : ISs := (.cons (.ite (.cmp .NotEq (.mcall "Line" "kind_here" f_Line_kind_here (.var 0) .nil) (.str "-")) (.cons (.ret (.mcall "Line" "take" f_Line_take (.var 0) (.cons (.str "number") .nil)))
  .nil) .nil)
  (.cons (.expr (.mcall "Line" "take" f_Line_take (.var 0) (.cons (.str "-") .nil)))
  (.cons (.ite (.and (.cmp .Eq (.mcall "Line" "kind_here" f_Line_kind_here (.var 0) .nil) (.str "number")) (.cmp .Eq (.mcall "Line" "value_here" f_Line_value_here (.var 0) .nil) (.int 0))) (.cons (.expr (.mcall "Line" "refuse" f_Line_refuse (.var 0) .nil))
  .nil) .nil)
  (.cons (.ret (.neg (.mcall "Line" "take" f_Line_take (.var 0) (.cons (.str "number") .nil))))
  .nil))))
abbrev d_Line_take_signed : Fd := ⟨1, 1, b_Line_take_signed⟩
def b_Line_close : ISs := (.cons (.ite (.cmp .NotEq (.mcall "Line" "kind_here" f_Line_kind_here (.var 0) .nil) (.str "end")) (.cons (.expr (.mcall "Line" "refuse" f_Line_refuse (.var 0) .nil))
  .nil) .nil)
  .nil)
abbrev d_Line_close : Fd := ⟨1, 1, b_Line_close⟩
def b_leaf_text : ISs := (.cons (.ret (.ite (.cmp .Is (.var 0) .non) (.glo 3) (.bi .str (.cons (.var 0) .nil))))
  .nil)
abbrev d_leaf_text : Fd := ⟨1, 1, b_leaf_text⟩
def b_write_paper : ISs := (.cons (.asg (.nm 1) (.lst .nil))
  (.cons (.asg (.nm 2) (.lst (.cons (.tup (.cons (.var 0) (.cons (.str "") .nil))) .nil)))
  (.cons (.whl (.cmp .Gt (.bi .len (.cons (.var 2) .nil)) (.int 0)) (.cons (.asg (.tp (.cons (.nm 3) (.cons (.nm 4) .nil))) (.me .pop (.var 2) .nil))
  (.cons (.ite (.isi (.var 3) .tuple) (.cons (.expr (.me .append (.var 1) (.cons (.str "(") .nil)))
  (.cons (.expr (.me .append (.var 2) (.cons (.tup (.cons .non (.cons (.op .Add (.str ")") (.var 4)) .nil))) .nil)))
  (.cons (.forr (.nm 5) (.rngd (.op .Sub (.bi .len (.cons (.var 3) .nil)) (.int 1)) (.neg (.int 1))) (.cons (.expr (.me .append (.var 2) (.cons (.tup (.cons (.ix (.var 3) (.var 5)) (.cons (.ite (.cmp .Lt (.var 5) (.op .Sub (.bi .len (.cons (.var 3) .nil)) (.int 1))) (.str ", ") (.str "")) .nil))) .nil)))
  .nil))
  .nil))) (.cons (.ite (.and (.cmp .Is (.var 3) .non) (.cmp .Eq (.sl (.var 4) .no (.so (.int 1))) (.str ")"))) (.cons (.expr (.me .append (.var 1) (.cons (.var 4) .nil)))
  .nil) (.cons (.expr (.me .append (.var 1) (.cons (.op .Add (.call f_leaf_text (.cons (.var 3) .nil)) (.var 4)) .nil)))
  .nil))
  .nil))
  .nil)))
  (.cons (.ret (.m1 .join (.str "") (.var 1)))
  .nil))))
abbrev d_write_paper : Fd := ⟨1, 6, b_write_paper⟩
def b_take_leaf : ISs := (.cons (.ite (.cmp .NotEq (.mcall "Line" "kind_here" f_Line_kind_here (.var 0) .nil) (.str "word")) (.cons (.ret (.mcall "Line" "take_signed" f_Line_take_signed (.var 0) .nil))
  .nil) .nil)
  (.cons (.asg (.nm 1) (.mcall "Line" "take" f_Line_take (.var 0) (.cons (.str "word") .nil)))
  (.cons (.ret (.ite (.cmp .Eq (.var 1) (.glo 3)) .non (.var 1)))
  .nil)))
abbrev d_take_leaf : Fd := ⟨1, 2, b_take_leaf⟩
def b_read_paper : ISs := (.cons (.asg (.nm 1) (.new "Line" f_Line___init__ (.cons (.var 0) (.cons (.int 0) .nil))))
  (.cons (.asg (.nm 2) (.lst .nil))
  (.cons (.whl (.bl true) (.cons (.ite (.cmp .Eq (.mcall "Line" "kind_here" f_Line_kind_here (.var 1) .nil) (.str "(")) (.cons (.expr (.mcall "Line" "take" f_Line_take (.var 1) (.cons (.str "(") .nil)))
  (.cons (.expr (.me .append (.var 2) (.cons (.lst .nil) .nil)))
  (.cons (.ite (.cmp .NotEq (.mcall "Line" "kind_here" f_Line_kind_here (.var 1) .nil) (.str ")")) (.cons .cnt
  .nil) .nil)
  (.cons (.expr (.mcall "Line" "take" f_Line_take (.var 1) (.cons (.str ")") .nil)))
  (.cons (.asg (.nm 3) (.bi .tuple (.cons (.me .pop (.var 2) .nil) .nil)))
  .nil))))) (.cons (.asg (.nm 3) (.call f_take_leaf (.cons (.var 1) .nil)))
  .nil))
  (.cons (.whl (.cmp .Gt (.bi .len (.cons (.var 2) .nil)) (.int 0)) (.cons (.expr (.me .append (.ix (.var 2) (.neg (.int 1))) (.cons (.var 3) .nil)))
  (.cons (.ite (.cmp .Eq (.mcall "Line" "kind_here" f_Line_kind_here (.var 1) .nil) (.str ",")) (.cons .brk
  .nil) .nil)
  (.cons (.expr (.mcall "Line" "take" f_Line_take (.var 1) (.cons (.str ")") .nil)))
  (.cons (.asg (.nm 3) (.bi .tuple (.cons (.me .pop (.var 2) .nil) .nil)))
  .nil)))))
  (.cons (.ite (.cmp .Eq (.bi .len (.cons (.var 2) .nil)) (.int 0)) (.cons (.expr (.mcall "Line" "close" f_Line_close (.var 1) .nil))
  (.cons (.ret (.var 3))
  .nil)) .nil)
  (.cons (.expr (.mcall "Line" "take" f_Line_take (.var 1) (.cons (.str ",") .nil)))
  .nil)))))
  .nil)))
abbrev d_read_paper : Fd := ⟨1, 4, b_read_paper⟩
def b__law_draws : ISs := (.cons (.asg (.nm 2) (.comp (.nm 8) [8] (.seq (.sl (.var 0) .no (.so (.int 63)))) .no (.op .Mod (.bi .int (.cons (.var 8) .nil)) (.op .LShift (.int 1) (.int 7200)))))
  (.cons (.ite (.cmp .Eq (.bi .len (.cons (.var 2) .nil)) (.int 0)) (.cons (.expr (.me .append (.var 2) (.cons (.int 0) .nil)))
  .nil) .nil)
  (.cons (.asg (.nm 3) (.bi .list (.cons (.var 2) .nil)))
  (.cons (.asg (.nm 4) (.lst .nil))
  (.cons (.forr (.nm 5) (.rng1 (.var 1)) (.cons (.asg (.nm 6) (.op .Mod (.bi .int (.cons (.var 5) .nil)) (.bi .len (.cons (.var 2) .nil))))
  (.cons (.ite (.and (.cmp .GtE (.ix (.var 2) (.var 6)) (.op .Pow (.int 10) (.int 18))) (.cmp .Gt (.ix (.var 3) (.var 6)) (.int 0))) (.cons (.expr (.me .append (.var 4) (.cons (.op .Mod (.bi .int (.cons (.ix (.var 3) (.var 6)) .nil)) (.int 1000)) .nil)))
  (.cons (.asg (.ixs (.var 3) (.var 6)) (.op .FloorDiv (.ix (.var 3) (.var 6)) (.int 1000)))
  .nil)) (.cons (.asg (.nm 7) (.op .Mod (.bi .int (.cons (.op .Add (.op .Add (.op .Mult (.ix (.var 2) (.var 6)) (.int 48271)) (.op .Mult (.var 5) (.int 69621))) (.int 11)) .nil)) (.int 2147483647)))
  (.cons (.expr (.me .append (.var 4) (.cons (.op .Mod (.bi .int (.cons (.op .Add (.op .Add (.op .Mult (.var 7) (.var 7)) (.op .Mult (.int 3) (.var 7))) (.var 5)) .nil)) (.int 1000003)) .nil)))
  .nil)))
  .nil)))
  (.cons (.expr (.me .reverse (.var 4) .nil))
  (.cons (.ret (.var 4))
  .nil)))))))
abbrev d__law_draws : Fd := ⟨2, 9, b__law_draws⟩
def b__law_take : ISs := (.cons (.ite (.cmp .Eq (.bi .len (.cons (.var 0) .nil)) (.int 0)) (.cons (.ret (.int 0))
  .nil) .nil)
  (.cons (.ret (.op .Mod (.bi .int (.cons (.me .pop (.var 0) .nil) .nil)) (.var 1)))
  .nil))
abbrev d__law_take : Fd := ⟨2, 2, b__law_take⟩
def b__law_pick : ISs := (.cons (.ret (.ix (.var 1) (.call f__law_take (.cons (.var 0) (.cons (.bi .len (.cons (.var 1) .nil)) .nil)))))
  .nil)
abbrev d__law_pick : Fd := ⟨2, 2, b__law_pick⟩
def b__law_same : ISs := (.cons (.ite (.isis (.var 1) [.tuple, .list]) (.cons (.ite (.or (.cmp .NotEq (.isi (.var 0) .tuple) (.isi (.var 1) .tuple)) (.cmp .NotEq (.isi (.var 0) .list) (.isi (.var 1) .list))) (.cons (.ret (.bl false))
  .nil) .nil)
  (.cons (.ite (.cmp .NotEq (.bi .len (.cons (.var 0) .nil)) (.bi .len (.cons (.var 1) .nil))) (.cons (.ret (.bl false))
  .nil) .nil)
  (.cons (.ret (.cmp .NotIn (.bl false) (.comp (.nm 2) [2] (.rng1 (.bi .len (.cons (.var 1) .nil))) .no (.call f__law_same (.cons (.ix (.var 0) (.var 2)) (.cons (.ix (.var 1) (.var 2)) .nil))))))
  .nil))) .nil)
  (.cons (.ite (.or (.cmp .NotEq (.isi (.var 0) .bool) (.isi (.var 1) .bool)) (.cmp .NotEq (.isi (.var 0) .int) (.isi (.var 1) .int))) (.cons (.ret (.bl false))
  .nil) .nil)
  (.cons (.ite (.or (.cmp .NotEq (.isi (.var 0) .str) (.isi (.var 1) .str)) (.cmp .NotEq (.cmp .Is (.var 0) .non) (.cmp .Is (.var 1) .non))) (.cons (.ret (.bl false))
  .nil) .nil)
  (.cons (.ret (.cmp .Eq (.var 0) (.var 1)))
  .nil))))
abbrev d__law_same : Fd := ⟨2, 3, b__law_same⟩
def b__law_words : ISs := (.cons (.asg (.nm 2) (.lst .nil))
  (.cons (.forr (.nm 3) (.rng1 (.var 1)) (.cons (.asg (.nm 4) (.op .Add (.int 1) (.call f__law_take (.cons (.var 0) (.cons (.int 3) .nil)))))
  (.cons (.ite (.cmp .Eq (.call f__law_take (.cons (.var 0) (.cons (.int 9) .nil))) (.int 0)) (.cons (.asg (.nm 4) (.op .Add (.op .Add (.var 4) (.int 3)) (.call f__law_take (.cons (.var 0) (.cons (.int 20) .nil)))))
  .nil) .nil)
  (.cons (.asg (.nm 5) (.m1 .join (.str "") (.comp (.nm 6) [6] (.rng1 (.var 4)) .no (.ix (.str "abcdefghijklmnopqrstuvwxyz") (.call f__law_take (.cons (.var 0) (.cons (.int 26) .nil)))))))
  (.cons (.ite (.cmp .In (.var 5) (.var 2)) (.cons (.asg (.nm 5) (.op .Mult (.str "z") (.op .Add (.int 1) (.maxl (.op .Add (.lst (.cons (.int 5) .nil)) (.comp (.nm 7) [7] (.seq (.var 2)) .no (.bi .len (.cons (.var 7) .nil))))))))
  .nil) .nil)
  (.cons (.expr (.me .append (.var 2) (.cons (.var 5) .nil)))
  .nil))))))
  (.cons (.ret (.var 2))
  .nil)))
abbrev d__law_words : Fd := ⟨2, 8, b__law_words⟩
def b__law_paper_text : ISs := (.cons (.ite (.isi (.var 0) .tuple) (.cons (.ret (.op .Add (.op .Add (.str "(") (.m1 .join (.str ", ") (.comp (.nm 1) [1] (.seq (.var 0)) .no (.call f__law_paper_text (.cons (.var 1) .nil))))) (.str ")")))
  .nil) .nil)
  (.cons (.ret (.ite (.cmp .Is (.var 0) .non) (.str "none") (.bi .str (.cons (.var 0) .nil))))
  .nil))
abbrev d__law_paper_text : Fd := ⟨1, 2, b__law_paper_text⟩
def b__law_are_apart : ISs := (.cons (.asg (.nm 2) (.str "abcdefghijklmnopqrstuvwxyz"))
  (.cons (.asg (.nm 3) (.str "0123456789"))
  (.cons (.ite (.or (.cmp .Eq (.sl (.var 0) (.so (.neg (.int 1))) .no) (.str "")) (.cmp .Eq (.sl (.var 1) .no (.so (.int 1))) (.str ""))) (.cons (.ret (.bl false))
  .nil) .nil)
  (.cons (.ret (.or (.and (.cmp .In (.ix (.var 0) (.neg (.int 1))) (.var 2)) (.cmp .In (.ix (.var 1) (.int 0)) (.var 2))) (.and (.cmp .In (.ix (.var 0) (.neg (.int 1))) (.var 3)) (.cmp .In (.ix (.var 1) (.int 0)) (.var 3)))))
  .nil))))
abbrev d__law_are_apart : Fd := ⟨2, 4, b__law_are_apart⟩
def b__law_spread : ISs := (.cons (.asg (.nm 2) (.call f__law_pick (.cons (.var 0) (.cons (.lst (.cons (.str "") (.cons (.str "") (.cons (.str "  ") .nil)))) .nil))))
  (.cons (.forr (.nm 3) (.rng1 (.bi .len (.cons (.var 1) .nil))) (.cons (.ite (.cmp .Gt (.var 3) (.int 0)) (.cons (.asg (.nm 2) (.op .Add (.op .Add (.var 2) (.call f__law_pick (.cons (.var 0) (.cons (.lst (.cons (.str "") (.cons (.str " ") (.cons (.str " ") (.cons (.str "   ") .nil))))) .nil)))) (.op .Mult (.str " ") (.bi .int (.cons (.call f__law_are_apart (.cons (.ix (.var 1) (.op .Sub (.var 3) (.int 1))) (.cons (.ix (.var 1) (.var 3)) .nil))) .nil)))))
  .nil) .nil)
  (.cons (.asg (.nm 2) (.op .Add (.var 2) (.ix (.var 1) (.var 3))))
  .nil)))
  (.cons (.ret (.op .Add (.var 2) (.call f__law_pick (.cons (.var 0) (.cons (.lst (.cons (.str "") (.cons (.str "") (.cons (.str " ") .nil)))) .nil)))))
  .nil)))
abbrev d__law_spread : Fd := ⟨2, 4, b__law_spread⟩
def b__law_run : ISs := (.cons (.asg (.nm 3) (.var 1))
  (.cons (.forr (.nm 4) (.rng2 (.var 1) (.bi .len (.cons (.var 0) .nil))) (.cons (.ite (.cmp .NotIn (.ix (.var 0) (.var 4)) (.var 2)) (.cons .brk
  .nil) .nil)
  (.cons (.asg (.nm 3) (.op .Add (.var 4) (.int 1)))
  .nil)))
  (.cons (.ret (.var 3))
  .nil)))
abbrev d__law_run : Fd := ⟨3, 5, b__law_run⟩
def b__law_tokens_of : ISs := (.cons (.asg (.nm 1) (.lst .nil))
  (.cons (.asg (.nm 2) (.int 0))
  (.cons (.forr (.nm 3) (.rng1 (.bi .len (.cons (.var 0) .nil))) (.cons (.ite (.cmp .GtE (.var 2) (.bi .len (.cons (.var 0) .nil))) (.cons .brk
  .nil) .nil)
  (.cons (.asg (.nm 4) (.ix (.var 0) (.var 2)))
  (.cons (.asg (.nm 5) (.op .Add (.var 2) (.int 1)))
  (.cons (.ite (.cmp .In (.var 4) (.str "0123456789")) (.cons (.asg (.nm 5) (.call f__law_run (.cons (.var 0) (.cons (.var 2) (.cons (.str "0123456789") .nil)))))
  (.cons (.ite (.and (.cmp .Eq (.var 4) (.str "0")) (.cmp .Gt (.var 5) (.op .Add (.var 2) (.int 1)))) (.cons (.ret (.lst (.cons (.var 1) (.cons (.var 2) .nil))))
  .nil) .nil)
  .nil)) (.cons (.ite (.cmp .In (.var 4) (.str "abcdefghijklmnopqrstuvwxyz")) (.cons (.asg (.nm 5) (.call f__law_run (.cons (.var 0) (.cons (.var 2) (.cons (.str "abcdefghijklmnopqrstuvwxyz") .nil)))))
  .nil) (.cons (.ite (.cmp .NotIn (.var 4) (.str "+-*/^();,: ")) (.cons (.ret (.lst (.cons (.var 1) (.cons (.var 2) .nil))))
  .nil) .nil)
  .nil))
  .nil))
  (.cons (.ite (.cmp .NotEq (.var 4) (.str " ")) (.cons (.expr (.me .append (.var 1) (.cons (.lst (.cons (.sl (.var 0) (.so (.var 2)) (.so (.var 5))) (.cons (.var 2) .nil))) .nil)))
  .nil) .nil)
  (.cons (.asg (.nm 2) (.var 5))
  .nil)))))))
  (.cons (.ret (.lst (.cons (.var 1) (.cons .non .nil))))
  .nil))))
abbrev d__law_tokens_of : Fd := ⟨1, 6, b__law_tokens_of⟩
def b__law_thing : ISs := (.cons (.asg (.nm 3) (.call f__law_take (.cons (.var 0) (.cons (.int 7) .nil))))
  (.cons (.ite (.and (.cmp .Gt (.var 3) (.int 2)) (.cmp .Gt (.var 2) (.int 0))) (.cons (.ret (.bi .tuple (.cons (.comp (.nm 4) [4] (.rng1 (.call f__law_take (.cons (.var 0) (.cons (.int 4) .nil)))) .no (.call f__law_thing (.cons (.var 0) (.cons (.var 1) (.cons (.op .Sub (.var 2) (.int 1)) .nil))))) .nil)))
  .nil) .nil)
  (.cons (.ite (.cmp .Eq (.var 3) (.int 1)) (.cons (.ret (.call f__law_pick (.cons (.var 0) (.cons (.var 1) .nil))))
  .nil) .nil)
  (.cons (.ite (.cmp .Eq (.var 3) (.int 2)) (.cons (.ret .non)
  .nil) .nil)
  (.cons (.ret (.call f__law_pick (.cons (.var 0) (.cons (.lst (.cons (.int 0) (.cons (.int 7) (.cons (.neg (.int 1)) (.cons (.int 12) (.cons (.neg (.int 305)) (.cons (.op .Add (.op .Pow (.int 10) (.int 39)) (.int 7)) (.cons (.op .Sub (.neg (.op .Pow (.int 10) (.int 39))) (.int 11)) (.cons (.op .Add (.int 1) (.call f__law_take (.cons (.var 0) (.cons (.int 99999) .nil)))) .nil))))))))) .nil))))
  .nil)))))
abbrev d__law_thing : Fd := ⟨3, 5, b__law_thing⟩
def b__law_paper_tokens : ISs := (.cons (.ret (.comp (.nm 1) [1] (.seq (.ix (.call f__law_tokens_of (.cons (.call f__law_paper_text (.cons (.var 0) .nil)) .nil)) (.int 0))) .no (.ix (.var 1) (.int 0))))
  .nil)
abbrev d__law_paper_tokens : Fd := ⟨1, 2, b__law_paper_tokens⟩
def b_law : ISs := (.cons (.asg (.nm 1) (.call f__law_draws (.cons (.var 0) (.cons (.int 700) .nil))))
  (.cons (.asg (.nm 2) (.op .Add (.comp (.nm 8) [8] (.seq (.call f__law_words (.cons (.var 1) (.cons (.int 3) .nil)))) .no (.op .Add (.var 8) (.op .Mult (.str "e") (.bi .int (.cons (.cmp .Eq (.var 8) (.str "none")) .nil))))) (.lst (.cons (.str "in") (.cons (.str "nonee") (.cons (.str "non") .nil))))))
  (.cons (.asg (.nm 3) (.lst (.cons .non (.cons (.int 0) (.cons (.str "out") (.cons (.tup .nil) (.cons (.neg (.int 5)) .nil)))))))
  (.cons (.forr (.nm 4) (.rng1 (.int 4)) (.cons (.expr (.me .append (.var 3) (.cons (.call f__law_thing (.cons (.var 1) (.cons (.var 2) (.cons (.op .Add (.int 2) (.call f__law_take (.cons (.var 1) (.cons (.int 5) .nil)))) .nil)))) .nil)))
  .nil))
  (.cons (.asg (.nm 5) (.call f__law_thing (.cons (.var 1) (.cons (.var 2) (.cons (.int 1) .nil)))))
  (.cons (.forr (.nm 4) (.rng1 (.op .Add (.int 1) (.call f__law_take (.cons (.var 1) (.cons (.int 39) .nil))))) (.cons (.asg (.nm 5) (.sl (.tup (.cons (.var 5) (.cons (.var 4) .nil))) .no (.so (.op .Add (.int 1) (.op .Mod (.bi .int (.cons (.var 4) .nil)) (.int 2))))))
  .nil))
  (.cons (.forr (.nm 6) (.seq (.op .Add (.var 3) (.lst (.cons (.var 5) .nil)))) (.cons (.ite (.not (.call f__law_same (.cons (.call f_write_paper (.cons (.var 6) .nil)) (.cons (.call f__law_paper_text (.cons (.var 6) .nil)) .nil)))) (.cons (.ret (.bl false))
  .nil) .nil)
  (.cons (.ite (.not (.call f__law_same (.cons (.call f_read_paper (.cons (.call f__law_paper_text (.cons (.var 6) .nil)) .nil)) (.cons (.var 6) .nil)))) (.cons (.ret (.bl false))
  .nil) .nil)
  (.cons (.ite (.not (.call f__law_same (.cons (.call f_read_paper (.cons (.call f__law_spread (.cons (.var 1) (.cons (.call f__law_paper_tokens (.cons (.var 6) .nil)) .nil))) .nil)) (.cons (.var 6) .nil)))) (.cons (.ret (.bl false))
  .nil) .nil)
  .nil))))
  (.cons (.asg (.nm 7) (.tup (.cons (.tup (.cons (.str "in") (.cons (.tup (.cons (.tup (.cons (.tup (.cons (.int 2) (.cons (.int 0) .nil))) (.cons (.tup (.cons (.neg (.int 3)) (.cons (.int 2) .nil))) .nil))) .nil)) .nil))) (.cons .non (.cons (.tup (.cons (.int 5) .nil)) (.cons (.tup .nil) .nil))))))
  (.cons (.ite (.not (.call f__law_same (.cons (.call f_write_paper (.cons (.var 7) .nil)) (.cons (.str "((in, (((2, 0), (-3, 2)))), none, (5), ())") .nil)))) (.cons (.ret (.bl false))
  .nil) .nil)
  (.cons (.ret (.call f__law_same (.cons (.call f_read_paper (.cons (.str " ( - 3 ,none,( ( ) ) ,none )") .nil)) (.cons (.tup (.cons (.neg (.int 3)) (.cons .non (.cons (.tup (.cons (.tup .nil) .nil)) (.cons .non .nil))))) .nil))))
  .nil))))))))))
abbrev d_law : Fd := ⟨1, 9, b_law⟩
abbrev fds : List Fd := [d__wall, d_run_end, d_token_from, d_tokens_of, d_Line___init__, d_Line_kind_here, d_Line_value_here, d_Line_refuse, d_Line_refuse_at, d_Line_take, d_Line_take_one, d_Line_take_signed, d_Line_close, d_leaf_text, d_write_paper, d_take_leaf, d_read_paper, d__law_draws, d__law_take, d__law_pick, d__law_same, d__law_words, d__law_paper_text, d__law_are_apart, d__law_spread, d__law_run, d__law_tokens_of, d__law_thing, d__law_paper_tokens, d_law]
def gl : Nat → D := fun g => match g with
  | 0 => (.str "abcdefghijklmnopqrstuvwxyz")
  | 1 => (.str "0123456789")
  | 2 => (.str "+-*/^();,:")
  | 3 => (.str "none")
  | _ => .non
end K76
end

section
set_option Elab.async false
set_option linter.all false
set_option maxRecDepth 100000
set_option maxHeartbeats 1000000
set_option exponentiation.threshold 20000
namespace K76
open PySem PySem.Spec L2 Dl
theorem atI_0 {α : Type} {a : α} {l : List α} : atI (a :: l) 0 = some a := atI_of (by omega) rfl
theorem atI_1 {α : Type} {a b : α} {l : List α} : atI (a :: b :: l) 1 = some b := atI_of (by omega) rfl
theorem atI_2 {α : Type} {a b c : α} {l : List α} : atI (a :: b :: c :: l) 2 = some c := atI_of (by omega) rfl
theorem w_eqS {x y : Str} {QB : Bool → Store → Prop} {S : Store} (hx : PyData.canLay0 (.str x) = true) (hy : PyData.canLay0 (.str y) = true) : wq (eqD (.str x) (.str y)) QB S = QB (decide (x = y)) S := by
  rw [w_eqD (by unfold D.bf; exact hx) (by unfold D.bf; exact hy) (Nat.zero_le _) (Nat.zero_le _)]
  congr 1
  simp only [D.str.injEq]
theorem w_eqTS {ds : List D} {y : Str} {QB : Bool → Store → Prop} {S : Store} (hx : D.bfs ds = true ∧ D.dps ds ≤ 60) (hy : PyData.canLay0 (.str y) = true) : wq (eqD (.tup ds) (.str y)) QB S = QB false S := by
  rw [w_eqD (by unfold D.bf; exact hx.1) (by unfold D.bf; exact hy) (by unfold D.dp; omega) (Nat.zero_le _)]
  congr 1
theorem ok_lex : PyData.canLay0 (.str "lex") = true := by decide +kernel
theorem wd_lex_lex : decide (("lex" : Str) = "lex") = true := by decide +kernel
theorem wd_lex_degree : decide (("lex" : Str) = "degree") = false := by decide +kernel
theorem wd_lex_back : decide (("lex" : Str) = "back") = false := by decide +kernel
theorem wd_lex_blocks : decide (("lex" : Str) = "blocks") = false := by decide +kernel
theorem wd_lex_weights : decide (("lex" : Str) = "weights") = false := by decide +kernel
theorem ok_degree : PyData.canLay0 (.str "degree") = true := by decide +kernel
theorem wd_degree_lex : decide (("degree" : Str) = "lex") = false := by decide +kernel
theorem wd_degree_degree : decide (("degree" : Str) = "degree") = true := by decide +kernel
theorem wd_degree_back : decide (("degree" : Str) = "back") = false := by decide +kernel
theorem wd_degree_blocks : decide (("degree" : Str) = "blocks") = false := by decide +kernel
theorem wd_degree_weights : decide (("degree" : Str) = "weights") = false := by decide +kernel
theorem ok_back : PyData.canLay0 (.str "back") = true := by decide +kernel
theorem wd_back_lex : decide (("back" : Str) = "lex") = false := by decide +kernel
theorem wd_back_degree : decide (("back" : Str) = "degree") = false := by decide +kernel
theorem wd_back_back : decide (("back" : Str) = "back") = true := by decide +kernel
theorem wd_back_blocks : decide (("back" : Str) = "blocks") = false := by decide +kernel
theorem wd_back_weights : decide (("back" : Str) = "weights") = false := by decide +kernel
theorem ok_blocks : PyData.canLay0 (.str "blocks") = true := by decide +kernel
theorem wd_blocks_lex : decide (("blocks" : Str) = "lex") = false := by decide +kernel
theorem wd_blocks_degree : decide (("blocks" : Str) = "degree") = false := by decide +kernel
theorem wd_blocks_back : decide (("blocks" : Str) = "back") = false := by decide +kernel
theorem wd_blocks_blocks : decide (("blocks" : Str) = "blocks") = true := by decide +kernel
theorem wd_blocks_weights : decide (("blocks" : Str) = "weights") = false := by decide +kernel
theorem ok_weights : PyData.canLay0 (.str "weights") = true := by decide +kernel
theorem wd_weights_lex : decide (("weights" : Str) = "lex") = false := by decide +kernel
theorem wd_weights_degree : decide (("weights" : Str) = "degree") = false := by decide +kernel
theorem wd_weights_back : decide (("weights" : Str) = "back") = false := by decide +kernel
theorem wd_weights_blocks : decide (("weights" : Str) = "blocks") = false := by decide +kernel
theorem wd_weights_weights : decide (("weights" : Str) = "weights") = true := by decide +kernel
local macro_rules | `(tactic| walk_at "dl") => `(tactic| simp (disch := first | assumption | exact get_new | (refine get_app ?_; first | assumption | exact get_new | (refine get_app ?_; first | assumption | exact get_new)) | (refine get_set ?_; assumption) | exact atI_0 | exact atI_1 | exact atI_2 | exact ok_lex | exact ok_degree | exact ok_back | exact ok_blocks | exact ok_weights) only [
  e_cB, e_fB, e_var, e_int, e_bl, e_non, e_str, e_glo, e_tup, e_lst, e_op, e_neg, e_not, e_and, e_or, e_cmp, e_chain, e_ite, e_ix, e_sl, e_rev, e_call, e_bi, e_me, e_isi, e_isis, e_comp, e_tupr, e_lstr, e_nil, e_cons, e_ono, e_oso, e_cno, e_cso, vt_and, vt_or, vt_not, vt_cmp, vt_chain, vt_var, vt_bl, vt_call, vt_bi, vt_isi, vt_isis, vi_seq, vi_rng1, vi_rng2, vi_zip, vg_nm, vg_tp, vg_ixs, gs_nil, gs_cons, x_asg, x_par, x_aug, x_expr, x_ret, x_retN, x_ite, x_for, x_whl, x_pass, x_brk, x_cnt, xs_nil, xs_cons, r_nx, r_rt, w_neg, w_tupr, w_lstr,
  TGs.len, wq_pure, List.getElem?_cons_zero, List.getElem?_cons_succ, List.set_cons_zero, List.set_cons_succ, List.length_cons, List.length_nil, List.length_map, if_true, Bool.false_eq_true, if_false, startE, List.map_cons, List.map_nil, List.replicate, List.cons_append, List.nil_append, wipeE, Nat.zero_add, Nat.reduceAdd, Nat.reduceSub, true_and,
  w_getL_ref, w_getS_ref, w_getL_ro, w_getS_ro, w_getS_tup, w_add, w_sub, w_mul, w_addT, w_addL, w_mulL, w_fdiv, w_mod, w_pow, w_shl, w_lt, w_le, w_gt, w_ge, w_ltT, w_gtT, w_eq, w_ne, w_isN, w_isnN, w_in, w_nin, w_trB, w_trN, w_trI, w_trT, w_trL, w_lenT, w_lenR, w_lenL, w_sumT, w_sumL, w_int, w_intB, w_tupL, w_listL, w_listT, w_append, w_pop, w_reverse, w_isL, w_revT, w_asInt, w_slR, w_srcT, w_srcR, w_srcL, w_rng, w_zipT, zipNX_ints, zipNX_int, true_and, w_unpkT, w_unpkL, w_eqB, w_eqT, w_eqI, w_ixT, w_eqS, w_eqTS, Bool.not_true, Bool.not_false, decide_true, decide_false, wd_lex_lex, wd_lex_degree, wd_lex_back, wd_lex_blocks, wd_lex_weights, wd_degree_lex, wd_degree_degree, wd_degree_back, wd_degree_blocks, wd_degree_weights, wd_back_lex, wd_back_degree, wd_back_back, wd_back_blocks, wd_back_weights, wd_blocks_lex, wd_blocks_degree, wd_blocks_back, wd_blocks_blocks, wd_blocks_weights, wd_weights_lex, wd_weights_degree, wd_weights_back, wd_weights_blocks, wd_weights_weights])
theorem take_wq {n l : Nat} {m : Int} {S : Store} {Q : D → Store → Prop} (hd : Dw l S) (hm : 0 < m)
    (h : ∀ (r : Int) (S' : Store), 0 ≤ r → r < m → Dr l S S' → Q (.int r) S') : wq (call gl fds (n + 1) f__law_take [.ref l, .int m]) Q S := by
  obtain ⟨xs, hl⟩ := hd
  rw [wq_call (fd := d__law_take) rfl rfl]
  dsimp only [d__law_take]
  unfold b__law_take
  try walk_at "dl"
  rcases List.eq_nil_or_concat xs with rfl | ⟨ys, y, rfl⟩
  · exact h 0 S (by omega) hm (Dw.refl ⟨_, hl⟩)
  · rw [if_neg (by simp; omega)]
    rw [List.concat_eq_append, List.map_append, List.map_cons, List.map_nil] at hl
    try walk_at "dl"
    have hf : Fr [l] S (S.set l (.lst (ys.map .int))) := Fr.set .refl _ (.inl (by simp))
    refine ⟨decide_eq_true (by omega), h _ _ (Int.fmod_nonneg_of_pos _ hm) (Int.fmod_lt_of_pos _ hm) ⟨⟨ys, get_set hl⟩, hf⟩⟩
theorem pick_wq {n l r : Nat} {ds : List D} {S : Store} {Q : D → Store → Prop} (hd : Dw l S) (hr : S[r]? = some (.lst ds)) (hne : r ≠ l) (h0 : 0 < ds.length)
    (h : ∀ (d : D) (S' : Store), d ∈ ds → Dr l S S' → Q d S') : wq (call gl fds (n + 2) f__law_pick [.ref l, .ref r]) Q S := by
  rw [wq_call (fd := d__law_pick) rfl rfl]
  dsimp only [d__law_pick]
  unfold b__law_pick
  try walk_at "dl"
  refine take_wq hd (by omega) fun k S' k0 k1 k2 => ?_
  have hr' := k2.get hr hne
  have hk : k.toNat < ds.length := by omega
  rw [w_ixL hr' (atI_of k0 (List.getElem?_eq_getElem hk))]
  exact h _ _ (List.getElem_mem _) k2
end K76
end

section
set_option Elab.async false
set_option linter.all false
set_option maxRecDepth 100000
set_option maxHeartbeats 1000000
set_option exponentiation.threshold 20000
namespace K76
open PySem PySem.Spec L2 Dl
local macro_rules | `(tactic| walk_at "dl") => `(tactic| simp (disch := first | assumption | exact get_new | (refine get_app ?_; first | assumption | exact get_new | (refine get_app ?_; first | assumption | exact get_new)) | (refine get_set ?_; assumption) | exact atI_0 | exact atI_1 | exact atI_2 | exact ok_lex | exact ok_degree | exact ok_back | exact ok_blocks | exact ok_weights | exact nL8.1 | exact nL8.2.1 | exact nL8.2.2.1 | exact nL8.2.2.2.1 | exact nL8.2.2.2.2.1 | exact nL8.2.2.2.2.2.1 | exact nL8.2.2.2.2.2.2) only [
  e_fld, e_new, e_mcall, vt_mcall, e_m1, e_fst, f_nil, f_cons, e_fnv, vi_rngd, x_setf, x_augf, wL_row, wL_tok, wL_tak, wL_isO', wL_setT, w_inT, w_ninT, w_inC, w_ninC, w_addS, w_mulS, w_lenS, w_strI, w_strS, w_slS, w_okJ, w_rngd, w_fmtS, w_fmtI, tS_app, tS_len, tS_rep, tS_eq, lit_sgs, lit_lts, lit_dgs, li_word, li_number, li_end, li_empty, li_none, li_lp, li_rp, li_cm, li_cms, li_mi, li_sp, e_cB, e_fB, e_var, e_int, e_bl, e_non, e_str, e_glo, e_tup, e_lst, e_op, e_neg, e_not, e_and, e_or, e_cmp, e_chain, e_ite, e_ix, e_sl, e_rev, e_call, e_bi, e_me, e_isi, e_isis, e_comp, e_tupr, e_lstr, e_nil, e_cons, e_ono, e_oso, e_cno, e_cso, vt_and, vt_or, vt_not, vt_cmp, vt_chain, vt_var, vt_bl, vt_call, vt_bi, vt_isi, vt_isis, vi_seq, vi_rng1, vi_rng2, vi_zip, vg_nm, vg_tp, vg_ixs, gs_nil, gs_cons, x_asg, x_par, x_aug, x_expr, x_ret, x_retN, x_ite, x_for, x_whl, x_pass, x_brk, x_cnt, xs_nil, k_one, k_cons, k_rt, k_bk, k_ct, r_nx, r_rt, w_neg, w_tupr, w_lstr,
  TGs.len, wq_pure, List.getElem?_cons_zero, List.getElem?_cons_succ, List.set_cons_zero, List.set_cons_succ, List.length_cons, List.length_nil, List.length_map, if_true, Bool.false_eq_true, if_false, startE, List.map_cons, List.map_nil, List.replicate, List.cons_append, List.nil_append, wipeE, Nat.zero_add, Nat.reduceAdd, Nat.reduceSub, true_and,
  w_getL_ref, w_getS_ref, w_getL_ro, w_getS_ro, w_getS_tup, w_add, w_sub, w_mul, w_addT, w_addL, w_mulL, w_fdiv, w_mod, w_pow, w_shl, w_lt, w_le, w_gt, w_ge, w_ltT, w_gtT, w_eq, w_ne, w_isN, w_isnN, w_in, w_nin, w_trB, w_trN, w_trI, w_trT, w_trL, w_lenT, w_lenR, w_lenL, w_sumT, w_sumL, w_int, w_intB, w_tupL, w_listL, w_listT, w_append, w_pop, w_reverse, w_isL, w_revT, w_asInt, w_slR, w_srcT, w_srcR, w_srcL, w_rng, w_zipT, zipNX_ints, zipNX_int, true_and, w_unpkT, w_unpkL, w_eqB, w_eqT, w_eqI, w_ixT, w_eqS, w_eqTS, Bool.not_true, Bool.not_false, decide_true, decide_false, wd_lex_lex, wd_lex_degree, wd_lex_back, wd_lex_blocks, wd_lex_weights, wd_degree_lex, wd_degree_degree, wd_degree_back, wd_degree_blocks, wd_degree_weights, wd_back_lex, wd_back_degree, wd_back_back, wd_back_blocks, wd_back_weights, wd_blocks_lex, wd_blocks_degree, wd_blocks_back, wd_blocks_blocks, wd_blocks_weights, wd_weights_lex, wd_weights_degree, wd_weights_back, wd_weights_blocks, wd_weights_weights])
local macro_rules | `(tactic| walk_at "nx") => `(tactic| (rw [k_nx]; try walk_at "dl"))
local macro_rules | `(tactic| walk_at "cj") => `(tactic| repeat refine And.intro (by first | decide | exact lens_of (by decide) | exact lens_of (by simp) | simp) ?_)
theorem kind_wq {n l tl k : Nat} {r : Int} {ts : List (Nat × Tk)} {p : Nat × Tk} {S : Store} {Q : D → Store → Prop} (h : LN S l tl r ts k) (hp : ts[k]? = some p) (q : Q (.str (tS (kc p.2))) S) : wq (call gl fds (n + 1) f_Line_kind_here [.ref l]) Q S := by
  have h1 := h.lo
  have h2 := h.tk
  rw [wq_call (fd := d_Line_kind_here) rfl rfl]
  dsimp only [d_Line_kind_here]
  unfold b_Line_kind_here
  walk_at "dl"
  rw [w_ixL h2 (atI_tok hp)]
  walk_at "dl"
  exact q
theorem value_wq {n l tl k : Nat} {r : Int} {ts : List (Nat × Tk)} {p : Nat × Tk} {S : Store} {Q : D → Store → Prop} (h : LN S l tl r ts k) (hp : ts[k]? = some p) (q : Q (vlD p.2) S) : wq (call gl fds (n + 1) f_Line_value_here [.ref l]) Q S := by
  have h1 := h.lo
  have h2 := h.tk
  rw [wq_call (fd := d_Line_value_here) rfl rfl]
  dsimp only [d_Line_value_here]
  unfold b_Line_value_here
  walk_at "dl"
  rw [w_ixL h2 (atI_tok hp)]
  walk_at "dl"
  exact q
theorem ltake_wq {n l tl k : Nat} {r : Int} {ts : List (Nat × Tk)} {p : Nat × Tk} {z : List Nat} {S : Store} {Q : D → Store → Prop} (h : LN S l tl r ts k) (hp : ts[k]? = some p) (hz : kc p.2 = z)
    (q : ∀ S', LN S' l tl r ts (k + 1) → Fr [l] S S' → Q (vlD p.2) S') : wq (call gl fds (n + 2) f_Line_take [.ref l, .str (tS z)]) Q S := by
  subst hz
  have h1 := h.lo
  have hk := h.okc hp
  rw [wq_call (fd := d_Line_take) rfl rfl]
  dsimp only [d_Line_take]
  unfold b_Line_take
  walk_at "dl"
  refine kind_wq h hp ?_
  walk_at "dl"
  walk_at "nx"
  refine value_wq h hp ?_
  try walk_at "dl"
  try walk_at "nx"
  refine ⟨by decide, rfl, ?_⟩
  try walk_at "nx"
  exact q _ (h.set (k + 1)) (Fr.set .refl _ (.inl (by simp)))
/-- a signed number -/
theorem lsigned_wq {n l tl k : Nat} {r : Int} {ts : List (Nat × Tk)} {S : Store} {Q : D → Store → Prop} {i : Nat} {m : Nat} (h : LN S l tl r ts k) (hp : ts[k]? = some (i, .nm m))
    (q : ∀ S', LN S' l tl r ts (k + 1) → Fr [l] S S' → Q (.int m) S') : wq (call gl fds (n + 3) f_Line_take_signed [.ref l]) Q S := by
  have h1 := h.lo
  have hk := h.okc hp
  rw [wq_call (fd := d_Line_take_signed) rfl rfl]
  dsimp only [d_Line_take_signed]
  unfold b_Line_take_signed
  walk_at "dl"
  refine kind_wq h hp ?_
  have ok1 : PyData.canLay0 (.str (tS [45])) = true := by decide +kernel
  walk_at "dl"
  rw [if_pos (by simp [kc])]
  refine ltake_wq h hp rfl fun S' a b => ?_
  walk_at "dl"
  exact q S' a b
theorem lsigned2_wq {n l tl k : Nat} {r : Int} {ts : List (Nat × Tk)} {S : Store} {Q : D → Store → Prop} {i j : Nat} {m : Nat} (h : LN S l tl r ts k) (hp : ts[k]? = some (i, .sg 45)) (hp2 : ts[k + 1]? = some (j, .nm m)) (hm : m ≠ 0)
    (q : ∀ S', LN S' l tl r ts (k + 2) → Fr [l] S S' → Q (.int (-m)) S') : wq (call gl fds (n + 3) f_Line_take_signed [.ref l]) Q S := by
  have h1 := h.lo
  have hk := h.okc hp
  have hk2 := h.okc hp2
  rw [wq_call (fd := d_Line_take_signed) rfl rfl]
  dsimp only [d_Line_take_signed]
  unfold b_Line_take_signed
  walk_at "dl"
  refine kind_wq h hp ?_
  have ok1 : PyData.canLay0 (.str (tS [45])) = true := by decide +kernel
  have ok2 : PyData.canLay0 (.str (tS [110, 117, 109, 98, 101, 114])) = true := by decide +kernel
  walk_at "dl"
  rw [if_neg (by decide)]
  walk_at "nx"
  refine ltake_wq h hp rfl fun S' a b => ?_
  have h2 := a.lo
  try walk_at "dl"
  try walk_at "nx"
  refine kind_wq a hp2 ?_
  walk_at "dl"
  rw [if_pos (by simp [kc])]
  refine value_wq a hp2 ?_
  show wq (eqD (.int m) (.int 0)) _ _
  rw [w_eqI]
  rw [if_neg (by simpa using hm)]
  try walk_at "dl"
  try walk_at "nx"
  refine ltake_wq a hp2 rfl fun S3 a3 b3 => ?_
  show wq (negD (.int m)) _ _
  rw [w_neg]
  try walk_at "dl"
  exact q S3 a3 (b.trans b3)
theorem lclose_wq {n l tl k : Nat} {r : Int} {ts : List (Nat × Tk)} {S : Store} {Q : D → Store → Prop} {i : Nat} (h : LN S l tl r ts k) (hp : ts[k]? = some (i, .en))
    (q : Q .non S) : wq (call gl fds (n + 2) f_Line_close [.ref l]) Q S := by
  have h1 := h.lo
  have hk := h.okc hp
  rw [wq_call (fd := d_Line_close) rfl rfl]
  dsimp only [d_Line_close]
  unfold b_Line_close
  walk_at "dl"
  refine kind_wq h hp ?_
  have ok2 : PyData.canLay0 (.str (tS [101, 110, 100])) = true := by decide +kernel
  walk_at "dl"
  rw [if_neg (by decide)]
  try walk_at "dl"
  try walk_at "nx"
  exact q
/-! ### tokens of a line -/
theorem run_end_wq {n : Nat} {cs z : List Nat} {i : Nat} {S : Store} {Q : D → Store → Prop} (hl : cs.length ≤ 1000000) (hi : i ≤ cs.length)
    (q : Q (.int ((i + ((cs.drop i).takeWhile fun c => decide (c ∈ z)).length : Nat))) S) : wq (call gl fds (n + 1) f_run_end [.str (tS cs), .int i, .str (tS z)]) Q S := by
  rw [wq_call (fd := d_run_end) rfl rfl]
  dsimp only [d_run_end]
  unfold b_run_end
  walk_at "dl"
  refine ⟨by decide, ?_⟩
  try walk_at "nx"
  refine whlL_wq (fun k e S' => ∃ j : Nat, i ≤ j ∧ j ≤ cs.length ∧ k = cs.length - j ∧ j + ((cs.drop j).takeWhile fun c => decide (c ∈ z)).length = i + ((cs.drop i).takeWhile fun c => decide (c ∈ z)).length ∧ S' = S ∧ e = [some (.str (tS cs)), some (.int i), some (.str (tS z)), some (.int j)]) ?_ bigN (cs.length - i) _ S ⟨i, Nat.le_refl _, hi, rfl, rfl, rfl, rfl⟩ (by unfold bigN; omega)
  rintro k e S' ⟨j, h1, h2, rfl, h3, rfl, rfl⟩
  walk_at "dl"
  refine ⟨lens_of hl, ?_⟩
  by_cases hj : j < cs.length
  · rw [if_pos (decide_eq_true (by omega))]
    try walk_at "dl"
    have hd : cs.drop j = cs[j] :: cs.drop (j + 1) := List.drop_eq_getElem_cons hj
    rw [w_ixS (atI_of (by omega) (by rw [Int.toNat_natCast]; exact List.getElem?_eq_getElem hj)) hl]
    try walk_at "dl"
    rw [hd, List.takeWhile_cons] at h3
    by_cases hz : cs[j] ∈ z
    · rw [if_pos (decide_eq_true hz)]
      rw [decide_eq_true hz] at h3
      try walk_at "dl"
      refine ⟨rfl, cs.length - (j + 1), by omega, j + 1, by omega, by omega, rfl, ?_, rfl, rfl⟩
      simp only [if_true, List.length_cons] at h3
      omega
    · rw [if_neg (by simpa using hz)]
      rw [decide_eq_false hz] at h3
      simp only [Bool.false_eq_true, if_false, List.length_nil, Nat.add_zero] at h3
      try walk_at "nx"
      try walk_at "dl"
      rw [h3]
      exact q
  · rw [if_neg (by simp; omega)]
    have hd : cs.drop j = [] := List.drop_eq_nil_iff.mpr (by omega)
    rw [hd] at h3
    simp only [List.takeWhile_nil, List.length_nil, Nat.add_zero] at h3
    try walk_at "nx"
    try walk_at "dl"
    rw [h3]
    exact q
end K76
end

section
set_option Elab.async false
set_option linter.all false
set_option maxRecDepth 100000
set_option maxHeartbeats 1000000
set_option exponentiation.threshold 20000
namespace K76
open PySem PySem.Spec L2 Dl
local macro_rules | `(tactic| walk_at "dl") => `(tactic| simp (disch := first | assumption | exact get_new | (refine get_app ?_; first | assumption | exact get_new | (refine get_app ?_; first | assumption | exact get_new)) | (refine get_set ?_; assumption) | exact atI_0 | exact atI_1 | exact atI_2 | exact ok_lex | exact ok_degree | exact ok_back | exact ok_blocks | exact ok_weights | exact nL8.1 | exact nL8.2.1 | exact nL8.2.2.1 | exact nL8.2.2.2.1 | exact nL8.2.2.2.2.1 | exact nL8.2.2.2.2.2.1 | exact nL8.2.2.2.2.2.2) only [
  e_fld, e_new, e_mcall, vt_mcall, e_m1, e_fst, f_nil, f_cons, e_fnv, vi_rngd, x_setf, x_augf, wL_row, wL_tok, wL_tak, wL_isO', wL_setT, w_inT, w_ninT, w_inC, w_ninC, w_addS, w_mulS, w_lenS, w_strI, w_strS, w_slS, w_okJ, w_rngd, w_fmtS, w_fmtI, tS_app, tS_len, tS_rep, tS_eq, lit_sgs, lit_lts, lit_dgs, li_word, li_number, li_end, li_empty, li_none, li_lp, li_rp, li_cm, li_cms, li_mi, li_sp, li_zero, e_cB, e_fB, e_var, e_int, e_bl, e_non, e_str, e_glo, e_tup, e_lst, e_op, e_neg, e_not, e_and, e_or, e_cmp, e_chain, e_ite, e_ix, e_sl, e_rev, e_call, e_bi, e_me, e_isi, e_isis, e_comp, e_tupr, e_lstr, e_nil, e_cons, e_ono, e_oso, e_cno, e_cso, vt_and, vt_or, vt_not, vt_cmp, vt_chain, vt_var, vt_bl, vt_call, vt_bi, vt_isi, vt_isis, vi_seq, vi_rng1, vi_rng2, vi_zip, vg_nm, vg_tp, vg_ixs, gs_nil, gs_cons, x_asg, x_par, x_aug, x_expr, x_ret, x_retN, x_ite, x_for, x_whl, x_pass, x_brk, x_cnt, xs_nil, k_one, k_cons, k_rt, k_bk, k_ct, r_nx, r_rt, w_neg, w_tupr, w_lstr,
  TGs.len, wq_pure, List.getElem?_cons_zero, List.getElem?_cons_succ, List.set_cons_zero, List.set_cons_succ, List.length_cons, List.length_nil, List.length_map, if_true, Bool.false_eq_true, if_false, startE, List.map_cons, List.map_nil, List.replicate, List.cons_append, List.nil_append, wipeE, Nat.zero_add, Nat.reduceAdd, Nat.reduceSub, true_and,
  w_getL_ref, w_getS_ref, w_getL_ro, w_getS_ro, w_getS_tup, w_add, w_sub, w_mul, w_addT, w_addL, w_mulL, w_fdiv, w_mod, w_pow, w_shl, w_lt, w_le, w_gt, w_ge, w_ltT, w_gtT, w_eq, w_ne, w_isN, w_isnN, w_in, w_nin, w_trB, w_trN, w_trI, w_trT, w_trL, w_lenT, w_lenR, w_lenL, w_sumT, w_sumL, w_int, w_intB, w_tupL, w_listL, w_listT, w_append, w_pop, w_reverse, w_isL, w_revT, w_asInt, w_slR, w_srcT, w_srcR, w_srcL, w_rng, w_zipT, zipNX_ints, zipNX_int, true_and, w_unpkT, w_unpkL, w_eqB, w_eqT, w_eqI, w_ixT, w_eqS, w_eqTS, Bool.not_true, Bool.not_false, decide_true, decide_false, wd_lex_lex, wd_lex_degree, wd_lex_back, wd_lex_blocks, wd_lex_weights, wd_degree_lex, wd_degree_degree, wd_degree_back, wd_degree_blocks, wd_degree_weights, wd_back_lex, wd_back_degree, wd_back_back, wd_back_blocks, wd_back_weights, wd_blocks_lex, wd_blocks_degree, wd_blocks_back, wd_blocks_blocks, wd_blocks_weights, wd_weights_lex, wd_weights_degree, wd_weights_back, wd_weights_blocks, wd_weights_weights])
local macro_rules | `(tactic| walk_at "nx") => `(tactic| (rw [k_nx]; try walk_at "dl"))
local macro_rules | `(tactic| walk_at "cj") => `(tactic| repeat refine And.intro (by first | decide | exact lens_of (by decide) | exact lens_of (by simp) | simp) ?_)
theorem gl0 : gl 0 = .str (tS lts) := congrArg D.str lit_lts
theorem gl1 : gl 1 = .str (tS dgs) := congrArg D.str lit_dgs
theorem gl2 : gl 2 = .str (tS sgs) := congrArg D.str lit_sgs
theorem token_from_wq {n : Nat} {cs : List Nat} {i : Nat} {S : Store} {Q : D → Store → Prop} (hl : cs.length ≤ 1000000) (hi : i < cs.length) (hsp : cs[i] ≠ 32) (hok : ∀ c ∈ cs, c < 1000000) (hb : ∀ p ∈ lexI (cs.drop i) i, sm p.2)
    (q : ∀ (t : Tk) (e : Nat), ((t = .bd ∧ lexI (cs.drop i) i = [(i, .bd)]) ∨ (t ≠ .bd ∧ i < e ∧ e ≤ cs.length ∧ lexI (cs.drop i) i = (i, t) :: lexI (cs.drop e) e)) → Q (.tup [.str (tS (kc t)), vlD t, .int e]) S) :
    wq (call gl fds (n + 2) f_token_from [.str (tS cs), .int i]) Q S := by
  have hd : cs.drop i = cs[i] :: cs.drop (i + 1) := List.drop_eq_getElem_cons hi
  have hat : atI cs (i : Int) = some cs[i] := atI_of (by omega) (by rw [Int.toNat_natCast]; exact List.getElem?_eq_getElem hi)
  have hc : cs[i] < 1000000 := hok _ (List.getElem_mem hi)
  rw [hd] at q hb
  generalize hce : cs[i] = c at *
  rw [wq_call (fd := d_token_from) rfl rfl]
  dsimp only [d_token_from]
  unfold b_token_from
  try walk_at "dl"
  rw [w_ixS hat hl]
  refine ⟨by decide, ?_⟩
  try walk_at "nx"
  rw [gl2, w_inC]
  by_cases hS : isS c = true
  · rw [if_pos (show decide (c ∈ sgs) = true from hS)]
    try walk_at "dl"
    refine ⟨by decide, ?_⟩
    have := q (.sg c) (i + 1) (.inr ⟨by simp, by omega, by omega, lexI_sg hS _ _⟩)
    exact this
  rw [if_neg (show ¬ decide (c ∈ sgs) = true from hS)]
  try walk_at "dl"
  try walk_at "nx"
  rw [gl0, w_inC]
  by_cases hA : isA c = true
  · rw [if_pos (show decide (c ∈ lts) = true from hA)]
    try walk_at "dl"
    refine run_end_wq hl (by omega) ?_
    have hlen := tw_len isA (cs.drop (i + 1))
    rw [List.length_drop] at hlen
    have hw : (cs.drop i).takeWhile (fun c => decide (c ∈ lts)) = c :: (cs.drop (i + 1)).takeWhile isA := by
      rw [hd, List.takeWhile_cons]
      show (if isA c = true then _ else _) = _
      rw [if_pos hA]
      rfl
    rw [hw]
    have e1 : i + (c :: (cs.drop (i + 1)).takeWhile isA).length = i + 1 + ((cs.drop (i + 1)).takeWhile isA).length := by rw [List.length_cons]; omega
    have := q (.wd (c :: (cs.drop (i + 1)).takeWhile isA)) (i + 1 + ((cs.drop (i + 1)).takeWhile isA).length) (.inr ⟨by simp, by omega, by omega, by rw [lexI_wd hA, dw_drop, List.drop_drop]⟩)
    have e2 : (cs.drop i).take (i + 1 + ((cs.drop (i + 1)).takeWhile isA).length - i) = c :: (cs.drop (i + 1)).takeWhile isA := by
      rw [show i + 1 + ((cs.drop (i + 1)).takeWhile isA).length - i = ((cs.drop (i + 1)).takeWhile isA).length + 1 by omega, hd, List.take_succ_cons, take_tw]
    rw [e1]
    have hge : i + 1 + ((cs.drop (i + 1)).takeWhile isA).length ≤ cs.length := by omega
    have hgi : i ≤ i + 1 + ((cs.drop (i + 1)).takeWhile isA).length := by omega
    generalize i + 1 + ((cs.drop (i + 1)).takeWhile isA).length = e at *
    try walk_at "dl"
    refine ⟨by decide, ?_⟩
    try walk_at "nx"
    refine ⟨lens_of hl, by decide, ?_⟩
    rw [cutS_nat cs hgi hge, e2]
    exact this
  rw [if_neg (show ¬ decide (c ∈ lts) = true from hA)]
  try walk_at "dl"
  try walk_at "nx"
  rw [gl1]
  refine run_end_wq hl (by omega) ?_
  have hw0 : (fun c => decide (c ∈ dgs)) = isD := rfl
  rw [hw0]
  have okc : PyData.canLay0 (.str (tS [c])) = true := tS_ok fun d hd => by rw [List.mem_singleton] at hd; omega
  have ok0 : PyData.canLay0 (.str (tS [48])) = true := by decide +kernel
  by_cases hD : isD c = true
  · have hw : (cs.drop i).takeWhile isD = c :: (cs.drop (i + 1)).takeWhile isD := by rw [hd, List.takeWhile_cons, if_pos hD]
    have hlen := tw_len isD (cs.drop (i + 1))
    rw [List.length_drop] at hlen
    have e2 : (cs.drop i).take (i + 1 + ((cs.drop (i + 1)).takeWhile isD).length - i) = c :: (cs.drop (i + 1)).takeWhile isD := by
      rw [show i + 1 + ((cs.drop (i + 1)).takeWhile isD).length - i = ((cs.drop (i + 1)).takeWhile isD).length + 1 by omega, hd, List.take_succ_cons, take_tw]
    have e3 : lexI ((cs.drop (i + 1)).dropWhile isD) (i + 1 + ((cs.drop (i + 1)).takeWhile isD).length) = lexI (cs.drop (i + 1 + ((cs.drop (i + 1)).takeWhile isD).length)) (i + 1 + ((cs.drop (i + 1)).takeWhile isD).length) := by rw [dw_drop, List.drop_drop]
    have hall : NumText.AllDigits (c :: (cs.drop (i + 1)).takeWhile isD) := fun x hx => by
      rcases List.mem_cons.mp hx with rfl | hx
      · exact isD_iff.mp hD
      · exact isD_iff.mp (tw_all isD _ x hx)
    have hb0 := fun (h0 : ¬ (c = 48 ∧ (cs.drop (i + 1)).takeWhile isD ≠ [])) => hb _ (by rw [lexI_nm hD _ _ h0]; exact List.mem_cons_self)
    have qn := fun (h0 : ¬ (c = 48 ∧ (cs.drop (i + 1)).takeWhile isD ≠ [])) => q (.nm (NumText.digitsVal (c :: (cs.drop (i + 1)).takeWhile isD))) (i + 1 + ((cs.drop (i + 1)).takeWhile isD).length) (.inr ⟨by simp, by omega, by omega, by rw [lexI_nm hD _ _ h0, e3]⟩)
    have qb := fun (h0 : (cs.drop (i + 1)).takeWhile isD ≠ []) (hc : c = 48) => q .bd i (.inl ⟨rfl, by rw [hc]; exact lexI_b0 _ h0⟩)
    rw [hw, show i + (c :: (cs.drop (i + 1)).takeWhile isD).length = i + 1 + ((cs.drop (i + 1)).takeWhile isD).length by rw [List.length_cons]; omega]
    have hge : i + 1 + ((cs.drop (i + 1)).takeWhile isD).length ≤ cs.length := by omega
    have hgi : i < i + 1 + ((cs.drop (i + 1)).takeWhile isD).length := by omega
    have hg1 : (cs.drop (i + 1)).takeWhile isD ≠ [] ↔ i + 1 < i + 1 + ((cs.drop (i + 1)).takeWhile isD).length := by
      rw [← List.length_pos_iff]
      omega
    clear hb hw e3
    generalize (cs.drop (i + 1)).takeWhile isD = w at *
    generalize i + 1 + w.length = e at *
    have num : ∀ S', ¬ (c = 48 ∧ w ≠ []) → S' = S → kQ gl (Dl.call gl fds (n + 1)) (ISs.cons (IS.ret (IE.tup (IEs.cons (IE.str (tS [110, 117, 109, 98, 101, 114])) (IEs.cons (IE.bi Bi.int (IEs.cons ((IE.var 0).sl (IO.so (IE.var 1)) (IO.so (IE.var 3))) IEs.nil)) (IEs.cons (IE.var 3) IEs.nil))))) ISs.nil)
        (fun r S' => wq (ofFl r) Q S') (Fl.nx, [some (D.str (tS cs)), some (D.int i), some (D.str (tS [c])), some (D.int e)]) S' := by
      rintro S' h0 rfl
      try walk_at "nx"
      refine ⟨lens_of hl, ?_⟩
      rw [cutS_nat cs (Nat.le_of_lt hgi) hge, e2]
      have hh : (c :: w).length = 1 ∨ ∃ d r, c :: w = d :: r ∧ 49 ≤ d := by
        by_cases hw : w = []
        · left; rw [hw]; rfl
        · right
          have := isD_iff.mp hD
          have : c ≠ 48 := fun z => h0 ⟨z, hw⟩
          exact ⟨c, w, rfl, by omega⟩
      have hsm : NumText.digitsVal (c :: w) < 10 ^ 640 := hb0 h0
      have hlw := val_lt hall hh (by decide) hsm
      have hdg := dg_of hall hh
      have hi' : intText? (tS (c :: w)) = some ((NumText.digitsVal (c :: w) : Nat) : Int) := by
        have := int_dg (n := NumText.digitsVal (c :: w)) (by rw [hdg]; omega)
        rw [hdg] at this
        exact this
      rw [w_intS hi', tS_len]
      refine ⟨decide_eq_true hlw, by decide, ?_⟩
      exact qn h0
    try walk_at "dl"
    refine ⟨by decide, ?_⟩
    try walk_at "nx"
    rw [if_neg (by simp; omega)]
    by_cases h48 : c = 48
    · rw [if_pos (by simp [h48])]
      by_cases hw : w = []
      · rw [if_neg (by
          have : ¬ (i + 1 < e) := fun z => (hg1.mpr z) hw
          simp; omega)]
        exact num S (fun z => z.2 hw) rfl
      · rw [if_pos (by
          have := hg1.mp hw
          simp; omega)]
        exact ⟨by decide, qb hw h48⟩
    · rw [if_neg (by simp [h48])]
      exact num S (fun z => h48 z.1) rfl
  · have hw : (cs.drop i).takeWhile isD = [] := by rw [hd, List.takeWhile_cons, if_neg hD]
    rw [hw, List.length_nil, Nat.add_zero]
    try walk_at "dl"
    refine ⟨by decide, ?_⟩
    try walk_at "nx"
    rw [if_pos (by simp)]
    refine ⟨by decide, ?_⟩
    exact q .bd i (.inl ⟨rfl, lexI_bd i hsp (by simpa using hS) (by simpa using hA) (by simpa using hD)⟩)
theorem sn_drop (cs : List Nat) (i : Nat) : lexI (cs.drop i) i = lexI (cs.drop (i + sn (cs.drop i))) (i + sn (cs.drop i)) := by
  have e : cs.drop i = List.replicate (sn (cs.drop i)) 32 ++ cs.drop (i + sn (cs.drop i)) := by
    have h1 := List.takeWhile_append_dropWhile (p := isSp) (l := cs.drop i)
    have h2 : (cs.drop i).takeWhile isSp = List.replicate (sn (cs.drop i)) 32 := by
      refine List.eq_replicate_iff.mpr ⟨rfl, fun c hc => ?_⟩
      have := tw_all isSp _ c hc
      unfold isSp at this
      exact eq_of_beq this
    rw [h2, dw_drop, List.drop_drop] at h1
    exact h1.symm
  have k : sn (cs.drop i) = sn (cs.drop i) := rfl
  generalize hm : sn (cs.drop i) = m at *
  rw [e, lexI_gap]
theorem sn_nosp (cs : List Nat) (i : Nat) (h : i + sn (cs.drop i) < cs.length) : cs[i + sn (cs.drop i)] ≠ 32 := by
  intro e
  have h1 : (cs.drop i).dropWhile isSp = cs[i + sn (cs.drop i)] :: cs.drop (i + sn (cs.drop i) + 1) := by
    rw [dw_drop, List.drop_drop]
    exact List.drop_eq_getElem_cons h
  have := List.head?_dropWhile_not isSp (cs.drop i)
  rw [h1, e] at this
  simp [isSp] at this
theorem sn_le (cs : List Nat) (i : Nat) (h : i ≤ cs.length) : i + sn (cs.drop i) ≤ cs.length := by
  have := tw_len isSp (cs.drop i)
  rw [List.length_drop] at this
  unfold sn
  omega
theorem tokens_of_wq {n : Nat} {cs : List Nat} {S : Store} {Q : D → Store → Prop} (hl : cs.length ≤ 900000) (hok : ∀ c ∈ cs, c < 1000000) (hb : ∀ p ∈ lexA cs, sm p.2)
    (q : ∀ tl S', S.length ≤ tl → S'[tl]? = some (.lst ((lexA cs).map tokD)) → Fr [] S S' → Q (.ref tl) S') : wq (call gl fds (n + 3) f_tokens_of [.str (tS cs)]) Q S := by
  rw [wq_call (fd := d_tokens_of) rfl rfl]
  dsimp only [d_tokens_of]
  unfold b_tokens_of
  try walk_at "dl"
  refine ⟨by decide, by decide, ?_⟩
  try walk_at "nx"
  refine run_end_wq (i := 0) (by omega) (by omega) ?_
  rw [sp_eq]
  have h0 : lexA cs = [] ++ lexI (cs.drop (0 + sn (cs.drop 0))) (0 + sn (cs.drop 0)) := by
    rw [List.nil_append, ← sn_drop]
    rfl
  have hi0 : 0 + sn (cs.drop 0) ≤ cs.length := sn_le cs 0 (by omega)
  have hs0 : ∀ h : 0 + sn (cs.drop 0) < cs.length, cs[0 + sn (cs.drop 0)] ≠ 32 := fun h => sn_nosp cs 0 h
  rw [show (0 + ((cs.drop 0).takeWhile isSp).length) = 0 + sn (cs.drop 0) from rfl]
  generalize 0 + sn (cs.drop 0) = i0 at *
  try walk_at "dl"
  refine ⟨by decide, ?_⟩
  try walk_at "nx"
  have g0 : (S ++ [Ob.lst []])[S.length]? = some (.lst []) := get_new
  have f0 : Fr [] S (S ++ [Ob.lst []]) := Fr.refl.new _
  generalize (S ++ [Ob.lst []]) = S1 at *
  generalize htl : S.length = tl at *
  refine whlL_wq (fun k e S' => ∃ (i : Nat) (acc : List (Nat × Tk)) (o3 o4 o5 : Option D), k = cs.length - i ∧ i ≤ cs.length ∧ (∀ h : i < cs.length, cs[i] ≠ 32) ∧ acc.length ≤ i ∧ lexA cs = acc ++ lexI (cs.drop i) i ∧ S'[tl]? = some (.lst (acc.map tokD)) ∧ Fr [tl] S1 S' ∧ e = [some (.str (tS cs)), some (.ref tl), some (.int i), o3, o4, o5])
    ?_ bigN (cs.length - i0) _ S1 ⟨i0, [], none, none, none, rfl, hi0, hs0, Nat.zero_le _, h0, g0, .refl, rfl⟩ (by unfold bigN; omega)
  rintro k e S' ⟨i, acc, o3, o4, o5, rfl, hi, hns, hacc, hlx, g, f, rfl⟩
  try walk_at "dl"
  refine ⟨lens_of (by omega), ?_⟩
  have ff : Fr [] S S' := ⟨Nat.le_trans f0.le f.le, fun j o hj e => f.get j o (by
    rw [List.mem_singleton]
    rintro rfl
    have := lt_of_get e
    omega) (f0.get j o hj e)⟩
  by_cases h : i < cs.length
  · rw [if_pos (decide_eq_true (by omega))]
    try walk_at "dl"
    refine token_from_wq (by omega) h (hns h) hok (fun p hp => hb p (by rw [hlx]; exact List.mem_append_right _ hp)) fun t e ht => ?_
    try walk_at "dl"
    refine ⟨by decide, by decide, by decide, ?_⟩
    try walk_at "nx"
    refine ⟨by decide, ?_, ?_⟩
    · try rw [List.length_map]
      exact Nat.lt_of_lt_of_le (show acc.length < 1000000 by omega) (by decide)
    have g2 : (S'.set tl (.lst (acc.map tokD ++ [D.tup [D.int i, D.str (tS (kc t)), vlD t]])))[tl]? = some (.lst ((acc ++ [(i, t)]).map tokD)) := by
      rw [get_set g, List.map_append]
      rfl
    have f2 : Fr [tl] S1 (S'.set tl (.lst (acc.map tokD ++ [D.tup [D.int i, D.str (tS (kc t)), vlD t]]))) := f.set _ (.inl (by simp))
    have ff2 : Fr [] S (S'.set tl (.lst (acc.map tokD ++ [D.tup [D.int i, D.str (tS (kc t)), vlD t]]))) := ff.set _ (.inr (by omega))
    generalize (S'.set tl (.lst (acc.map tokD ++ [D.tup [D.int i, D.str (tS (kc t)), vlD t]]))) = S2 at *
    have okk : PyData.canLay0 (.str (tS (kc t))) = true := ok_kc (by
      rcases ht with ⟨rfl, _⟩ | ⟨_, _, _, e1⟩
      · trivial
      · exact lexI_tg (cs.drop i) i (i, t) (by rw [e1]; exact List.mem_cons_self))
    have ok0 : PyData.canLay0 (.str (tS [])) = true := by decide +kernel
    try walk_at "nx"
    rcases ht with ⟨rfl, e1⟩ | ⟨hnb, hie, hel, e1⟩
    · rw [if_pos (by simp [kc])]
      try walk_at "dl"
      refine q tl S2 (by omega) ?_ ff2
      rw [hlx, e1]
      exact g2
    · rw [if_neg (by rw [decide_eq_true_eq, kc_bd]; exact hnb)]
      try walk_at "nx"
      refine run_end_wq (by omega) hel ?_
      rw [sp_eq]
      rw [show e + ((cs.drop e).takeWhile isSp).length = e + sn (cs.drop e) from rfl]
      have hse := sn_le cs e hel
      refine ⟨by decide, cs.length - (e + sn (cs.drop e)), by omega, e + sn (cs.drop e), acc ++ [(i, t)], _, _, _, rfl, hse, fun h => sn_nosp cs e h, by simp; omega, ?_, g2, f2, rfl⟩
      rw [hlx, e1, sn_drop cs e]
      simp
  · rw [if_neg (by simp; omega)]
    try walk_at "nx"
    refine ⟨lens_of (by omega), by decide, ?_, ?_⟩
    · try rw [List.length_map]
      exact Nat.lt_of_lt_of_le (show acc.length < 1000000 by omega) (by decide)
    try walk_at "nx"
    have hii : i = cs.length := by omega
    have hz : cs.drop i = [] := List.drop_eq_nil_iff.mpr (by omega)
    refine q tl _ (by omega) ?_ (ff.set _ (.inr (by omega)))
    rw [get_set g, hlx, hz, lexI_nil, List.map_append, hii]
    rfl
theorem init_wq {n l : Nat} {cs : List Nat} {r : Int} {S : Store} {Q : D → Store → Prop} (hl : cs.length ≤ 900000) (hok : ∀ c ∈ cs, c < 1000000) (hb : ∀ p ∈ lexA cs, sm p.2) (h : S[l]? = some (.obj "Line" []))
    (q : ∀ tl S', S.length ≤ tl → LN S' l tl r (lexA cs) 0 → Fr [l] S S' → Q .non S') : wq (call gl fds (n + 4) f_Line___init__ [.ref l, .str (tS cs), .int r]) Q S := by
  rw [wq_call (fd := d_Line___init__) rfl rfl]
  dsimp only [d_Line___init__]
  unfold b_Line___init__
  try walk_at "dl"
  rw [wL_init h]
  try walk_at "nx"
  have g1 : (S.set l (.obj "Line" [("row_number", .int r)]))[l]? = some (.obj "Line" [("row_number", .int r)]) := get_set h
  have f1 : Fr [l] S (S.set l (.obj "Line" [("row_number", .int r)])) := Fr.refl.set _ (.inl (by simp))
  generalize (S.set l (.obj "Line" [("row_number", .int r)])) = S1 at *
  refine tokens_of_wq hl hok hb fun tl S2 htl g2 f2 => ?_
  have g3 := f2.get _ _ (by simp) g1
  try walk_at "dl"
  rw [wL_init2 g3]
  try walk_at "nx"
  have g4 : (S2.set l (.obj "Line" [("row_number", .int r), ("tokens", .ref tl)]))[l]? = some (.obj "Line" [("row_number", .int r), ("tokens", .ref tl)]) := get_set g3
  rw [wL_init3 g4]
  try walk_at "nx"
  have hne : l ≠ tl := by have := lt_of_get g1; omega
  refine q tl _ (Nat.le_trans f1.le htl) ⟨lexI_tg _ _, get_set g4, ?_⟩ ?_
  · rw [List.getElem?_set_ne hne, List.getElem?_set_ne hne]
    exact g2
  · exact ((f1.trans f2.of_nil).set _ (.inl (by simp))).set _ (.inl (by simp))
end K76
end

section
set_option Elab.async false
set_option linter.all false
set_option maxRecDepth 100000
set_option maxHeartbeats 1000000
set_option exponentiation.threshold 20000
namespace K76
open PySem PySem.Spec L2 Dl
local macro_rules | `(tactic| walk_at "dl") => `(tactic| simp (disch := first | assumption | exact get_new | (refine get_app ?_; first | assumption | exact get_new | (refine get_app ?_; first | assumption | exact get_new)) | (refine get_set ?_; assumption) | exact atI_0 | exact atI_1 | exact atI_2 | exact ok_lex | exact ok_degree | exact ok_back | exact ok_blocks | exact ok_weights | exact nL8.1 | exact nL8.2.1 | exact nL8.2.2.1 | exact nL8.2.2.2.1 | exact nL8.2.2.2.2.1 | exact nL8.2.2.2.2.2.1 | exact nL8.2.2.2.2.2.2) only [
  e_fld, e_new, e_mcall, vt_mcall, e_m1, e_fst, f_nil, f_cons, e_fnv, vi_rngd, x_setf, x_augf, wL_row, wL_tok, wL_tak, wL_isO', wL_setT, w_inT, w_ninT, w_inC, w_ninC, w_addS, w_mulS, w_lenS, w_strI, w_strS, w_slS, w_okJ, w_rngd, w_fmtS, w_fmtI, tS_app, tS_len, tS_rep, tS_eq, lit_sgs, lit_lts, lit_dgs, li_word, li_number, li_end, li_empty, li_none, li_lp, li_rp, li_cm, li_cms, li_mi, li_sp, li_zero, e_cB, e_fB, e_var, e_int, e_bl, e_non, e_str, e_glo, e_tup, e_lst, e_op, e_neg, e_not, e_and, e_or, e_cmp, e_chain, e_ite, e_ix, e_sl, e_rev, e_call, e_bi, e_me, e_isi, e_isis, e_comp, e_tupr, e_lstr, e_nil, e_cons, e_ono, e_oso, e_cno, e_cso, vt_and, vt_or, vt_not, vt_cmp, vt_chain, vt_var, vt_bl, vt_call, vt_bi, vt_isi, vt_isis, vi_seq, vi_rng1, vi_rng2, vi_zip, vg_nm, vg_tp, vg_ixs, gs_nil, gs_cons, x_asg, x_par, x_aug, x_expr, x_ret, x_retN, x_ite, x_for, x_whl, x_pass, x_brk, x_cnt, xs_nil, k_one, k_cons, k_rt, k_bk, k_ct, r_nx, r_rt, w_neg, w_tupr, w_lstr,
  TGs.len, wq_pure, List.getElem?_cons_zero, List.getElem?_cons_succ, List.set_cons_zero, List.set_cons_succ, List.length_cons, List.length_nil, List.length_map, if_true, Bool.false_eq_true, if_false, startE, List.map_cons, List.map_nil, List.replicate, List.cons_append, List.nil_append, wipeE, Nat.zero_add, Nat.reduceAdd, Nat.reduceSub, true_and,
  w_getL_ref, w_getS_ref, w_getL_ro, w_getS_ro, w_getS_tup, w_add, w_sub, w_mul, w_addT, w_addL, w_mulL, w_fdiv, w_mod, w_pow, w_shl, w_lt, w_le, w_gt, w_ge, w_ltT, w_gtT, w_eq, w_ne, w_isN, w_isnN, w_in, w_nin, w_trB, w_trN, w_trI, w_trT, w_trL, w_lenT, w_lenR, w_lenL, w_sumT, w_sumL, w_int, w_intB, w_tupL, w_listL, w_listT, w_append, w_pop, w_reverse, w_isL, w_revT, w_asInt, w_slR, w_srcT, w_srcR, w_srcL, w_rng, w_zipT, zipNX_ints, zipNX_int, true_and, w_unpkT, w_unpkL, w_eqB, w_eqT, w_eqI, w_ixT, w_eqS, w_eqTS, Bool.not_true, Bool.not_false, decide_true, decide_false, wd_lex_lex, wd_lex_degree, wd_lex_back, wd_lex_blocks, wd_lex_weights, wd_degree_lex, wd_degree_degree, wd_degree_back, wd_degree_blocks, wd_degree_weights, wd_back_lex, wd_back_degree, wd_back_back, wd_back_blocks, wd_back_weights, wd_blocks_lex, wd_blocks_degree, wd_blocks_back, wd_blocks_blocks, wd_blocks_weights, wd_weights_lex, wd_weights_degree, wd_weights_back, wd_weights_blocks, wd_weights_weights])
local macro_rules | `(tactic| walk_at "nx") => `(tactic| (rw [k_nx]; try walk_at "dl"))
local macro_rules | `(tactic| walk_at "cj") => `(tactic| repeat refine And.intro (by first | decide | exact lens_of (by decide) | exact lens_of (by simp) | simp) ?_)
theorem gl3 : gl 3 = .str (tS wNone) := congrArg D.str li_none
theorem letters_ok {x : List Nat} (h : ∀ c ∈ x, isA c = true) : PyData.canLay0 (.str (tS x)) = true := tS_ok fun c hc => by have := isA_lt (h c hc); omega
theorem leafN_wq {n l tl k : Nat} {r : Int} {ts : List (Nat × Tk)} {S : Store} {Q : D → Store → Prop} {i m : Nat} (h : LN S l tl r ts k) (hp : ts[k]? = some (i, .nm m))
    (q : ∀ S', LN S' l tl r ts (k + 1) → Fr [l] S S' → Q (.int m) S') : wq (call gl fds (n + 4) f_take_leaf [.ref l]) Q S := by
  have h1 := h.lo
  have hk := h.okc hp
  have ok1 : PyData.canLay0 (.str (tS [119, 111, 114, 100])) = true := by decide +kernel
  rw [wq_call (fd := d_take_leaf) rfl rfl]
  dsimp only [d_take_leaf]
  unfold b_take_leaf
  try walk_at "dl"
  refine kind_wq h hp ?_
  try walk_at "dl"
  rw [if_pos (by simp [kc])]
  refine lsigned_wq h hp fun S' a b => ?_
  try walk_at "dl"
  exact q S' a b
theorem leafM_wq {n l tl k : Nat} {r : Int} {ts : List (Nat × Tk)} {S : Store} {Q : D → Store → Prop} {i j m : Nat} (h : LN S l tl r ts k) (hp : ts[k]? = some (i, .sg 45)) (hp2 : ts[k + 1]? = some (j, .nm m)) (hm : m ≠ 0)
    (q : ∀ S', LN S' l tl r ts (k + 2) → Fr [l] S S' → Q (.int (-m)) S') : wq (call gl fds (n + 4) f_take_leaf [.ref l]) Q S := by
  have h1 := h.lo
  have hk := h.okc hp
  have ok1 : PyData.canLay0 (.str (tS [119, 111, 114, 100])) = true := by decide +kernel
  rw [wq_call (fd := d_take_leaf) rfl rfl]
  dsimp only [d_take_leaf]
  unfold b_take_leaf
  try walk_at "dl"
  refine kind_wq h hp ?_
  try walk_at "dl"
  rw [if_pos (by simp [kc])]
  refine lsigned2_wq h hp hp2 hm fun S' a b => ?_
  try walk_at "dl"
  exact q S' a b
theorem leafW_wq {n l tl k : Nat} {r : Int} {ts : List (Nat × Tk)} {S : Store} {Q : D → Store → Prop} {i : Nat} {x : List Nat} (h : LN S l tl r ts k) (hp : ts[k]? = some (i, .wd x))
    (q : ∀ S', LN S' l tl r ts (k + 1) → Fr [l] S S' → Q (wTk x) S') : wq (call gl fds (n + 4) f_take_leaf [.ref l]) Q S := by
  have h1 := h.lo
  have hk := h.okc hp
  have hx : PyData.canLay0 (.str (tS x)) = true := letters_ok (h.ok _ (List.mem_of_getElem? hp)).2
  have ok1 : PyData.canLay0 (.str (tS [119, 111, 114, 100])) = true := by decide +kernel
  have ok2 : PyData.canLay0 (.str (tS wNone)) = true := by decide +kernel
  rw [wq_call (fd := d_take_leaf) rfl rfl]
  dsimp only [d_take_leaf]
  unfold b_take_leaf
  try walk_at "dl"
  refine kind_wq h hp ?_
  try walk_at "dl"
  rw [if_neg (by simp [kc])]
  try walk_at "nx"
  refine ltake_wq h hp rfl fun S' a b => ?_
  show _ ∧ _
  have h1' := a.lo
  simp only [vlD]
  refine ⟨by decide, ?_⟩
  try walk_at "nx"
  rw [gl3]
  try walk_at "dl"
  have := q S' a b
  unfold wTk at this
  by_cases e : x = wNone
  · rw [if_pos e] at this
    rw [if_pos (decide_eq_true e)]
    exact this
  · rw [if_neg e] at this
    rw [if_neg (by simpa using e)]
    exact this
end K76
end

section
set_option Elab.async false
set_option linter.all false
set_option maxRecDepth 100000
set_option maxHeartbeats 1000000
set_option exponentiation.threshold 20000
namespace K76
open PySem PySem.Spec L2 Dl
local macro_rules | `(tactic| walk_at "dl") => `(tactic| simp (disch := first | assumption | exact get_new | (refine get_app ?_; first | assumption | exact get_new | (refine get_app ?_; first | assumption | exact get_new)) | (refine get_set ?_; assumption) | exact atI_0 | exact atI_1 | exact atI_2 | exact ok_lex | exact ok_degree | exact ok_back | exact ok_blocks | exact ok_weights | exact nL8.1 | exact nL8.2.1 | exact nL8.2.2.1 | exact nL8.2.2.2.1 | exact nL8.2.2.2.2.1 | exact nL8.2.2.2.2.2.1 | exact nL8.2.2.2.2.2.2) only [
  e_fld, e_new, e_mcall, vt_mcall, e_m1, e_fst, f_nil, f_cons, e_fnv, vi_rngd, x_setf, x_augf, wL_row, wL_tok, wL_tak, wL_isO', wL_setT, w_inT, w_ninT, w_inC, w_ninC, w_addS, w_mulS, w_lenS, w_strI, w_strS, w_slS, w_okJ, w_rngd, w_fmtS, w_fmtI, tS_app, tS_len, tS_rep, tS_eq, lit_sgs, lit_lts, lit_dgs, li_word, li_number, li_end, li_empty, li_none, li_lp, li_rp, li_cm, li_cms, li_mi, li_sp, li_zero, e_cB, e_fB, e_var, e_int, e_bl, e_non, e_str, e_glo, e_tup, e_lst, e_op, e_neg, e_not, e_and, e_or, e_cmp, e_chain, e_ite, e_ix, e_sl, e_rev, e_call, e_bi, e_me, e_isi, e_isis, e_comp, e_tupr, e_lstr, e_nil, e_cons, e_ono, e_oso, e_cno, e_cso, vt_and, vt_or, vt_not, vt_cmp, vt_chain, vt_var, vt_bl, vt_call, vt_bi, vt_isi, vt_isis, vi_seq, vi_rng1, vi_rng2, vi_zip, vg_nm, vg_tp, vg_ixs, gs_nil, gs_cons, x_asg, x_par, x_aug, x_expr, x_ret, x_retN, x_ite, x_for, x_whl, x_pass, x_brk, x_cnt, xs_nil, k_one, k_cons, k_rt, k_bk, k_ct, r_nx, r_rt, w_neg, w_tupr, w_lstr,
  TGs.len, wq_pure, List.getElem?_cons_zero, List.getElem?_cons_succ, List.set_cons_zero, List.set_cons_succ, List.length_cons, List.length_nil, List.length_map, if_true, Bool.false_eq_true, if_false, startE, List.map_cons, List.map_nil, List.replicate, List.cons_append, List.nil_append, wipeE, Nat.zero_add, Nat.reduceAdd, Nat.reduceSub, true_and,
  w_getL_ref, w_getS_ref, w_getL_ro, w_getS_ro, w_getS_tup, w_add, w_sub, w_mul, w_addT, w_addL, w_mulL, w_fdiv, w_mod, w_pow, w_shl, w_lt, w_le, w_gt, w_ge, w_ltT, w_gtT, w_eq, w_ne, w_isN, w_isnN, w_in, w_nin, w_trB, w_trN, w_trI, w_trT, w_trL, w_lenT, w_lenR, w_lenL, w_sumT, w_sumL, w_int, w_intB, w_tupL, w_listL, w_listT, w_append, w_pop, w_reverse, w_isL, w_revT, w_asInt, w_slR, w_srcT, w_srcR, w_srcL, w_rng, w_zipT, zipNX_ints, zipNX_int, true_and, w_unpkT, w_unpkL, w_eqB, w_eqT, w_eqI, w_ixT, w_eqS, w_eqTS, Bool.not_true, Bool.not_false, decide_true, decide_false, wd_lex_lex, wd_lex_degree, wd_lex_back, wd_lex_blocks, wd_lex_weights, wd_degree_lex, wd_degree_degree, wd_degree_back, wd_degree_blocks, wd_degree_weights, wd_back_lex, wd_back_degree, wd_back_back, wd_back_blocks, wd_back_weights, wd_blocks_lex, wd_blocks_degree, wd_blocks_back, wd_blocks_blocks, wd_blocks_weights, wd_weights_lex, wd_weights_degree, wd_weights_back, wd_weights_blocks, wd_weights_weights])
local macro_rules | `(tactic| walk_at "nx") => `(tactic| (rw [k_nx]; try walk_at "dl"))
local macro_rules | `(tactic| walk_at "cj") => `(tactic| repeat refine And.intro (by first | decide | exact lens_of (by decide) | exact lens_of (by simp) | simp) ?_)
def rpIn : ISs := (.cons (.expr (.me .append (.ix (.var 2) (.neg (.int 1))) (.cons (.var 3) .nil)))
  (.cons (.ite (.cmp .Eq (.mcall "Line" "kind_here" f_Line_kind_here (.var 1) .nil) (.str (tS [44]))) (.cons .brk
  .nil) .nil)
  (.cons (.expr (.mcall "Line" "take" f_Line_take (.var 1) (.cons (.str (tS [41])) .nil)))
  (.cons (.asg (.nm 3) (.bi .tuple (.cons (.me .pop (.var 2) .nil) .nil)))
  .nil))))
def rpEnd : ISs := (.cons (.ite (.cmp .Eq (.bi .len (.cons (.var 2) .nil)) (.int 0)) (.cons (.expr (.mcall "Line" "close" f_Line_close (.var 1) .nil))
  (.cons (.ret (.var 3))
  .nil)) .nil)
  (.cons (.expr (.mcall "Line" "take" f_Line_take (.var 1) (.cons (.str (tS [44])) .nil)))
  .nil))
theorem len_lt {n : Nat} (h : n ≤ 1000000) : n < sizeLine := Nat.lt_of_lt_of_le (show n < 1000001 by omega) (by decide)
theorem rest_wq {n l tl a j : Nat} {ts : List (Nat × Tk)} {as : List Nat} {lv : List (List D)} {f d x : D} {S0 S : Store} {QF : Fl × Sl → Store → Prop} (h : RS S0 S l tl a 0 ts j as lv) (hts : ts.length ≤ 900000) (hb : BdL lv j) (hr : rd (ts.drop j) (.a f) lv = .ok d)
    (q1 : ∀ S' e, Fr [] S0 S' → QF (.rt d, e) S')
    (q2 : ∀ S' j' as' lv' f', RS S0 S' l tl a 0 ts j' as' lv' → BdL lv' j' → j < j' → j' ≤ ts.length → rd (ts.drop j') .h lv' = .ok d → QF (.nx, [some x, some (.ref l), some (.ref a), some f']) S') :
    wq (exs gl (Dl.call gl fds (n + 4)) (.cons (.whl (.cmp .Gt (.bi .len (.cons (.var 2) .nil)) (.int 0)) rpIn) rpEnd) [some x, some (.ref l), some (.ref a), some f]) QF S := by
  rw [k_cons, x_whl]
  have ok44 : PyData.canLay0 (.str (tS [44])) = true := by decide +kernel
  refine whlL_wq (fun m e S' => ∃ as lv f j', RS S0 S' l tl a 0 ts j' as lv ∧ BdL lv j' ∧ rd (ts.drop j') (.a f) lv = .ok d ∧ j ≤ j' ∧ m = lv.length ∧ e = [some x, some (.ref l), some (.ref a), some f]) ?_ bigN lv.length _ S ⟨as, lv, f, j, h, hb, hr, Nat.le_refl _, rfl, rfl⟩ (by
    have := hb.1
    have : j ≤ ts.length := by
      obtain ⟨p, e, _⟩ := rd_at hr
      exact Nat.le_of_lt (List.getElem?_eq_some_iff.mp e).1
    unfold bigN; omega)
  rintro m e S1 ⟨as, lv, f, j', h, hb, hr, hj, rfl, rfl⟩
  have hls := h.ls
  have hjl : j' < ts.length := by
    obtain ⟨p, e, _⟩ := rd_at hr
    exact (List.getElem?_eq_some_iff.mp e).1
  have hal : as.length = lv.length := h.it.len
  try walk_at "dl"
  rcases rd_a hr with ⟨rfl, rfl, i, e⟩ | ⟨i, top, lv', rfl, hh⟩
  · rw [if_neg (by simp [hal])]
    rw [k_nx]
    unfold rpEnd
    try walk_at "dl"
    rw [if_pos (by simp [hal])]
    have h1 := h.ln.lo
    try walk_at "dl"
    refine lclose_wq h.ln e ?_
    try walk_at "nx"
    exact q1 S1 _ h.fr
  · rw [if_pos (by simp [hal])]
    cases as with
    | nil => cases hal
    | cons t as =>
    have hsh := h.shape
    have htop := h.top
    unfold rpIn
    try walk_at "dl"
    rw [w_ixL hsh (Dl.atI_last _ _)]
    try walk_at "dl"
    refine ⟨len_lt (by have := hb.2 top List.mem_cons_self; omega), ?_⟩
    have h2 := h.app f
    have h1 := h2.ln.lo
    generalize S1.set t (.lst (top ++ [f])) = S2 at *
    try walk_at "nx"
    rcases hh with ⟨e, hr'⟩ | ⟨e, hr'⟩
    · refine kind_wq h2.ln e ?_
      have okk := h2.ln.okc e
      try walk_at "dl"
      rw [if_pos (by simp [kc])]
      rw [k_nx]
      unfold rpEnd
      have hls2 := h2.ls
      try walk_at "dl"
      rw [if_neg (by simp; omega)]
      try walk_at "nx"
      refine ltake_wq h2.ln e rfl fun S3 ln3 f3 => ?_
      try walk_at "dl"
      try walk_at "nx"
      refine q2 S3 (j' + 1) _ _ f (h2.take ln3 f3) ⟨?_, ?_⟩ (by omega) (by omega) hr'
      · have := hb.1; simp only [List.length_cons] at this ⊢; omega
      · intro y hy
        rcases List.mem_cons.mp hy with rfl | hy
        · have := hb.2 top List.mem_cons_self; simp; omega
        · have := hb.2 y (List.mem_cons_of_mem _ hy); omega
    · refine kind_wq h2.ln e ?_
      have okk := h2.ln.okc e
      try walk_at "dl"
      rw [if_neg (by simp [kc])]
      try walk_at "nx"
      refine ltake_wq h2.ln e rfl fun S3 ln3 f3 => ?_
      have h3 := h2.take ln3 f3
      have hsh3 := h3.shape
      obtain ⟨h4, ht4⟩ := h3.pop
      try walk_at "nx"
      refine ⟨by decide, ?_⟩
      try walk_at "nx"
      refine ⟨lv'.length, by simp, as, lv', _, j' + 1, h4, ⟨?_, ?_⟩, hr', by omega, rfl, rfl⟩
      · have := hb.1; simp only [List.length_cons] at this; omega
      · intro y hy
        have := hb.2 y (List.mem_cons_of_mem _ hy); omega
theorem leaf_any {n l tl a j : Nat} {ts : List (Nat × Tk)} {as : List Nat} {lv : List (List D)} {d : D} {S0 S : Store} {Q : D → Store → Prop} (h : RS S0 S l tl a 0 ts j as lv) (hb : BdL lv j) (hne : ∀ i, ts[j]? ≠ some (i, .sg 40)) (hr : rd (ts.drop j) .h lv = .ok d)
    (q : ∀ S' j' f, RS S0 S' l tl a 0 ts j' as lv → BdL lv j' → j < j' → rd (ts.drop j') (.a f) lv = .ok d → Q f S') : wq (call gl fds (n + 4) f_take_leaf [.ref l]) Q S := by
  have up : ∀ m, BdL lv (j + m) := fun m => ⟨by have := hb.1; omega, fun y hy => by have := hb.2 y hy; omega⟩
  rcases rd_h hr with ⟨i, m, e, k⟩ | ⟨i, x, e, k⟩ | ⟨i, i2, m, e, e2, hm, k⟩ | ⟨i, i2, e, _, _⟩ | ⟨i, p, e, _, _, _⟩
  · exact leafN_wq h.ln e fun S' a b => q S' _ _ (h.take a b) (up 1) (by omega) k
  · exact leafW_wq h.ln e fun S' a b => q S' _ _ (h.take a b) (up 1) (by omega) k
  · exact leafM_wq h.ln e e2 hm fun S' a b => q S' _ _ (h.take a b) (up 2) (by omega) k
  · exact absurd e (hne i)
  · exact absurd e (hne i)
theorem read_wq {n : Nat} {cs : List Nat} {d : D} {S : Store} {Q : D → Store → Prop} (hl : cs.length ≤ 800000) (hok : ∀ c ∈ cs, c < 1000000) (hb : ∀ p ∈ lexA cs, sm p.2) (hts : (lexA cs).length ≤ 900000) (hr : rd (lexA cs) .h [] = .ok d)
    (q : ∀ S', Fr [] S S' → Q d S') : wq (call gl fds (n + 5) f_read_paper [.str (tS cs)]) Q S := by
  rw [wq_call (fd := d_read_paper) rfl rfl]
  dsimp only [d_read_paper]
  unfold b_read_paper
  have ok40 : PyData.canLay0 (.str (tS [40])) = true := by decide +kernel
  have ok41 : PyData.canLay0 (.str (tS [41])) = true := by decide +kernel
  try walk_at "dl"
  have g0 : (S ++ [Ob.obj "Line" []])[S.length]? = some (.obj "Line" []) := get_new
  have f0 : Fr [] S (S ++ [Ob.obj "Line" []]) := Fr.refl.new _
  refine init_wq (by omega) hok hb g0 fun tl S1 htl ln f1 => ?_
  have f01 : Fr [] S S1 := ⟨Nat.le_trans f0.le f1.le, fun i o hi e => f1.get i o (by rw [List.mem_singleton]; have := lt_of_get e; omega) (f0.get i o hi e)⟩
  try walk_at "dl"
  refine ⟨by decide, ?_⟩
  try walk_at "nx"
  refine ⟨by decide, by decide, ?_⟩
  rw [k_nx, k_one, x_whl]
  have hdS : S.length ≤ S1.length := f01.le
  have hl1 := lt_of_get ln.lo
  have ht1 := lt_of_get ln.tk
  have h0 : RS S (S1 ++ [.lst []]) S.length tl S1.length 0 (lexA cs) 0 [] [] :=
    ⟨ln.fr0 (Fr.refl.new _), get_new, trivial, List.nodup_nil, by simp, by simp, by simp, by omega, by omega, f01.new _, Nat.le_refl _, hdS, fun x hx => by cases hx⟩
  generalize S1 ++ [Ob.lst []] = S2 at *
  generalize S1.length = a at *
  generalize S.length = l at *
  refine whlL_wq (fun m e S' => ∃ j as lv o, RS S S' l tl a 0 (lexA cs) j as lv ∧ BdL lv j ∧ j ≤ (lexA cs).length ∧ rd ((lexA cs).drop j) .h lv = .ok d ∧ m = (lexA cs).length - j ∧ e = [some (.str (tS cs)), some (.ref l), some (.ref a), o]) ?_ bigN (lexA cs).length _ S2 ⟨0, [], [], none, h0, ⟨Nat.le_refl _, fun y hy => by cases hy⟩, Nat.zero_le _, hr, rfl, rfl⟩ (by unfold bigN; omega)
  rintro m e S3 ⟨j, as, lv, o, h, hb3, hjl, hr3, rfl, rfl⟩
  have hlo := h.ln.lo
  try walk_at "dl"
  have fin : ∀ S4 j' as' lv' f QF, RS S S4 l tl a 0 (lexA cs) j' as' lv' → BdL lv' j' → j < j' → rd ((lexA cs).drop j') (.a f) lv' = .ok d →
      (∀ S' e, Fr [] S S' → QF (.rt d, e) S') →
      (∀ S' e2, (∃ k', k' < (lexA cs).length - j ∧ ∃ j as lv o, RS S S' l tl a 0 (lexA cs) j as lv ∧ BdL lv j ∧ j ≤ (lexA cs).length ∧ rd ((lexA cs).drop j) .h lv = .ok d ∧ k' = (lexA cs).length - j ∧ e2 = [some (.str (tS cs)), some (.ref l), some (.ref a), o]) → QF (.nx, e2) S') →
      kQ gl (Dl.call gl fds (n + 4)) (.cons (.whl (.cmp .Gt (.bi .len (.cons (.var 2) .nil)) (.int 0)) rpIn) rpEnd) QF (.nx, [some (.str (tS cs)), some (.ref l), some (.ref a), some f]) S4 := by
    intro S4 j' as' lv' f QF h4 hb4 hj hr4 q1 q2
    rw [k_nx]
    refine rest_wq h4 hts hb4 hr4 (fun S' e fr => q1 S' e fr) fun S' j2 as2 lv2 f2 h5 hb5 hj5 hj6 hr5 => ?_
    exact q2 S' _ ⟨(lexA cs).length - j2, by omega, j2, as2, lv2, some f2, h5, hb5, hj6, hr5, rfl, rfl⟩
  obtain ⟨⟨i, t⟩, ep, _⟩ := rd_at hr3
  refine kind_wq h.ln ep ?_
  have okk := h.ln.okc ep
  try walk_at "dl"
  by_cases ht : t = .sg 40
  · subst ht
    rw [if_pos (by simp [kc])]
    refine ltake_wq h.ln ep rfl fun S4 ln4 f4 => ?_
    have h4 := h.take ln4 f4
    have hls4 := h4.ls
    try walk_at "dl"
    try walk_at "nx"
    refine ⟨by decide, len_lt (by have := h4.it.len; have := hb3.1; rw [List.length_reverse]; omega), ?_⟩
    have h5 := h4.push
    generalize (S4 ++ [Ob.lst []]).set a (.lst (as.reverse.map .ref ++ [.ref S4.length])) = S5 at *
    generalize S4.length = t0 at *
    have hlo5 := h5.ln.lo
    try walk_at "nx"
    have hb5 : BdL ([] :: lv) (j + 1) := ⟨by have := hb3.1; simp; omega, fun y hy => by
      rcases List.mem_cons.mp hy with rfl | hy
      · exact Nat.zero_le _
      · have := hb3.2 y hy; omega⟩
    have hk : (∃ i2, (lexA cs)[j + 1]? = some (i2, .sg 41) ∧ rd ((lexA cs).drop (j + 2)) (.a (.tup [])) lv = .ok d) ∨ (∃ p, (lexA cs)[j + 1]? = some p ∧ p.2 ≠ .sg 41 ∧ rd ((lexA cs).drop (j + 1)) .h ([] :: lv) = .ok d) := by
      rcases rd_h hr3 with ⟨_, _, e, _⟩ | ⟨_, _, e, _⟩ | ⟨_, _, _, e, _⟩ | ⟨_, i2, e, e2, k⟩ | ⟨_, p, e, e2, hp, k⟩
      · rw [ep] at e; cases e
      · rw [ep] at e; cases e
      · rw [ep] at e; cases e
      · exact .inl ⟨i2, e2, k⟩
      · exact .inr ⟨p, e2, hp, k⟩
    rcases hk with ⟨i2, e2, k⟩ | ⟨p, e2, hp, k⟩
    · refine kind_wq h5.ln e2 ?_
      have okk2 := h5.ln.okc e2
      try walk_at "dl"
      rw [if_neg (by simp [kc])]
      try walk_at "nx"
      refine ltake_wq h5.ln e2 rfl fun S6 ln6 f6 => ?_
      have h6 := h5.take ln6 f6
      have hsh6 := h6.shape
      obtain ⟨h7, ht7⟩ := h6.pop
      try walk_at "nx"
      refine ⟨by decide, ?_⟩
      try walk_at "nx"
      have hb7 : BdL lv (j + 2) := ⟨by have := hb3.1; omega, fun y hy => by have := hb3.2 y hy; omega⟩
      exact fin _ (j + 2) as lv _ _ h7 hb7 (by omega) k (fun S' e fr => q S' fr) (fun S' e2 hx => hx)
    · refine kind_wq h5.ln e2 ?_
      have okk2 := h5.ln.okc e2
      try walk_at "dl"
      rw [if_pos (by rw [Bool.not_eq_true', decide_eq_false_iff_not, kc_sg]; exact hp)]
      try walk_at "dl"
      have := (List.getElem?_eq_some_iff.mp e2).1
      exact ⟨(lexA cs).length - (j + 1), by omega, j + 1, t0 :: as, [] :: lv, o, h5, hb5, by omega, k, rfl, rfl⟩
  · rw [if_neg (by rw [decide_eq_true_eq, kc_sg]; exact ht)]
    try walk_at "dl"
    refine leaf_any h hb3 (fun i2 e2 => ht (by rw [ep] at e2; cases e2; rfl)) hr3 fun S4 j' f h4 hb4 hj hr4 => ?_
    refine ⟨by decide, ?_⟩
    try walk_at "nx"
    exact fin S4 j' as lv f _ h4 hb4 hj hr4 (fun S' e fr => q S' fr) (fun S' e2 hx => hx)
end K76
end

section
set_option Elab.async false
set_option linter.all false
set_option maxRecDepth 100000
set_option maxHeartbeats 1000000
set_option exponentiation.threshold 20000
namespace K76
open PySem PySem.Spec L2 Dl
local macro_rules | `(tactic| walk_at "dl") => `(tactic| simp (disch := first | assumption | exact get_new | (refine get_app ?_; first | assumption | exact get_new | (refine get_app ?_; first | assumption | exact get_new)) | (refine get_set ?_; assumption) | exact atI_0 | exact atI_1 | exact atI_2 | exact ok_lex | exact ok_degree | exact ok_back | exact ok_blocks | exact ok_weights | exact nL8.1 | exact nL8.2.1 | exact nL8.2.2.1 | exact nL8.2.2.2.1 | exact nL8.2.2.2.2.1 | exact nL8.2.2.2.2.2.1 | exact nL8.2.2.2.2.2.2) only [
  e_fld, e_new, e_mcall, vt_mcall, e_m1, e_fst, f_nil, f_cons, e_fnv, vi_rngd, x_setf, x_augf, wL_row, wL_tok, wL_tak, wL_isO', wL_setT, w_inT, w_ninT, w_inC, w_ninC, w_addS, w_mulS, w_lenS, w_strI, w_strS, w_slS, w_okJ, w_rngd, w_fmtS, w_fmtI, tS_app, tS_len, tS_rep, tS_eq, lit_sgs, lit_lts, lit_dgs, li_word, li_number, li_end, li_empty, li_none, li_lp, li_rp, li_cm, li_cms, li_mi, li_sp, li_zero, e_cB, e_fB, e_var, e_int, e_bl, e_non, e_str, e_glo, e_tup, e_lst, e_op, e_neg, e_not, e_and, e_or, e_cmp, e_chain, e_ite, e_ix, e_sl, e_rev, e_call, e_bi, e_me, e_isi, e_isis, e_comp, e_tupr, e_lstr, e_nil, e_cons, e_ono, e_oso, e_cno, e_cso, vt_and, vt_or, vt_not, vt_cmp, vt_chain, vt_var, vt_bl, vt_call, vt_bi, vt_isi, vt_isis, vi_seq, vi_rng1, vi_rng2, vi_zip, vg_nm, vg_tp, vg_ixs, gs_nil, gs_cons, x_asg, x_par, x_aug, x_expr, x_ret, x_retN, x_ite, x_for, x_whl, x_pass, x_brk, x_cnt, xs_nil, k_one, k_cons, k_rt, k_bk, k_ct, r_nx, r_rt, w_neg, w_tupr, w_lstr,
  TGs.len, wq_pure, List.getElem?_cons_zero, List.getElem?_cons_succ, List.set_cons_zero, List.set_cons_succ, List.length_cons, List.length_nil, List.length_map, if_true, Bool.false_eq_true, if_false, startE, List.map_cons, List.map_nil, List.replicate, List.cons_append, List.nil_append, wipeE, Nat.zero_add, Nat.reduceAdd, Nat.reduceSub, true_and,
  w_getL_ref, w_getS_ref, w_getL_ro, w_getS_ro, w_getS_tup, w_add, w_sub, w_mul, w_addT, w_addL, w_mulL, w_fdiv, w_mod, w_pow, w_shl, w_lt, w_le, w_gt, w_ge, w_ltT, w_gtT, w_eq, w_ne, w_isN, w_isnN, w_in, w_nin, w_trB, w_trN, w_trI, w_trT, w_trL, w_lenT, w_lenR, w_lenL, w_sumT, w_sumL, w_int, w_intB, w_tupL, w_listL, w_listT, w_append, w_pop, w_reverse, w_isL, w_revT, w_asInt, w_slR, w_srcT, w_srcR, w_srcL, w_rng, w_zipT, zipNX_ints, zipNX_int, true_and, w_unpkT, w_unpkL, w_eqB, w_eqT, w_eqI, w_ixT, w_eqS, w_eqTS, Bool.not_true, Bool.not_false, decide_true, decide_false, wd_lex_lex, wd_lex_degree, wd_lex_back, wd_lex_blocks, wd_lex_weights, wd_degree_lex, wd_degree_degree, wd_degree_back, wd_degree_blocks, wd_degree_weights, wd_back_lex, wd_back_degree, wd_back_back, wd_back_blocks, wd_back_weights, wd_blocks_lex, wd_blocks_degree, wd_blocks_back, wd_blocks_blocks, wd_blocks_weights, wd_weights_lex, wd_weights_degree, wd_weights_back, wd_weights_blocks, wd_weights_weights])
local macro_rules | `(tactic| walk_at "nx") => `(tactic| (rw [k_nx]; try walk_at "dl"))
local macro_rules | `(tactic| walk_at "cj") => `(tactic| repeat refine And.intro (by first | decide | exact lens_of (by decide) | exact lens_of (by simp) | simp) ?_)
local macro_rules | `(tactic| walk_at "sd") => `(tactic| (repeat refine And.intro (by first | (refine lens_of ?_; (try simp only [List.length_map, List.length_append, List.length_cons, List.length_nil, List.length_reverse] at *); omega) | (refine Nat.lt_of_le_of_lt (m := 900000) ?_ (by decide); (try simp only [List.length_map, List.length_append, List.length_cons, List.length_nil, List.length_reverse] at *); omega) | decide) ?_))
theorem leafT_wq {n : Nat} {d : D} {S : Store} {Q : D → Store → Prop} (hp : pg d) (hl : lf d) (q : Q (.str (tS (pt d))) S) : wq (call gl fds (n + 1) f_leaf_text [d]) Q S := by
  rw [wq_call (fd := d_leaf_text) rfl rfl]
  dsimp only [d_leaf_text]
  unfold b_leaf_text
  cases d with
  | non =>
    try walk_at "dl"
    rw [gl3]
    exact q
  | int i =>
    try walk_at "dl"
    rw [if_neg (by simp)]
    try walk_at "dl"
    have hp : i.natAbs < 10 ^ 50 := by simpa [pg] using hp
    refine ⟨log_50 hp, ?_⟩
    rw [str_dgI]
    exact q
  | str x =>
    try walk_at "dl"
    rw [if_neg (by simp)]
    try walk_at "dl"
    have e : D.str (tS (pt (.str x))) = .str x := congrArg D.str (tS_self x)
    rw [e] at q
    exact q
  | tup ds => exact hl.elim
  | bl _ => simp [pg] at hp
  | ref _ => simp [pg] at hp
  | ro _ => simp [pg] at hp
  | fn _ => simp [pg] at hp
theorem lens_le {n : Nat} (h : n ≤ 900000) : lens n = true := lens_of (by omega)
theorem tl_len {z : List Nat} (h : tlOk z) : z.length ≤ 2 := by rcases h with rfl | rfl <;> decide
def wpB : ISs := (.cons (.asg (.tp (.cons (.nm 3) (.cons (.nm 4) .nil))) (.me .pop (.var 2) .nil))
  (.cons (.ite (.isi (.var 3) .tuple) (.cons (.expr (.me .append (.var 1) (.cons (.str (tS [40])) .nil)))
  (.cons (.expr (.me .append (.var 2) (.cons (.tup (.cons .non (.cons (.op .Add (.str (tS [41])) (.var 4)) .nil))) .nil)))
  (.cons (.forr (.nm 5) (.rngd (.op .Sub (.bi .len (.cons (.var 3) .nil)) (.int 1)) (.neg (.int 1))) (.cons (.expr (.me .append (.var 2) (.cons (.tup (.cons (.ix (.var 3) (.var 5)) (.cons (.ite (.cmp .Lt (.var 5) (.op .Sub (.bi .len (.cons (.var 3) .nil)) (.int 1))) (.str (tS [44, 32])) (.str (tS []))) .nil))) .nil)))
  .nil))
  .nil))) (.cons (.ite (.and (.cmp .Is (.var 3) .non) (.cmp .Eq (.sl (.var 4) .no (.so (.int 1))) (.str (tS [41])))) (.cons (.expr (.me .append (.var 1) (.cons (.var 4) .nil)))
  .nil) (.cons (.expr (.me .append (.var 1) (.cons (.op .Add (.call f_leaf_text (.cons (.var 3) .nil)) (.var 4)) .nil)))
  .nil))
  .nil))
  .nil))
/-- the writer's store -/
structure WRS (S0 S : Store) (po so : Nat) (parts : List (List Nat)) (ws : List WI) : Prop where
  fr : Fr [] S0 S
  hp : S[po]? = some (.lst ((parts.map tS).map .str))
  hs : S[so]? = some (.lst (ws.reverse.map itD))
  pf : S0.length ≤ po
  sf : S0.length ≤ so
  ne : po ≠ so
theorem WRS.part {S0 S : Store} {po so : Nat} {parts : List (List Nat)} {ws : List WI} (h : WRS S0 S po so parts ws) (x : List Nat) : WRS S0 (S.set po (.lst ((parts.map tS).map .str ++ [.str (tS x)]))) po so (parts ++ [x]) ws :=
  ⟨h.fr.set _ (.inr h.pf), by rw [get_set h.hp]; simp, by rw [List.getElem?_set_ne h.ne]; exact h.hs, h.pf, h.sf, h.ne⟩
theorem WRS.push {S0 S : Store} {po so : Nat} {parts : List (List Nat)} {ws : List WI} (h : WRS S0 S po so parts ws) (w : WI) : WRS S0 (S.set so (.lst (ws.reverse.map itD ++ [itD w]))) po so parts (w :: ws) :=
  ⟨h.fr.set _ (.inr h.sf), by rw [List.getElem?_set_ne h.ne.symm]; exact h.hp, by rw [get_set h.hs]; simp, h.pf, h.sf, h.ne⟩
theorem WRS.pop {S0 S : Store} {po so : Nat} {parts : List (List Nat)} {ws : List WI} {w : WI} (h : WRS S0 S po so parts (w :: ws)) : WRS S0 (S.set so (.lst (ws.reverse.map itD))) po so parts ws :=
  ⟨h.fr.set _ (.inr h.sf), by rw [List.getElem?_set_ne h.ne.symm]; exact h.hp, get_set h.hs, h.pf, h.sf, h.ne⟩
theorem WRS.top {S0 S : Store} {po so : Nat} {parts : List (List Nat)} {ws : List WI} {w : WI} (h : WRS S0 S po so parts (w :: ws)) : S[so]? = some (.lst (ws.reverse.map itD ++ [itD w])) := by
  rw [h.hs]; simp
theorem len_ne {ws : List WI} : (0 < ((ws.reverse.map itD).length : Int)) ↔ ws ≠ [] := by
  rw [List.length_map, List.length_reverse]
  constructor
  · rintro h rfl
    simp at h
  · intro h
    have := List.length_pos_iff.mpr h
    omega
theorem rngd_nat (n : Nat) : rngdItems ((n : Int) - 1) (-1) = (List.range n).map fun (k : Nat) => D.int ((n : Int) - 1 + k * (-1)) := by
  unfold rngdItems
  rw [show ((n : Int) - 1 - -1).toNat = n by omega]
theorem stW_app : ∀ a b : List WI, stW (a ++ b) = stW a + stW b
  | [], b => by simp [stW]
  | w :: a, b => by
    show itW w + stW (a ++ b) = (itW w + stW a) + stW b
    rw [stW_app a b]
    omega
theorem wpB_wq {n : Nat} {po so : Nat} {parts : List (List Nat)} {ws : List WI} {w : WI} {d0 x y z : _} {S0 S : Store} {QF : Fl × Sl → Store → Prop} (h : WRS S0 S po so parts (w :: ws)) (ho : itOk w)
    (hb : parts.length + stW (w :: ws) ≤ 800000) (ht : (itT w).length ≤ 800000)
    (q : ∀ S' parts' ws' e, WRS S0 S' po so parts' ws' → parts'.length + stW ws' < 1 + parts.length + stW (w :: ws) → stW ws' < stW (w :: ws) → parts'.flatten ++ stT ws' = parts.flatten ++ stT (w :: ws) → (∀ w ∈ ws', itOk w ∨ w ∈ ws) → (∃ x y z, e = [d0, some (.ref po), some (.ref so), x, y, z]) → QF (.nx, e) S') :
    wq (exs gl (Dl.call gl fds (n + 1)) wpB [d0, some (.ref po), some (.ref so), x, y, z]) QF S := by
  have hso := h.top
  have h1 := h.pop
  have hp1 := h1.hp
  have hs1 := h1.hs
  have hl1 := st_len ws
  have hwp := itW_pos w
  have hsw : stW (w :: ws) = itW w + stW ws := rfl
  obtain ⟨d, tl, b⟩ := w
  have htl : tlOk tl := ho.2
  have htl2 := tl_len htl
  have okp : PyData.canLay0 (.str (tS [41])) = true := by decide +kernel
  unfold wpB
  cases b with
  | true =>
    simp only [itD] at hso
    have fin : parts.length < sizeLine → wq (meRun Me.append (D.ref po) [D.str (tS (41 :: tl))]) (fun x S' => QF (.nx, [d0, some (.ref po), some (.ref so), some .non, some (.str (tS (41 :: tl))), z]) S') (List.set S so (Ob.lst (List.map itD ws.reverse))) := by
      intro hz
      rw [w_append hp1]
      refine ⟨by simpa using hz, ?_⟩
      refine q _ _ _ _ (h1.part _) (by simp only [List.length_append, List.length_cons, List.length_nil]; simp only [itW] at hsw; omega) (by omega) ?_ (fun w hw => .inr hw) ⟨_, _, _, rfl⟩
      simp [stT, itT]
    have okz : PyData.canLay0 (.str (tS (41 :: tl))) = true := by rcases htl with rfl | rfl <;> decide +kernel
    rcases htl with rfl | rfl
    all_goals
      try walk_at "dl"
      walk_at "sd"
      try walk_at "nx"
      rw [w_isi (b := false) rfl]
      try walk_at "dl"
      walk_at "sd"
      rw [w_eqS (by decide +kernel) okp]
      rw [if_pos (by decide)]
      try walk_at "dl"
      rw [w_append hp1] at fin
      walk_at "sd"
      try walk_at "nx"
      repeat rw [k_nx, xs_nil]
      exact (fin (szl (by omega))).2
  | false =>
    simp only [itD] at hso
    have hpg : pg d := ho.1
    have leaf : lf d → itW (d, tl, false) = 1 → parts.length < sizeLine → wq (meRun Me.append (D.ref po) [D.str (tS (pt d ++ tl))]) (fun x S' => QF (.nx, [d0, some (.ref po), some (.ref so), some d, some (.str (tS tl)), z]) S') (List.set S so (Ob.lst (List.map itD ws.reverse))) := by
      intro _ hz1 hz
      rw [w_append hp1]
      refine ⟨by simpa using hz, ?_⟩
      refine q _ _ _ _ (h1.part _) (by simp only [List.length_append, List.length_cons, List.length_nil]; omega) (by omega) ?_ (fun w hw => .inr hw) ⟨_, _, _, rfl⟩
      simp [stT, itT]
    rw [w_append hp1] at leaf
    have okt : (pt d ++ tl).length ≤ 800000 := ht
    rw [List.length_append] at okt
    try walk_at "dl"
    walk_at "sd"
    try walk_at "nx"
    cases d with
    | tup ds =>
      rw [w_isi (b := true) rfl]
      try walk_at "dl"
      have h2 := h1.part [40]
      have hs2 := h2.hs
      walk_at "sd"
      try walk_at "nx"
      walk_at "sd"
      have h3 := h2.push (.non, tl, true)
      simp only [itD] at h3
      generalize (((S.set so (Ob.lst (ws.reverse.map itD))).set po (.lst ((parts.map tS).map .str ++ [.str (tS [40])]))).set so (.lst (ws.reverse.map itD ++ [.tup [.non, .str (tS (41 :: tl))]]))) = S3 at *
      try walk_at "nx"
      have hn : ds.length ≤ 800000 := by
        have h1 := st_len (chl ds)
        have h2 := chl_W ds []
        rw [List.append_nil, chl_len] at *
        simp only [stW, itW, wt] at *
        omega
      have hwt : itW (.tup ds, tl, false) = wts ds + 2 := rfl
      have hst3 : ∀ m, stW ((chl ds).drop m ++ ((.non, tl, true) :: ws)) ≤ wts ds + (1 + stW ws) := fun m => by
        have e1 := chl_W ds ((.non, tl, true) :: ws)
        rw [← List.take_append_drop m (chl ds), List.append_assoc, stW_app] at e1
        have : stW ((.non, tl, true) :: ws) = 1 + stW ws := rfl
        omega
      refine ⟨by rw [small62_of (by omega) (by omega)]; decide, ?_⟩
      rw [rngd_nat]
      refine forL_inv1 (e := fun (k : Nat) => D.int ((ds.length : Int) - 1 + k * (-1))) (fun m e S' => m ≤ ds.length ∧ WRS S0 S' po so (parts ++ [[40]]) ((chl ds).drop (ds.length - m) ++ ((.non, tl, true) :: ws)) ∧ ∃ z, e = [d0, some (.ref po), some (.ref so), some (.tup ds), some (.str (tS tl)), z]) (fun _ _ _ _ => Gd_none) ⟨Nat.zero_le _, ?_, _, rfl⟩ ?_ ?_
      · rw [Nat.sub_zero, List.drop_eq_nil_of_le (by rw [chl_len]; omega)]
        exact h3
      · rintro e S4 ⟨_, h4, z', rfl⟩
        rw [List.length_range, Nat.sub_self, List.drop_zero] at h4
        repeat rw [k_nx, xs_nil]
        have e1 := chl_W ds ((.non, tl, true) :: ws)
        have e2 : stW ((.non, tl, true) :: ws) = 1 + stW ws := rfl
        refine q _ _ _ _ h4 (by simp only [List.length_append, List.length_cons, List.length_nil]; omega) (by omega) ?_ ?_ ⟨_, _, _, rfl⟩
        · rw [chl_T]
          simp [stT, itT, pt]
        · intro w hw
          rcases List.mem_append.mp hw with hw | hw
          · exact .inl (chl_ok ds (by simpa [pg] using hpg) w hw)
          · rcases List.mem_cons.mp hw with rfl | hw
            · exact .inl ⟨trivial, htl⟩
            · exact .inr hw
      · rintro m x e S4 hx ⟨hm, h4, z', rfl⟩
        have hmn : m < ds.length := by
          have := (List.getElem?_eq_some_iff.mp hx).1
          simpa using this
        have hxm : x = m := by rw [List.getElem?_range hmn] at hx; cases hx; rfl
        subst hxm
        have hi : ds.length - 1 - x < ds.length := by omega
        have eI : (ds.length : Int) - 1 + (x : Int) * (-1) = ((ds.length - 1 - x : Nat) : Int) := by omega
        have hat : atI ds ((ds.length - 1 - x : Nat) : Int) = some ds[ds.length - 1 - x] := atI_of (by omega) (by rw [Int.toNat_natCast]; exact List.getElem?_eq_getElem hi)
        have hcl := chl_get ds _ _ (List.getElem?_eq_getElem hi)
        have hdr : (chl ds).drop (ds.length - (x + 1)) = (ds[ds.length - 1 - x], if ds.length - 1 - x + 1 < ds.length then [44, 32] else [], false) :: (chl ds).drop (ds.length - x) := by
          obtain ⟨h5, h6⟩ := List.getElem?_eq_some_iff.mp hcl
          have := List.drop_eq_getElem_cons h5
          rw [h6] at this
          rw [show ds.length - (x + 1) = ds.length - 1 - x by omega, this, show ds.length - x = ds.length - 1 - x + 1 by omega]
        have hs4 := h4.hs
        have hll := st_len ((chl ds).drop (ds.length - x) ++ ((.non, tl, true) :: ws))
        have hlb := hst3 (ds.length - x)
        rw [eI]
        by_cases hc : ds.length - 1 - x + 1 < ds.length
        · rw [if_pos hc] at hdr
          have h5 := h4.push (ds[ds.length - 1 - x], [44, 32], false)
          simp only [itD] at h5
          rw [← List.cons_append, ← hdr] at h5
          try walk_at "dl"
          walk_at "sd"
          rw [if_pos (by simp only [decide_eq_true_eq]; omega)]
          refine ⟨by decide, szl (by rw [List.length_reverse]; omega), ?_⟩
          repeat rw [k_nx, xs_nil]
          exact ⟨by omega, h5, _, rfl⟩
        · rw [if_neg hc] at hdr
          have h5 := h4.push (ds[ds.length - 1 - x], [], false)
          simp only [itD] at h5
          rw [← List.cons_append, ← hdr] at h5
          try walk_at "dl"
          walk_at "sd"
          rw [if_neg (by simp only [decide_eq_true_eq]; omega)]
          refine ⟨by decide, szl (by rw [List.length_reverse]; omega), ?_⟩
          repeat rw [k_nx, xs_nil]
          exact ⟨by omega, h5, _, rfl⟩
    | non =>
      rw [w_isi (b := false) rfl]
      try walk_at "dl"
      walk_at "sd"
      rw [w_eqS (by rcases htl with rfl | rfl <;> decide +kernel) okp]
      rw [if_neg (by rcases htl with rfl | rfl <;> decide)]
      try walk_at "dl"
      refine leafT_wq hpg trivial ?_
      try walk_at "dl"
      walk_at "sd"
      try walk_at "nx"
      repeat rw [k_nx, xs_nil]
      exact (leaf trivial rfl (szl (by omega))).2
    | int i =>
      rw [w_isi (b := false) rfl]
      try walk_at "dl"
      rw [if_neg (by simp)]
      try walk_at "dl"
      walk_at "sd"
      refine leafT_wq hpg trivial ?_
      try walk_at "dl"
      walk_at "sd"
      try walk_at "nx"
      repeat rw [k_nx, xs_nil]
      exact (leaf trivial rfl (szl (by omega))).2
    | str i =>
      rw [w_isi (b := false) rfl]
      try walk_at "dl"
      rw [if_neg (by simp)]
      try walk_at "dl"
      walk_at "sd"
      refine leafT_wq hpg trivial ?_
      try walk_at "dl"
      walk_at "sd"
      try walk_at "nx"
      repeat rw [k_nx, xs_nil]
      exact (leaf trivial rfl (szl (by omega))).2
    | bl _ => simp [pg] at hpg
    | ref _ => simp [pg] at hpg
    | ro _ => simp [pg] at hpg
    | fn _ => simp [pg] at hpg
theorem write_wq {n : Nat} {d : D} {S : Store} {Q : D → Store → Prop} (hp : pg d) (hl : (pt d).length ≤ 400000) (q : ∀ S', Fr [] S S' → Q (.str (tS (pt d))) S') : wq (call gl fds (n + 2) f_write_paper [d]) Q S := by
  rw [wq_call (fd := d_write_paper) rfl rfl]
  dsimp only [d_write_paper]
  unfold b_write_paper
  try walk_at "dl"
  refine ⟨by decide, ?_⟩
  have g1 : (S ++ [Ob.lst []])[S.length]? = some (.lst []) := get_new
  have f1 : Fr [] S (S ++ [Ob.lst []]) := Fr.refl.new _
  have l1 : (S ++ [Ob.lst []]).length = S.length + 1 := by simp
  try walk_at "nx"
  generalize hS1 : S ++ [Ob.lst []] = S1 at *
  have g2 := get_app (o := Ob.lst [itD (d, [], false)]) g1
  have h0 : WRS S (S1 ++ [Ob.lst [itD (d, [], false)]]) S.length S1.length [] [(d, [], false)] := ⟨f1.new _, g2, get_new, Nat.le_refl _, by omega, by omega⟩
  simp only [itD] at h0
  have hsl := h0.sf
  generalize S1 ++ [Ob.lst [D.tup [d, .str (tS [])]]] = S2 at *
  generalize S1.length = so at *
  refine ⟨by decide, by decide, by decide, by decide, ?_⟩
  have hwd := wt_le d hp
  show kQ gl (Dl.call gl fds (n + 1)) (.cons (.whl (.cmp .Gt (.bi .len (.cons (.var 2) .nil)) (.int 0)) wpB) (.cons (.ret (.m1 .join (.str (tS [])) (.var 1))) .nil)) _ _ _
  rw [k_nx, k_cons, x_whl]
  refine whlL_wq (fun m e S' => ∃ parts ws x y z, WRS S S' S.length so parts ws ∧ parts.length + stW ws ≤ wt d ∧ (∀ w ∈ ws, itOk w) ∧ parts.flatten ++ stT ws = pt d ∧ m = stW ws ∧ e = [some d, some (.ref S.length), some (.ref so), x, y, z]) ?_ bigN (wt d) _ _ ⟨[], [(d, [], false)], _, _, _, h0, ?_, ?_, ?_, ?_, rfl⟩ (by unfold bigN; omega)
  · rintro m e S3 ⟨parts, ws, x, y, z, h, hb, hok, hT, rfl, rfl⟩
    have hs := h.hs
    try walk_at "dl"
    cases ws with
    | nil =>
      rw [if_neg (by simp)]
      rw [k_nx]
      have hpp := h.hp
      try walk_at "dl"
      rw [w_joinL hpp]
      have e2 : parts.flatten = pt d := by rw [← hT]; simp [stT]
      have e3 : (parts.map (·.length)).sum = (pt d).length := by rw [← e2, List.length_flatten]
      refine ⟨by rw [e3]; simp; omega, ?_⟩
      rw [jn_flat, e2]
      exact q S3 h.fr
    | cons w ws =>
      rw [if_pos (by simp)]
      have e2 : parts.flatten.length + ((itT w).length + (stT ws).length) = (pt d).length := by rw [← hT, List.length_append]; simp [stT]
      refine wpB_wq (n := n) h (hok w List.mem_cons_self) (by omega) (by omega) fun S4 parts' ws' e' h4 c1 c2 c3 c4 c5 => ?_
      obtain ⟨x', y', z', rfl⟩ := c5
      refine ⟨stW ws', c2, parts', ws', x', y', z', h4, by omega, fun w' hw => ?_, c3.trans hT, rfl, rfl⟩
      rcases c4 w' hw with hw | hw
      · exact hw
      · exact hok w' (List.mem_cons_of_mem _ hw)
  · show 0 + (wt d + 0) ≤ wt d
    omega
  · intro w hw
    rw [List.mem_singleton] at hw
    subst hw
    exact ⟨hp, .inl rfl⟩
  · simp [stT, itT]
  · rfl
end K76
end

section
set_option Elab.async false
set_option linter.all false
set_option maxRecDepth 100000
set_option maxHeartbeats 1000000
set_option exponentiation.threshold 20000
namespace K76
open PySem PySem.Spec L2 Dl
local macro_rules | `(tactic| walk_at "dl") => `(tactic| simp (disch := first | assumption | exact get_new | (refine get_app ?_; first | assumption | exact get_new | (refine get_app ?_; first | assumption | exact get_new)) | (refine get_set ?_; assumption) | exact atI_0 | exact atI_1 | exact atI_2 | exact ok_lex | exact ok_degree | exact ok_back | exact ok_blocks | exact ok_weights | exact nL8.1 | exact nL8.2.1 | exact nL8.2.2.1 | exact nL8.2.2.2.1 | exact nL8.2.2.2.2.1 | exact nL8.2.2.2.2.2.1 | exact nL8.2.2.2.2.2.2) only [
  e_fld, e_new, e_mcall, vt_mcall, e_m1, e_fst, f_nil, f_cons, e_fnv, vi_rngd, x_setf, x_augf, wL_row, wL_tok, wL_tak, wL_isO', wL_setT, w_inT, w_ninT, w_inC, w_ninC, w_addS, w_mulS, w_lenS, w_strI, w_strS, w_slS, w_okJ, w_rngd, w_fmtS, w_fmtI, tS_app, tS_len, tS_rep, tS_eq, lit_sgs, lit_lts, lit_dgs, li_word, li_number, li_end, li_empty, li_none, li_lp, li_rp, li_cm, li_cms, li_mi, li_sp, li_zero, e_cB, e_fB, e_var, e_int, e_bl, e_non, e_str, e_glo, e_tup, e_lst, e_op, e_neg, e_not, e_and, e_or, e_cmp, e_chain, e_ite, e_ix, e_sl, e_rev, e_call, e_bi, e_me, e_isi, e_isis, e_comp, e_tupr, e_lstr, e_nil, e_cons, e_ono, e_oso, e_cno, e_cso, vt_and, vt_or, vt_not, vt_cmp, vt_chain, vt_var, vt_bl, vt_call, vt_bi, vt_isi, vt_isis, vi_seq, vi_rng1, vi_rng2, vi_zip, vg_nm, vg_tp, vg_ixs, gs_nil, gs_cons, x_asg, x_par, x_aug, x_expr, x_ret, x_retN, x_ite, x_for, x_whl, x_pass, x_brk, x_cnt, xs_nil, k_one, k_cons, k_rt, k_bk, k_ct, r_nx, r_rt, w_neg, w_tupr, w_lstr,
  TGs.len, wq_pure, List.getElem?_cons_zero, List.getElem?_cons_succ, List.set_cons_zero, List.set_cons_succ, List.length_cons, List.length_nil, List.length_map, if_true, Bool.false_eq_true, if_false, startE, List.map_cons, List.map_nil, List.replicate, List.cons_append, List.nil_append, wipeE, Nat.zero_add, Nat.reduceAdd, Nat.reduceSub, true_and,
  w_getL_ref, w_getS_ref, w_getL_ro, w_getS_ro, w_getS_tup, w_add, w_sub, w_mul, w_addT, w_addL, w_mulL, w_fdiv, w_mod, w_pow, w_shl, w_lt, w_le, w_gt, w_ge, w_ltT, w_gtT, w_eq, w_ne, w_isN, w_isnN, w_in, w_nin, w_trB, w_trN, w_trI, w_trT, w_trL, w_lenT, w_lenR, w_lenL, w_sumT, w_sumL, w_int, w_intB, w_tupL, w_listL, w_listT, w_append, w_pop, w_reverse, w_isL, w_revT, w_asInt, w_slR, w_srcT, w_srcR, w_srcL, w_rng, w_zipT, zipNX_ints, zipNX_int, true_and, w_unpkT, w_unpkL, w_eqB, w_eqT, w_eqI, w_ixT, w_eqS, w_eqTS, Bool.not_true, Bool.not_false, decide_true, decide_false, wd_lex_lex, wd_lex_degree, wd_lex_back, wd_lex_blocks, wd_lex_weights, wd_degree_lex, wd_degree_degree, wd_degree_back, wd_degree_blocks, wd_degree_weights, wd_back_lex, wd_back_degree, wd_back_back, wd_back_blocks, wd_back_weights, wd_blocks_lex, wd_blocks_degree, wd_blocks_back, wd_blocks_blocks, wd_blocks_weights, wd_weights_lex, wd_weights_degree, wd_weights_back, wd_weights_blocks, wd_weights_weights])
local macro_rules | `(tactic| walk_at "nx") => `(tactic| (rw [k_nx]; try walk_at "dl"))
local macro_rules | `(tactic| walk_at "cj") => `(tactic| repeat refine And.intro (by first | decide | exact lens_of (by decide) | exact lens_of (by simp) | simp) ?_)
local macro_rules | `(tactic| walk_at "sd") => `(tactic| (repeat refine And.intro (by first | decide | (refine lens_of ?_; (try simp only [List.length_map, List.length_append, List.length_cons, List.length_nil, List.length_reverse] at *); omega) | (refine Nat.lt_of_le_of_lt (m := 900000) ?_ (by decide); (try simp only [List.length_map, List.length_append, List.length_cons, List.length_nil, List.length_reverse] at *); omega)) ?_))
theorem ptext_wq (n : Nat) : ∀ (m : Nat) (d : D) (S : Store) (Q : D → Store → Prop), pg d → d.dp ≤ m → (pt d).length ≤ 400000 → (∀ S', Fr [] S S' → Q (.str (tS (pt d))) S') → wq (call gl fds (n + m + 1) f__law_paper_text [d]) Q S := by
  intro m
  induction m with
  | zero =>
    intro d S Q hp hm hl q
    rw [wq_call (fd := d__law_paper_text) rfl rfl]
    dsimp only [d__law_paper_text]
    unfold b__law_paper_text
    cases d with
    | non =>
      try walk_at "dl"
      rw [w_isi (b := false) rfl]
      try walk_at "dl"
      try walk_at "nx"
      exact q S .refl
    | int i =>
      try walk_at "dl"
      rw [w_isi (b := false) rfl]
      try walk_at "dl"
      try walk_at "nx"
      rw [if_neg (by simp)]
      try walk_at "dl"
      have hp : i.natAbs < 10 ^ 50 := by simpa [pg] using hp
      refine ⟨log_50 hp, ?_⟩
      rw [str_dgI]
      exact q S .refl
    | str x =>
      have e : D.str (tS (pt (.str x))) = .str x := congrArg D.str (tS_self x)
      rw [e] at q
      try walk_at "dl"
      rw [w_isi (b := false) rfl]
      try walk_at "dl"
      try walk_at "nx"
      rw [if_neg (by simp)]
      try walk_at "dl"
      exact q S .refl
    | tup ds => simp [D.dp] at hm
    | bl _ => simp [pg] at hp
    | ref _ => simp [pg] at hp
    | ro _ => simp [pg] at hp
    | fn _ => simp [pg] at hp
  | succ m ih =>
    intro d S Q hp hm hl q
    rw [wq_call (fd := d__law_paper_text) rfl rfl]
    dsimp only [d__law_paper_text]
    unfold b__law_paper_text
    cases d with
    | tup ds =>
      have hps : pgs ds := by simpa [pg] using hp
      have hms : D.dps ds ≤ m := by simp only [D.dp] at hm; omega
      have hls : (ptj ds).length + 2 ≤ 400000 := by simp only [pt, List.length_cons, List.length_append, List.length_nil] at hl; omega
      have hdl : ds.length ≤ 400000 := by have := ptj_len ds; rw [List.length_map] at this; omega
      try walk_at "dl"
      rw [w_isi (b := true) rfl]
      try walk_at "dl"
      rw [show (⟨ds, none, none⟩ : Src) = ⟨ds, none, none⟩ from rfl]
      conv in compL _ _ ds [] => rw [← List.map_id' ds]
      refine compL_tot (e := fun (x : D) => x) (fun x => D.str (tS (pt x))) (by omega) (fun _ _ => Gd_none) (fun x hx S' a => ?_) fun S' a => ?_
      · try walk_at "dl"
        refine ⟨by decide, ?_⟩
        rw [show n + (m + 1) = n + m + 1 by omega]
        exact ih x S' _ (pgs_mem hps x hx) (Nat.le_trans (dp_mem hx) hms) (by have := (pt_mem hx).1; omega) fun S'' b => ⟨rfl, b⟩
      · have e1 : ds.map (fun x => D.str (tS (pt x))) = ((ds.map pt).map tS).map .str := by simp
        rw [e1]
        have g1 : (S' ++ [Ob.lst (((ds.map pt).map tS).map .str)])[S'.length]? = some (.lst (((ds.map pt).map tS).map .str)) := get_new
        try walk_at "dl"
        rw [w_joinL get_new]
        have := ptj_len ds
        refine ⟨Nat.le_trans this (by omega), ?_⟩
        rw [jn_pt]
        try walk_at "dl"
        walk_at "sd"
        exact q _ (a.new _)
    | non =>
      try walk_at "dl"
      rw [w_isi (b := false) rfl]
      try walk_at "dl"
      try walk_at "nx"
      exact q S .refl
    | int i =>
      try walk_at "dl"
      rw [w_isi (b := false) rfl]
      try walk_at "dl"
      try walk_at "nx"
      rw [if_neg (by simp)]
      try walk_at "dl"
      have hp : i.natAbs < 10 ^ 50 := by simpa [pg] using hp
      refine ⟨log_50 hp, ?_⟩
      rw [str_dgI]
      exact q S .refl
    | str x =>
      have e : D.str (tS (pt (.str x))) = .str x := congrArg D.str (tS_self x)
      rw [e] at q
      try walk_at "dl"
      rw [w_isi (b := false) rfl]
      try walk_at "dl"
      try walk_at "nx"
      rw [if_neg (by simp)]
      try walk_at "dl"
      exact q S .refl
    | bl _ => simp [pg] at hp
    | ref _ => simp [pg] at hp
    | ro _ => simp [pg] at hp
    | fn _ => simp [pg] at hp
end K76
end

section
set_option Elab.async false
set_option linter.all false
set_option maxRecDepth 100000
set_option maxHeartbeats 1000000
set_option exponentiation.threshold 20000
namespace K76
open PySem PySem.Spec L2 Dl
local macro_rules | `(tactic| walk_at "dl") => `(tactic| simp (disch := first | assumption | exact get_new | (refine get_app ?_; first | assumption | exact get_new | (refine get_app ?_; first | assumption | exact get_new)) | (refine get_set ?_; assumption) | exact atI_0 | exact atI_1 | exact atI_2 | exact ok_lex | exact ok_degree | exact ok_back | exact ok_blocks | exact ok_weights | exact nL8.1 | exact nL8.2.1 | exact nL8.2.2.1 | exact nL8.2.2.2.1 | exact nL8.2.2.2.2.1 | exact nL8.2.2.2.2.2.1 | exact nL8.2.2.2.2.2.2) only [
  e_fld, e_new, e_mcall, vt_mcall, e_m1, e_fst, f_nil, f_cons, e_fnv, vi_rngd, x_setf, x_augf, wL_row, wL_tok, wL_tak, wL_isO', wL_setT, w_inT, w_ninT, w_inC, w_ninC, w_addS, w_mulS, w_lenS, w_strI, w_strS, w_slS, w_okJ, w_rngd, w_fmtS, w_fmtI, tS_app, tS_len, tS_rep, tS_eq, lit_sgs, lit_lts, lit_dgs, li_word, li_number, li_end, li_empty, li_none, li_lp, li_rp, li_cm, li_cms, li_mi, li_sp, li_zero, e_cB, e_fB, e_var, e_int, e_bl, e_non, e_str, e_glo, e_tup, e_lst, e_op, e_neg, e_not, e_and, e_or, e_cmp, e_chain, e_ite, e_ix, e_sl, e_rev, e_call, e_bi, e_me, e_isi, e_isis, e_comp, e_tupr, e_lstr, e_nil, e_cons, e_ono, e_oso, e_cno, e_cso, vt_and, vt_or, vt_not, vt_cmp, vt_chain, vt_var, vt_bl, vt_call, vt_bi, vt_isi, vt_isis, vi_seq, vi_rng1, vi_rng2, vi_zip, vg_nm, vg_tp, vg_ixs, gs_nil, gs_cons, x_asg, x_par, x_aug, x_expr, x_ret, x_retN, x_ite, x_for, x_whl, x_pass, x_brk, x_cnt, xs_nil, k_one, k_cons, k_rt, k_bk, k_ct, r_nx, r_rt, w_neg, w_tupr, w_lstr,
  TGs.len, wq_pure, List.getElem?_cons_zero, List.getElem?_cons_succ, List.set_cons_zero, List.set_cons_succ, List.length_cons, List.length_nil, List.length_map, if_true, Bool.false_eq_true, if_false, startE, List.map_cons, List.map_nil, List.replicate, List.cons_append, List.nil_append, wipeE, Nat.zero_add, Nat.reduceAdd, Nat.reduceSub, true_and,
  w_getL_ref, w_getS_ref, w_getL_ro, w_getS_ro, w_getS_tup, w_add, w_sub, w_mul, w_addT, w_addL, w_mulL, w_fdiv, w_mod, w_pow, w_shl, w_lt, w_le, w_gt, w_ge, w_ltT, w_gtT, w_eq, w_ne, w_isN, w_isnN, w_in, w_nin, w_trB, w_trN, w_trI, w_trT, w_trL, w_lenT, w_lenR, w_lenL, w_sumT, w_sumL, w_int, w_intB, w_tupL, w_listL, w_listT, w_append, w_pop, w_reverse, w_isL, w_revT, w_asInt, w_slR, w_srcT, w_srcR, w_srcL, w_rng, w_zipT, zipNX_ints, zipNX_int, true_and, w_unpkT, w_unpkL, w_eqB, w_eqT, w_eqI, w_ixT, w_eqS, w_eqTS, Bool.not_true, Bool.not_false, decide_true, decide_false, wd_lex_lex, wd_lex_degree, wd_lex_back, wd_lex_blocks, wd_lex_weights, wd_degree_lex, wd_degree_degree, wd_degree_back, wd_degree_blocks, wd_degree_weights, wd_back_lex, wd_back_degree, wd_back_back, wd_back_blocks, wd_back_weights, wd_blocks_lex, wd_blocks_degree, wd_blocks_back, wd_blocks_blocks, wd_blocks_weights, wd_weights_lex, wd_weights_degree, wd_weights_back, wd_weights_blocks, wd_weights_weights])
local macro_rules | `(tactic| walk_at "nx") => `(tactic| (rw [k_nx]; try walk_at "dl"))
local macro_rules | `(tactic| walk_at "cj") => `(tactic| repeat refine And.intro (by first | decide | exact lens_of (by decide) | exact lens_of (by simp) | simp) ?_)
local macro_rules | `(tactic| walk_at "sd") => `(tactic| (repeat refine And.intro (by first | decide | (refine lens_of ?_; (try simp only [List.length_map, List.length_append, List.length_cons, List.length_nil, List.length_reverse] at *); omega) | (refine Nat.lt_of_le_of_lt (m := 900000) ?_ (by decide); (try simp only [List.length_map, List.length_append, List.length_cons, List.length_nil, List.length_reverse] at *); omega)) ?_))
theorem same_wq (n : Nat) : ∀ (m : Nat) (d : D) (S : Store) (Q : D → Store → Prop), d.bf = true → d.dp ≤ m → m ≤ 60 → wt d ≤ 900000 → (∀ S', Fr [] S S' → Q (.bl true) S') → wq (call gl fds (n + m + 1) f__law_same [d, d]) Q S := by
  have lfc : ∀ (k : Nat) (d : D) (S : Store) (Q : D → Store → Prop), lf d → d.bf = true → d.dp ≤ 60 → (∀ S', Fr [] S S' → Q (.bl true) S') → wq (call gl fds (k + 1) f__law_same [d, d]) Q S := by
    intro k d S Q hl hb hd q
    rw [wq_call (fd := d__law_same) rfl rfl]
    dsimp only [d__law_same]
    unfold b__law_same
    have he := fun (Q : Bool → Store → Prop) => w_eqD (Q := Q) (S := S) hb hb (Nat.le_trans hd (by decide)) (Nat.le_trans hd (by decide))
    cases d with
    | tup ds => exact hl.elim
    | bl _ => simp [D.bf] at hb
    | ref _ => simp [D.bf] at hb
    | ro _ => simp [D.bf] at hb
    | fn _ => simp [D.bf] at hb
    | non =>
      try walk_at "dl"
      rw [w_isi (b := false) rfl]
      try walk_at "dl"
      try walk_at "nx"
      rw [w_isi (b := false) rfl, w_isi (b := false) rfl]
      try walk_at "dl"
      rw [w_isi (b := false) rfl, w_isi (b := false) rfl]
      try walk_at "dl"
      rw [if_neg (by decide), if_neg (by decide)]
      try walk_at "nx"
      rw [w_isi (b := false) rfl, w_isi (b := false) rfl]
      try walk_at "dl"
      rw [if_neg (by decide), if_neg (by decide)]
      try walk_at "nx"
      rw [he]
      exact q S .refl
    | int i =>
      try walk_at "dl"
      rw [w_isi (b := false) rfl]
      try walk_at "dl"
      try walk_at "nx"
      rw [w_isi (b := false) rfl, w_isi (b := false) rfl]
      try walk_at "dl"
      rw [w_isi (b := true) rfl, w_isi (b := true) rfl]
      try walk_at "dl"
      rw [if_neg (by decide), if_neg (by decide)]
      try walk_at "nx"
      rw [w_isi (b := false) rfl, w_isi (b := false) rfl]
      try walk_at "dl"
      rw [if_neg (by simp), if_neg (by simp)]
      try walk_at "nx"
      exact q S .refl
    | str x =>
      try walk_at "dl"
      rw [w_isi (b := false) rfl]
      try walk_at "dl"
      try walk_at "nx"
      rw [w_isi (b := false) rfl, w_isi (b := false) rfl]
      try walk_at "dl"
      rw [w_isi (b := false) rfl, w_isi (b := false) rfl]
      try walk_at "dl"
      rw [if_neg (by decide), if_neg (by decide)]
      try walk_at "nx"
      rw [w_isi (b := true) rfl, w_isi (b := true) rfl]
      try walk_at "dl"
      rw [if_neg (by simp), if_neg (by simp)]
      try walk_at "nx"
      rw [he]
      rw [show decide (D.str x = D.str x) = true by simp]
      exact q S .refl
  intro m
  induction m with
  | zero =>
    intro d S Q hb hd _ _ q
    exact lfc n d S Q (by cases d <;> first | trivial | (simp [D.dp] at hd)) hb (by omega) q
  | succ m ih =>
    intro d S Q hb hd hm hw q
    cases d with
    | tup ds =>
      rw [wq_call (fd := d__law_same) rfl rfl]
      dsimp only [d__law_same]
      unfold b__law_same
      have hbs : D.bfs ds = true := by simpa [D.bf] using hb
      have hds : D.dps ds ≤ m := by simp only [D.dp] at hd; omega
      have hws : wts ds + 2 ≤ 900000 := hw
      have hlen : ds.length ≤ 900000 := by
        have h1 := chl_W ds []
        have h2 := st_len (chl ds ++ [])
        rw [List.append_nil, chl_len] at h2
        rw [List.append_nil] at h1
        simp only [stW] at h1
        omega
      try walk_at "dl"
      rw [w_isi (b := true) rfl]
      try walk_at "dl"
      rw [w_isi (b := true) rfl, w_isi (b := true) rfl]
      try walk_at "dl"
      rw [w_isi (b := false) rfl, w_isi (b := false) rfl]
      try walk_at "dl"
      rw [if_neg (by decide), if_neg (by decide)]
      try walk_at "nx"
      try walk_at "nx"
      refine ⟨small_rng (by omega), ?_⟩
      rw [rngItems_nat]
      refine compL_tot (e := fun (k : Nat) => D.int (k : Int)) (fun _ => D.bl true) (by simp; omega) (fun _ _ => Gd_none) (fun k hk S' a => ?_) fun S' a => ?_
      · have hk := List.mem_range.mp hk
        try walk_at "dl"
        refine ⟨by decide, ?_⟩
        have hat : atI ds (k : Int) = some ds[k] := atI_of (by omega) (by rw [Int.toNat_natCast]; exact List.getElem?_eq_getElem hk)
        rw [w_ixT hat, w_ixT hat]
        have hmem := List.getElem_mem hk
        rw [show n + (m + 1) = n + m + 1 by omega]
        exact ih _ S' _ (bfs_mem hbs _ hmem) (Nat.le_trans (dp_mem hmem) hds) (by omega) (by have := wts_mem hmem; omega) fun S'' b => ⟨rfl, b⟩
      · try walk_at "dl"
        rw [inF_true, flat_true]
        refine ⟨rfl, ?_⟩
        exact q _ (a.new _)
    | _ => exact lfc (n + (m + 1)) _ S Q trivial hb (by simp [D.dp]) q
end K76
end

section
set_option Elab.async false
set_option linter.all false
set_option maxRecDepth 100000
set_option maxHeartbeats 1000000
set_option exponentiation.threshold 20000
namespace K76
open PySem PySem.Spec L2 Dl
local macro_rules | `(tactic| walk_at "dl") => `(tactic| simp (disch := first | assumption | exact get_new | (refine get_app ?_; first | assumption | exact get_new | (refine get_app ?_; first | assumption | exact get_new)) | (refine get_set ?_; assumption) | exact atI_0 | exact atI_1 | exact atI_2 | exact ok_lex | exact ok_degree | exact ok_back | exact ok_blocks | exact ok_weights | exact nL8.1 | exact nL8.2.1 | exact nL8.2.2.1 | exact nL8.2.2.2.1 | exact nL8.2.2.2.2.1 | exact nL8.2.2.2.2.2.1 | exact nL8.2.2.2.2.2.2) only [
  e_fld, e_new, e_mcall, vt_mcall, e_m1, e_fst, f_nil, f_cons, e_fnv, vi_rngd, x_setf, x_augf, wL_row, wL_tok, wL_tak, wL_isO', wL_setT, w_inT, w_ninT, w_inC, w_ninC, w_addS, w_mulS, w_lenS, w_strI, w_strS, w_slS, w_okJ, w_rngd, w_fmtS, w_fmtI, tS_app, tS_len, tS_rep, tS_eq, lit_sgs, lit_lts, lit_dgs, li_word, li_number, li_end, li_empty, li_none, li_lp, li_rp, li_cm, li_cms, li_mi, li_sp, li_zero, e_cB, e_fB, e_var, e_int, e_bl, e_non, e_str, e_glo, e_tup, e_lst, e_op, e_neg, e_not, e_and, e_or, e_cmp, e_chain, e_ite, e_ix, e_sl, e_rev, e_call, e_bi, e_me, e_isi, e_isis, e_comp, e_tupr, e_lstr, e_nil, e_cons, e_ono, e_oso, e_cno, e_cso, vt_and, vt_or, vt_not, vt_cmp, vt_chain, vt_var, vt_bl, vt_call, vt_bi, vt_isi, vt_isis, vi_seq, vi_rng1, vi_rng2, vi_zip, vg_nm, vg_tp, vg_ixs, gs_nil, gs_cons, x_asg, x_par, x_aug, x_expr, x_ret, x_retN, x_ite, x_for, x_whl, x_pass, x_brk, x_cnt, xs_nil, k_one, k_cons, k_rt, k_bk, k_ct, r_nx, r_rt, w_neg, w_tupr, w_lstr,
  TGs.len, wq_pure, List.getElem?_cons_zero, List.getElem?_cons_succ, List.set_cons_zero, List.set_cons_succ, List.length_cons, List.length_nil, List.length_map, if_true, Bool.false_eq_true, if_false, startE, List.map_cons, List.map_nil, List.replicate, List.cons_append, List.nil_append, wipeE, Nat.zero_add, Nat.reduceAdd, Nat.reduceSub, true_and,
  w_getL_ref, w_getS_ref, w_getL_ro, w_getS_ro, w_getS_tup, w_add, w_sub, w_mul, w_addT, w_addL, w_mulL, w_fdiv, w_mod, w_pow, w_shl, w_lt, w_le, w_gt, w_ge, w_ltT, w_gtT, w_eq, w_ne, w_isN, w_isnN, w_in, w_nin, w_trB, w_trN, w_trI, w_trT, w_trL, w_lenT, w_lenR, w_lenL, w_sumT, w_sumL, w_int, w_intB, w_tupL, w_listL, w_listT, w_append, w_pop, w_reverse, w_isL, w_revT, w_asInt, w_slR, w_srcT, w_srcR, w_srcL, w_rng, w_zipT, zipNX_ints, zipNX_int, true_and, w_unpkT, w_unpkL, w_eqB, w_eqT, w_eqI, w_ixT, w_eqS, w_eqTS, Bool.not_true, Bool.not_false, decide_true, decide_false, wd_lex_lex, wd_lex_degree, wd_lex_back, wd_lex_blocks, wd_lex_weights, wd_degree_lex, wd_degree_degree, wd_degree_back, wd_degree_blocks, wd_degree_weights, wd_back_lex, wd_back_degree, wd_back_back, wd_back_blocks, wd_back_weights, wd_blocks_lex, wd_blocks_degree, wd_blocks_back, wd_blocks_blocks, wd_blocks_weights, wd_weights_lex, wd_weights_degree, wd_weights_back, wd_weights_blocks, wd_weights_weights])
local macro_rules | `(tactic| walk_at "nx") => `(tactic| (rw [k_nx]; try walk_at "dl"))
local macro_rules | `(tactic| walk_at "cj") => `(tactic| repeat refine And.intro (by first | decide | exact lens_of (by decide) | exact lens_of (by simp) | simp) ?_)
local macro_rules | `(tactic| walk_at "sd") => `(tactic| (repeat refine And.intro (by first | (refine lens_of ?_; (try simp only [List.length_map, List.length_append, List.length_cons, List.length_nil, List.length_reverse] at *); omega) | (refine Nat.lt_of_le_of_lt (m := 900000) ?_ (by decide); (try simp only [List.length_map, List.length_append, List.length_cons, List.length_nil, List.length_reverse] at *); omega) | decide) ?_))
theorem lrun_wq {n : Nat} {cs z : List Nat} {i : Nat} {S : Store} {Q : D → Store → Prop} (hl : cs.length ≤ 900000) (hi : i ≤ cs.length) (q : Q (.int ((i + ((cs.drop i).takeWhile (fun c => decide (c ∈ z))).length : Nat) : Int)) S) : wq (call gl fds (n + 1) f__law_run [.str (tS cs), .int i, .str (tS z)]) Q S := by
  rw [wq_call (fd := d__law_run) rfl rfl]
  dsimp only [d__law_run]
  unfold b__law_run
  try walk_at "dl"
  walk_at "sd"
  try walk_at "nx"
  refine ⟨lens_of (by omega), ?_⟩
  refine ⟨by rw [small62_of (by omega) (by omega), small62_of (by omega) (by omega)]; rfl, ?_⟩
  rw [show rngItems (i : Int) (cs.length : Int) = (List.range (cs.length - i)).map (fun (k : Nat) => D.int ((i : Int) + k)) by unfold rngItems; rw [show ((cs.length : Int) - i).toNat = cs.length - i by omega]]
  have fin : ∀ o S', S' = S → ∀ m, ((cs.drop i).takeWhile (fun c => decide (c ∈ z))).length = m → kQ gl (Dl.call gl fds n) (.cons (.ret (.var 3)) .nil) (fun r S' => wq (ofFl r) Q S') (.nx, [some (.str (tS cs)), some (.int i), some (.str (tS z)), some (.int ((i : Int) + m)), o]) S' := by
    rintro o S' rfl m e
    rw [e, Int.natCast_add] at q
    try walk_at "nx"
    exact q
  refine forL_inv1 (e := fun (k : Nat) => D.int ((i : Int) + k)) (fun m e S' => S' = S ∧ m ≤ cs.length - i ∧ ((cs.drop i).takeWhile (fun c => decide (c ∈ z))).length = m + ((cs.drop (i + m)).takeWhile (fun c => decide (c ∈ z))).length ∧ ∃ o, e = [some (.str (tS cs)), some (.int i), some (.str (tS z)), some (.int ((i : Int) + m)), o]) (fun _ _ _ _ => Gd_none) ⟨rfl, Nat.zero_le _, by simp, _, by simp; rfl⟩ ?_ ?_
  · rintro e S' ⟨rfl, _, h, o, rfl⟩
    rw [List.length_range, show i + (cs.length - i) = cs.length by omega, List.drop_length, List.takeWhile_nil, List.length_nil, Nat.add_zero] at h
    rw [List.length_range]
    exact fin o _ rfl _ h
  · rintro m x e S' hx ⟨rfl, hm, h, o, rfl⟩
    have hmn : m < cs.length - i := by
      have := (List.getElem?_eq_some_iff.mp hx).1
      simpa using this
    have hxm : x = m := by rw [List.getElem?_range hmn] at hx; cases hx; rfl
    subst hxm
    have hp : i + x < cs.length := by omega
    have hat : atI cs ((i : Int) + x) = some cs[i + x] := by
      rw [show (i : Int) + x = ((i + x : Nat) : Int) by omega]
      exact atI_of (by omega) (by rw [Int.toNat_natCast]; exact List.getElem?_eq_getElem hp)
    rw [tw_step _ hp] at h
    try walk_at "dl"
    walk_at "sd"
    rw [w_ixS hat (by omega), w_ninC]
    by_cases hc : cs[i + x] ∈ z
    · rw [if_neg (by simp [hc])]
      rw [if_pos (decide_eq_true hc)] at h
      try walk_at "nx"
      walk_at "sd"
      try rw [k_nx, xs_nil]
      refine ⟨rfl, by omega, by rw [h, show i + (x + 1) = i + x + 1 by omega]; omega, some (.int ((i : Int) + x)), ?_⟩
      rw [show (i : Int) + ((x + 1 : Nat) : Int) = (i : Int) + x + 1 by omega]
    · rw [if_pos (by simp [hc])]
      rw [if_neg (by simp [hc])] at h
      try walk_at "dl"
      exact fin _ _ rfl _ h
theorem li_all : ("+-*/^();,: " : Str) = tS (sgs ++ [32]) := by decide +kernel
def ltEnd : ISs := (.cons (.ite (.cmp .NotEq (.var 4) (.str (tS [32]))) (.cons (.expr (.me .append (.var 1) (.cons (.lst (.cons (.sl (.var 0) (.so (.var 2)) (.so (.var 5))) (.cons (.var 2) .nil))) .nil))) .nil) .nil) (.cons (.asg (.nm 2) (.var 5)) .nil))
theorem ltEnd_wq {n p e c rl : Nat} {cs as : List Nat} {o3 : Option D} {S' : Store} {QF : Fl × Sl → Store → Prop} (hl : cs.length ≤ 900000) (hc : c < 1000) (h32 : c ≠ 32) (hpe : p ≤ e) (he : e ≤ cs.length) (hr : S'[rl]? = some (.lst (as.map .ref))) (ha : as.length ≤ 900000)
    (q : ∀ S'', Fr [rl] S' S'' → S''[rl]? = some (.lst (as.map .ref ++ [.ref S'.length])) → S''[S'.length]? = some (.lst [.str (tS ((cs.drop p).take (e - p))), .int (p : Nat)]) → QF (.nx, [some (.str (tS cs)), some (.ref rl), some (.int (e : Nat)), o3, some (.str (tS [c])), some (.int (e : Nat))]) S'') :
    wq (exs gl (Dl.call gl fds n) ltEnd [some (.str (tS cs)), some (.ref rl), some (.int (p : Nat)), o3, some (.str (tS [c])), some (.int (e : Nat))]) QF S' := by
  have okc : PyData.canLay0 (.str (tS [c])) = true := ok_of (by simpa using hc)
  have ok32 : PyData.canLay0 (.str (tS [32])) = true := by decide +kernel
  unfold ltEnd
  try walk_at "dl"
  rw [if_pos (by simp [h32])]
  refine ⟨lens_of (by omega), by decide, ?_⟩
  rw [cutS_nat cs hpe he]
  have hr2 := get_app (o := Ob.lst [D.str (tS ((cs.drop p).take (e - p))), .int (p : Nat)]) hr
  refine ⟨szl ha, ?_⟩
  try walk_at "nx"
  try walk_at "nx"
  try refine ⟨by decide, ?_⟩
  try rw [k_nx, xs_nil]
  have hlt := lt_of_get hr
  refine q _ (((Fr.refl (L := [rl])).new _).set _ (.inl List.mem_cons_self)) (get_set hr2) (by rw [List.getElem?_set_ne (by omega)]; exact get_new)
theorem ltok_wq {n : Nat} {cs : List Nat} {T : List Tk} {S : Store} {Q : D → Store → Prop} (hl : cs.length ≤ 900000) (hok : ∀ c ∈ cs, c < 1000000) (hT : (lexA cs).map (·.2) = T ++ [.en]) (hTk : ∀ t ∈ T, tkOk t)
    (q : ∀ r rl as S', Fr [] S S' → S'[r]? = some (.lst [.ref rl, .non]) → S'[rl]? = some (.lst (as.map .ref)) → rws S' rl as T → Q (.ref r) S') : wq (call gl fds (n + 2) f__law_tokens_of [.str (tS cs)]) Q S := by
  rw [wq_call (fd := d__law_tokens_of) rfl rfl]
  dsimp only [d__law_tokens_of]
  unfold b__law_tokens_of
  try walk_at "dl"
  walk_at "sd"
  have g1 : (S ++ [Ob.lst []])[S.length]? = some (.lst []) := get_new
  have f1 : Fr [] S (S ++ [Ob.lst []]) := Fr.refl.new _
  have l1 : (S ++ [Ob.lst []]).length = S.length + 1 := by simp
  have hrl : S.length ≤ S.length := Nat.le_refl _
  generalize S ++ [Ob.lst []] = S1 at *
  generalize hrle : S.length = rl at *
  try walk_at "nx"
  walk_at "sd"
  try walk_at "nx"
  refine ⟨lens_of (by omega), small_rng (by omega), ?_⟩
  rw [rngItems_nat]
  have fin : ∀ a b c d S' as, Fr [] S S' → S'[rl]? = some (.lst (as.map .ref)) → rws S' rl as T → kQ gl (Dl.call gl fds (n + 1)) (.cons (.ret (.lst (.cons (.var 1) (.cons .non .nil)))) .nil) (fun r S' => wq (ofFl r) Q S') (.nx, [some (.str (tS cs)), some (.ref rl), a, b, c, d]) S' := by
    intro a b c d S' as f h1 h2
    try walk_at "nx"
    walk_at "sd"
    refine q _ rl as _ (f.new _) get_new (get_app h1) (rws_fr (Fr.refl.new _) h2)
  have bdF : ∀ {p : Nat} {rest : List Tk}, rest ++ [Tk.en] = [(p, Tk.bd)].map (·.2) → (∀ t ∈ rest, tkOk t) → False := by
    intro p rest e h
    cases rest with
    | nil => cases e
    | cons t rest => cases rest <;> cases e
  refine forL_inv1 (e := fun (k : Nat) => D.int (k : Int)) (fun m e S' => ∃ p dn rest as b c d, m ≤ p ∧ p ≤ cs.length ∧ dn ++ rest = T ∧ (lexI (cs.drop p) p).map (·.2) = rest ++ [.en] ∧ Fr [] S S' ∧ S'[rl]? = some (.lst (as.map .ref)) ∧ rws S' rl as dn ∧ as.length ≤ p ∧ e = [some (.str (tS cs)), some (.ref rl), some (.int (p : Nat)), b, c, d]) (fun _ _ _ _ => Gd_none) ⟨0, [], T, [], none, none, none, Nat.zero_le _, Nat.zero_le _, rfl, by rw [List.drop_zero]; exact hT, f1, g1, trivial, Nat.zero_le _, rfl⟩ ?_ ?_
  · rintro e S' ⟨p, dn, rest, as, b, c, d, h1, h2, h3, h4, h5, h6, h7, h8, rfl⟩
    rw [List.length_range] at h1
    have hp : p = cs.length := by omega
    subst hp
    rw [List.drop_length, lexI_nil] at h4
    have : rest = [] := by cases rest with | nil => rfl | cons t rest => cases rest <;> cases h4
    subst this
    rw [List.append_nil] at h3
    subst h3
    exact fin _ _ _ _ _ _ h5 h6 h7
  · rintro m x e S' hx ⟨p, dn, rest, as, b, c, d, h1, h2, h3, h4, h5, h6, h7, h8, rfl⟩
    have hmn : m < cs.length := by
      have := (List.getElem?_eq_some_iff.mp hx).1
      simpa using this
    have hxm : x = m := by rw [List.getElem?_range hmn] at hx; cases hx; rfl
    subst hxm
    by_cases hp : p < cs.length
    · try walk_at "dl"
      walk_at "sd"
      rw [if_neg (by simp; omega)]
      have hat : atI cs (p : Int) = some cs[p] := atI_of (by omega) (by rw [Int.toNat_natCast]; exact List.getElem?_eq_getElem hp)
      have hcl : cs[p] < 1000000 := hok _ (List.getElem_mem hp)
      have okc : PyData.canLay0 (.str (tS [cs[p]])) = true := tS_ok (by simpa using hcl)
      have ok32 : PyData.canLay0 (.str (tS [32])) = true := by decide +kernel
      have ok48 : PyData.canLay0 (.str (tS [48])) = true := by decide +kernel
      have hlt : rl < S'.length := lt_of_get h6
      -- a token's row
      have tokK : ∀ (t : Tk) (e : Nat) (QF : Fl × Sl → Store → Prop), cs[p] < 1000 → cs[p] ≠ 32 → p < e → e ≤ cs.length → tx t = (cs.drop p).take (e - p) → lexI (cs.drop p) p = (p, t) :: lexI (cs.drop e) e →
          (∀ e2 S2, (∃ p dn rest as b c d, x + 1 ≤ p ∧ p ≤ cs.length ∧ dn ++ rest = T ∧ (lexI (cs.drop p) p).map (·.2) = rest ++ [.en] ∧ Fr [] S S2 ∧ S2[rl]? = some (.lst (as.map .ref)) ∧ rws S2 rl as dn ∧ as.length ≤ p ∧ e2 = [some (.str (tS cs)), some (.ref rl), some (.int (p : Nat)), b, c, d]) → QF (.nx, e2) S2) →
          wq (exs gl (Dl.call gl fds (n + 1)) ltEnd [some (.str (tS cs)), some (.ref rl), some (.int (p : Nat)), some (.int (x : Nat)), some (.str (tS [cs[p]])), some (.int (e : Nat))]) QF S' := by
        intro t e QF c1 c2 c3 c4 c5 c6 k
        refine ltEnd_wq hl c1 c2 (Nat.le_of_lt c3) c4 h6 (by omega) fun S2 f2 r2 a2 => k _ _ ?_
        rw [c6, List.map_cons] at h4
        cases rest with
        | nil =>
          have h4' : t = .en ∧ (lexI (cs.drop e) e).map (·.2) = [] := by simpa using h4
          exact absurd h4'.2 (lexI_ne _ _)
        | cons u rest =>
          have h4' : t = u ∧ (lexI (cs.drop e) e).map (·.2) = rest ++ [.en] := by simpa using h4
          obtain ⟨rfl, h4'⟩ := h4'
          refine ⟨e, dn ++ [t], rest, as ++ [S'.length], _, _, _, by omega, c4, by rw [List.append_assoc]; exact h3, h4', ?_, (by rw [r2, List.map_append]; rfl), rws_snoc (i := (p : Nat)) (by omega) (by rw [c5]; exact a2) (rws_fr f2 h7), by simp; omega, rfl⟩
          exact ⟨Nat.le_trans h5.le f2.le, fun i o hi ei => f2.get i o (by rw [List.mem_singleton]; have := lt_of_get ei; omega) (h5.get i o hi ei)⟩
      try walk_at "nx"
      rw [w_ixS hat (by omega)]
      refine ⟨by decide, ?_⟩
      try walk_at "nx"
      refine ⟨by decide, ?_⟩
      try walk_at "nx"
      try rw [w_inC]
      by_cases hD : isD cs[p] = true
      · rw [if_pos (show decide (cs[p] ∈ dgs) = true from hD)]
        obtain ⟨e, e1, e2, e3, e4⟩ := at_nm hp hD
        try walk_at "dl"
        refine lrun_wq hl (by omega) ?_
        rw [show (fun c => decide (c ∈ dgs)) = isD from rfl, e3]
        refine ⟨by decide, ?_⟩
        try walk_at "nx"
        rcases e4 with ⟨_, _, e5⟩ | ⟨e4, v, e5, e6⟩
        · rw [e5] at h4
          exact (bdF h4.symm fun t ht => hTk t (by rw [← h3]; exact List.mem_append_right _ ht)).elim
        · have h999 : cs[p] < 1000 := by have := isD_iff.mp hD; omega
          have h32 := (isD_not hD).2.2
          by_cases h48 : cs[p] = 48
          · have : ¬ p + 1 < e := fun z => e4 ⟨h48, z⟩
            rw [if_pos (by simp [h48])]
            rw [if_neg (by simp; omega)]
            repeat rw [k_nx, xs_nil]
            rw [k_nx]
            exact tokK (.nm v) e _ h999 h32 e1 e2 e5 e6 fun e2 S2 k => k
          · rw [if_neg (by simp [h48])]
            try walk_at "dl"
            repeat rw [k_nx, xs_nil]
            rw [k_nx]
            exact tokK (.nm v) e _ h999 h32 e1 e2 e5 e6 fun e2 S2 k => k
      · rw [if_neg (show ¬ decide (cs[p] ∈ dgs) = true from hD)]
        try walk_at "dl"
        try rw [w_inC]
        by_cases hA : isA cs[p] = true
        · rw [if_pos (show decide (cs[p] ∈ lts) = true from hA)]
          obtain ⟨e, e1, e2, e3, e4⟩ := at_wd hp hA
          try walk_at "dl"
          refine lrun_wq hl (by omega) ?_
          rw [show (fun c => decide (c ∈ lts)) = isA from rfl, e3]
          refine ⟨by decide, ?_⟩
          repeat rw [k_nx, xs_nil]
          rw [k_nx]
          exact tokK (.wd _) e _ (isA_lt hA) (isA_not hA).2.2 e1 e2 rfl e4 fun e2 S2 k => k
        · rw [if_neg (show ¬ decide (cs[p] ∈ lts) = true from hA)]
          try walk_at "dl"
          rw [li_all]
          try rw [w_ninC]
          by_cases hS : isS cs[p] = true
          · have hs2 := isS_iff.mp hS
            rw [if_neg (by simp [hs2])]
            try walk_at "dl"
            repeat rw [k_nx, xs_nil]
            rw [k_nx]
            exact tokK (.sg _) (p + 1) _ (isS_lt hS) (isS_not hS).2.2 (by omega) (by omega) (by rw [List.drop_eq_getElem_cons hp, show p + 1 - p = 1 by omega]; rfl) (at_sg hp hS) fun e2 S2 k => k
          · by_cases h32 : cs[p] = 32
            · rw [if_neg (by simp [h32])]
              try walk_at "dl"
              repeat rw [k_nx, xs_nil]
              try walk_at "nx"
              rw [if_neg (by simp [h32])]
              try walk_at "nx"
              try rw [k_nx, xs_nil]
              try refine ⟨by decide, ?_⟩
              refine ⟨p + 1, dn, rest, as, _, _, _, by omega, by omega, h3, by rw [← at_sp hp h32]; exact h4, h5, h6, h7, by omega, rfl⟩
            · have := at_bd hp h32 (by simpa using hS) (by simpa using hA) (by simpa using hD)
              rw [this] at h4
              exact (bdF h4.symm fun t ht => hTk t (by rw [← h3]; exact List.mem_append_right _ ht)).elim
    · have hp : p = cs.length := by omega
      subst hp
      rw [List.drop_length, lexI_nil] at h4
      have : rest = [] := by cases rest with | nil => rfl | cons t rest => cases rest <;> cases h4
      subst this
      rw [List.append_nil] at h3
      subst h3
      try walk_at "dl"
      walk_at "sd"
      rw [if_pos (by simp)]
      try walk_at "dl"
      exact fin _ _ _ _ _ _ h5 h6 h7
theorem ptok_wq (n m : Nat) {d : D} {S : Store} {Q : D → Store → Prop} (hp : pg d) (hd : d.dp ≤ m) (hl : (pt d).length ≤ 400000) (q : ∀ l S', Fr [] S S' → S'[l]? = some (.lst ((tks d).map fun t => .str (tS (tx t)))) → Q (.ref l) S') : wq (call gl fds (n + m + 3) f__law_paper_tokens [d]) Q S := by
  rw [wq_call (fd := d__law_paper_tokens) rfl rfl]
  dsimp only [d__law_paper_tokens]
  unfold b__law_paper_tokens
  have hso := sprOk_pk 0 d hp
  have hTk : ∀ t ∈ tks d, tkOk t := fun t ht => by
    rw [← pk_tks 0 d] at ht
    obtain ⟨p, h1, rfl⟩ := List.mem_map.mp ht
    exact sprOk_mem hso p h1
  have hTl := tks_len hp
  try walk_at "dl"
  rw [show n + m + 2 = n + 1 + m + 1 by omega]
  refine ptext_wq (n + 1) m d S _ hp hd hl fun S1 f1 => ?_
  rw [show n + 1 + m + 1 = n + m + 2 by omega]
  refine ltok_wq (by omega) (fun c hc => by have := pt_lt d hp c hc; omega) (lex_pt hp) hTk fun r rl as S2 f2 h1 h2 h3 => ?_
  try walk_at "dl"
  rw [w_ixL h1 atI_0]
  try walk_at "dl"
  have e1 : as.map D.ref = (as.zip (tks d)).map fun p => D.ref p.1 := by
    have := List.map_fst_zip (l₁ := as) (l₂ := tks d) (Nat.le_of_eq (rws_get h3).1)
    conv => lhs; rw [← this]
    rw [List.map_map]
    rfl
  have e2 : ((as.zip (tks d)).map fun p => D.str (tS (tx p.2))) = (tks d).map fun t => .str (tS (tx t)) := by
    have := List.map_snd_zip (l₁ := as) (l₂ := tks d) (Nat.le_of_eq (rws_get h3).1.symm)
    conv => rhs; rw [← this]
    rw [List.map_map]
    rfl
  rw [e1] at h2 ⊢
  refine compL_tot (e := fun (p : Nat × Tk) => D.ref p.1) (fun p => D.str (tS (tx p.2))) (by rw [List.length_zip]; omega) (fun S' f => Gd_ref (f.get _ _ (by simp) h2)) (fun p hp S' a => ?_) fun S' a => ?_
  · obtain ⟨i, hi⟩ := rws_zip h3 p hp
    have hi' := a.get _ _ (by simp) hi
    try walk_at "dl"
    refine ⟨by decide, ?_⟩
    rw [w_ixL hi' atI_0]
    exact ⟨rfl, .refl⟩
  · rw [e2]
    exact q _ _ ((f1.trans (f2.trans a)).new _) get_new
end K76
end

section
set_option Elab.async false
set_option linter.all false
set_option maxRecDepth 100000
set_option maxHeartbeats 1000000
set_option exponentiation.threshold 20000
namespace K76
open PySem PySem.Spec L2 Dl
local macro_rules | `(tactic| walk_at "dl") => `(tactic| simp (disch := first | assumption | exact get_new | (refine get_app ?_; first | assumption | exact get_new | (refine get_app ?_; first | assumption | exact get_new)) | (refine get_set ?_; assumption) | exact atI_0 | exact atI_1 | exact atI_2 | exact ok_lex | exact ok_degree | exact ok_back | exact ok_blocks | exact ok_weights | exact nL8.1 | exact nL8.2.1 | exact nL8.2.2.1 | exact nL8.2.2.2.1 | exact nL8.2.2.2.2.1 | exact nL8.2.2.2.2.2.1 | exact nL8.2.2.2.2.2.2) only [
  e_fld, e_new, e_mcall, vt_mcall, e_m1, e_fst, f_nil, f_cons, e_fnv, vi_rngd, x_setf, x_augf, wL_row, wL_tok, wL_tak, wL_isO', wL_setT, w_inT, w_ninT, w_inC, w_ninC, w_addS, w_mulS, w_lenS, w_strI, w_strS, w_slS, w_okJ, w_rngd, w_fmtS, w_fmtI, tS_app, tS_len, tS_rep, tS_eq, lit_sgs, lit_lts, lit_dgs, li_word, li_number, li_end, li_empty, li_none, li_lp, li_rp, li_cm, li_cms, li_mi, li_sp, li_zero, e_cB, e_fB, e_var, e_int, e_bl, e_non, e_str, e_glo, e_tup, e_lst, e_op, e_neg, e_not, e_and, e_or, e_cmp, e_chain, e_ite, e_ix, e_sl, e_rev, e_call, e_bi, e_me, e_isi, e_isis, e_comp, e_tupr, e_lstr, e_nil, e_cons, e_ono, e_oso, e_cno, e_cso, vt_and, vt_or, vt_not, vt_cmp, vt_chain, vt_var, vt_bl, vt_call, vt_bi, vt_isi, vt_isis, vi_seq, vi_rng1, vi_rng2, vi_zip, vg_nm, vg_tp, vg_ixs, gs_nil, gs_cons, x_asg, x_par, x_aug, x_expr, x_ret, x_retN, x_ite, x_for, x_whl, x_pass, x_brk, x_cnt, xs_nil, k_one, k_cons, k_rt, k_bk, k_ct, r_nx, r_rt, w_neg, w_tupr, w_lstr,
  TGs.len, wq_pure, List.getElem?_cons_zero, List.getElem?_cons_succ, List.set_cons_zero, List.set_cons_succ, List.length_cons, List.length_nil, List.length_map, if_true, Bool.false_eq_true, if_false, startE, List.map_cons, List.map_nil, List.replicate, List.cons_append, List.nil_append, wipeE, Nat.zero_add, Nat.reduceAdd, Nat.reduceSub, true_and,
  w_getL_ref, w_getS_ref, w_getL_ro, w_getS_ro, w_getS_tup, w_add, w_sub, w_mul, w_addT, w_addL, w_mulL, w_fdiv, w_mod, w_pow, w_shl, w_lt, w_le, w_gt, w_ge, w_ltT, w_gtT, w_eq, w_ne, w_isN, w_isnN, w_in, w_nin, w_trB, w_trN, w_trI, w_trT, w_trL, w_lenT, w_lenR, w_lenL, w_sumT, w_sumL, w_int, w_intB, w_tupL, w_listL, w_listT, w_append, w_pop, w_reverse, w_isL, w_revT, w_asInt, w_slR, w_srcT, w_srcR, w_srcL, w_rng, w_zipT, zipNX_ints, zipNX_int, true_and, w_unpkT, w_unpkL, w_eqB, w_eqT, w_eqI, w_ixT, w_eqS, w_eqTS, Bool.not_true, Bool.not_false, decide_true, decide_false, wd_lex_lex, wd_lex_degree, wd_lex_back, wd_lex_blocks, wd_lex_weights, wd_degree_lex, wd_degree_degree, wd_degree_back, wd_degree_blocks, wd_degree_weights, wd_back_lex, wd_back_degree, wd_back_back, wd_back_blocks, wd_back_weights, wd_blocks_lex, wd_blocks_degree, wd_blocks_back, wd_blocks_blocks, wd_blocks_weights, wd_weights_lex, wd_weights_degree, wd_weights_back, wd_weights_blocks, wd_weights_weights])
local macro_rules | `(tactic| walk_at "nx") => `(tactic| (rw [k_nx]; try walk_at "dl"))
local macro_rules | `(tactic| walk_at "cj") => `(tactic| repeat refine And.intro (by first | decide | exact lens_of (by decide) | exact lens_of (by simp) | simp) ?_)
local macro_rules | `(tactic| walk_at "sd") => `(tactic| (repeat refine And.intro (by first | (refine lens_of ?_; (try simp only [List.length_map, List.length_append, List.length_cons, List.length_nil, List.length_reverse] at *); omega) | (refine Nat.lt_of_le_of_lt (m := 900000) ?_ (by decide); (try simp only [List.length_map, List.length_append, List.length_cons, List.length_nil, List.length_reverse] at *); omega) | decide) ?_))
theorem li_sp2 : ("  " : Str) = tS [32, 32] := by decide +kernel
theorem li_sp3 : ("   " : Str) = tS [32, 32, 32] := by decide +kernel
theorem apart_wq {n : Nat} {t u : Tk} {S : Store} {Q : D → Store → Prop} (ht : tkOk t) (hu : tkOk u) (hl : (tx t).length ≤ 900000) (hl2 : (tx u).length ≤ 900000) (q : ∀ b : Bool, (near2 t u → b = true) → Q (.bl b) S) : wq (call gl fds (n + 1) f__law_are_apart [.str (tS (tx t)), .str (tS (tx u))]) Q S := by
  rw [wq_call (fd := d__law_are_apart) rfl rfl]
  dsimp only [d__law_are_apart]
  unfold b__law_are_apart
  obtain ⟨a, _, a1, _, a2, _, a3, a4⟩ := tk_ends ht
  obtain ⟨_, c, _, c1, _, c2, c3, c4⟩ := tk_ends hu
  have oka : PyData.canLay0 (.str (tS [a])) = true := ok_of (by simpa using a2)
  have okc : PyData.canLay0 (.str (tS [c])) = true := ok_of (by simpa using c2)
  have ok0 : PyData.canLay0 (.str (tS [])) = true := by decide +kernel
  have fin : near2 t u → (decide (a ∈ lts) && decide (c ∈ lts) || decide (a ∈ dgs) && decide (c ∈ dgs)) = true := by
    intro h
    cases t <;> cases u <;> first | exact h.elim | skip
    · rw [decide_eq_true (a3 rfl).1, decide_eq_true (c3 rfl).2]; rfl
    · rw [decide_eq_true (a4 rfl).1, decide_eq_true (c4 rfl).2]; simp
  try walk_at "dl"
  walk_at "sd"
  try walk_at "nx"
  walk_at "sd"
  try walk_at "nx"
  rw [cut_last a1, cut_first c1]
  refine ⟨lens_of (by omega), ?_⟩
  try walk_at "dl"
  rw [if_neg (by simp)]
  refine ⟨lens_of (by omega), ?_⟩
  try walk_at "dl"
  rw [if_neg (by simp)]
  try walk_at "nx"
  have ha1 : (tx t).length ≤ 1000000 := by omega
  have ha2 : (tx u).length ≤ 1000000 := by omega
  have e1 := fun (Q : D → Store → Prop) (S : Store) => w_ixS (Q := Q) (S := S) (atI_lastL a1) ha1
  have e2 := fun (Q : D → Store → Prop) (S : Store) => w_ixS (Q := Q) (S := S) (atI_headL c1) ha2
  simp only [e1, e2, w_inC]
  have q1 : ∀ b : Bool, ((decide (a ∈ lts) && decide (c ∈ lts) || decide (a ∈ dgs) && decide (c ∈ dgs)) = true → b = true) → Q (.bl b) S := fun b h => q b fun z => h (fin z)
  generalize decide (a ∈ lts) = b1 at *
  generalize decide (c ∈ lts) = b2 at *
  generalize decide (a ∈ dgs) = b3 at *
  generalize decide (c ∈ dgs) = b4 at *
  clear fin
  cases b1 <;> cases b2 <;> cases b3 <;> cases b4 <;> simp only [if_true, if_false, Bool.false_eq_true] <;> exact q1 _ (by simp)
def spB : ISs := (.cons (.ite (.cmp .Gt (.var 3) (.int 0)) (.cons (.asg (.nm 2) (.op .Add (.op .Add (.var 2) (.call f__law_pick (.cons (.var 0) (.cons (.lst (.cons (.str (tS [])) (.cons (.str (tS [32])) (.cons (.str (tS [32])) (.cons (.str (tS [32, 32, 32])) .nil))))) .nil)))) (.op .Mult (.str (tS [32])) (.bi .int (.cons (.call f__law_are_apart (.cons (.ix (.var 1) (.op .Sub (.var 3) (.int 1))) (.cons (.ix (.var 1) (.var 3)) .nil))) .nil)))))
  .nil) .nil)
  (.cons (.asg (.nm 2) (.op .Add (.var 2) (.ix (.var 1) (.var 3))))
  .nil))
theorem rep_flat (j : Nat) : (List.replicate j [32]).flatten = List.replicate j 32 := by
  induction j with
  | zero => rfl
  | succ j ih => rw [List.replicate_succ, List.flatten_cons, ih]; rfl
theorem spB0_wq {n l tl : Nat} {T : List Tk} {t : Tk} {cs : List Nat} {S : Store} {QF : Fl × Sl → Store → Prop} (ht : S[tl]? = some (.lst (T.map fun t => .str (tS (tx t))))) (h0 : T[0]? = some t) (hc : cs.length + (tx t).length ≤ 900000)
    (q : QF (.nx, [some (.ref l), some (.ref tl), some (.str (tS (cs ++ tx t))), some (.int ((0 : Nat) : Int))]) S) :
    wq (exs gl (Dl.call gl fds (n + 2)) spB [some (.ref l), some (.ref tl), some (.str (tS cs)), some (.int ((0 : Nat) : Int))]) QF S := by
  unfold spB
  try walk_at "dl"
  rw [if_neg (by decide)]
  try walk_at "nx"
  rw [w_ixL ht (atI_map (e := fun t => D.str (tS (tx t))) h0)]
  try walk_at "dl"
  refine ⟨lens_of (by omega), ?_⟩
  try walk_at "sd"
  try rw [k_nx, xs_nil]
  exact q
theorem spB1_wq {n l tl k : Nat} {T : List Tk} {t u : Tk} {cs : List Nat} {S : Store} {QF : Fl × Sl → Store → Prop} (hd : Dw l S) (ht : S[tl]? = some (.lst (T.map fun t => .str (tS (tx t))))) (hne : tl ≠ l) (h0 : T[k]? = some t) (h1 : T[k + 1]? = some u) (h2 : tkOk t) (h3 : tkOk u) (hc : cs.length + 4 + (tx u).length ≤ 900000) (hc2 : (tx t).length ≤ 900000)
    (q : ∀ g S', g ≤ 4 → (near2 t u → 0 < g) → Dr l S S' → QF (.nx, [some (.ref l), some (.ref tl), some (.str (tS (cs ++ (List.replicate g 32 ++ tx u)))), some (.int ((k + 1 : Nat) : Int))]) S') :
    wq (exs gl (Dl.call gl fds (n + 2)) spB [some (.ref l), some (.ref tl), some (.str (tS cs)), some (.int ((k + 1 : Nat) : Int))]) QF S := by
  unfold spB
  try walk_at "dl"
  rw [if_pos (by simp only [decide_eq_true_eq]; omega)]
  have hlt := hd.lt
  have htl := lt_of_get ht
  refine ⟨by decide, ?_⟩
  refine pick_wq (hd.new _) get_new ?_ ?_ fun d S1 hm f1 => ?_
  · omega
  · exact Nat.succ_pos _
  have hg : ∃ g, g ≤ 3 ∧ d = .str (tS (List.replicate g 32)) := by
    simp only [List.mem_cons, List.not_mem_nil, or_false] at hm
    rcases hm with rfl | rfl | rfl | rfl
    · exact ⟨0, by omega, rfl⟩
    · exact ⟨1, by omega, rfl⟩
    · exact ⟨1, by omega, rfl⟩
    · exact ⟨3, by omega, rfl⟩
  obtain ⟨g, hg, rfl⟩ := hg
  have ht1 := f1.get (get_app (o := _) ht) hne
  try walk_at "dl"
  rw [List.length_replicate]
  refine ⟨lens_of (by omega), ?_⟩
  rw [show ((k + 1 : Nat) : Int) - 1 = (k : Nat) by omega]
  rw [w_ixL ht1 (atI_map (e := fun t => D.str (tS (tx t))) h0)]
  rw [w_ixL ht1 (atI_map (e := fun t => D.str (tS (tx t))) h1)]
  refine apart_wq h2 h3 hc2 (by omega) fun b hb => ?_
  try walk_at "dl"
  refine ⟨by cases b <;> decide, ?_⟩
  rw [rep_flat]
  try walk_at "dl"
  have hj : ((if b = true then (1 : Int) else 0).toNat) ≤ 1 := by cases b <;> decide
  have hj2 : b = true → 0 < ((if b = true then (1 : Int) else 0).toNat) := by cases b <;> decide
  generalize (if b = true then (1 : Int) else 0).toNat = j at *
  refine ⟨lens_of (by simp only [List.length_append, List.length_replicate]; omega), ?_⟩
  refine ⟨by decide, ?_⟩
  try rw [k_nx, xs_nil]
  try walk_at "nx"
  rw [w_ixL ht1 (atI_map (e := fun t => D.str (tS (tx t))) h1)]
  try walk_at "dl"
  refine ⟨lens_of (by simp only [List.length_append, List.length_replicate]; omega), ?_⟩
  refine ⟨by decide, ?_⟩
  try rw [k_nx, xs_nil]
  have e : cs ++ List.replicate g 32 ++ List.replicate j 32 ++ tx u = cs ++ (List.replicate (g + j) 32 ++ tx u) := by
    rw [← List.replicate_append_replicate]
    simp
  rw [e]
  exact q (g + j) S1 (by omega) (fun z => by have := hj2 (hb z); omega) ⟨f1.d, ((Fr.refl (L := [l])).new _).trans f1.f⟩

theorem spr_add : ∀ (ps : List (Nat × Tk)) (g k : Nat), spr ps g ++ List.replicate k 32 = spr ps (g + k)
  | [], g, k => by
    show List.replicate g 32 ++ List.replicate k 32 = List.replicate (g + k) 32
    exact List.replicate_append_replicate
  | (a, t) :: ps, g, k => by
    show (List.replicate a 32 ++ (tx t ++ spr ps g)) ++ List.replicate k 32 = List.replicate a 32 ++ (tx t ++ spr ps (g + k))
    rw [← spr_add ps g k]
    simp
theorem spread_wq {n l tl : Nat} {T : List Tk} {S : Store} {Q : D → Store → Prop} (hd : Dw l S) (ht : S[tl]? = some (.lst (T.map fun t => .str (tS (tx t))))) (hne : tl ≠ l) (hT : ∀ t ∈ T, tkOk t) (hb : txL T ≤ 100000) (hb2 : T.length ≤ 100000)
    (q : ∀ ps k S', Dr l S S' → ps.map (·.2) = T → sprOk ps → (spr ps k).length ≤ 600000 → Q (.str (tS (spr ps k))) S') : wq (call gl fds (n + 3) f__law_spread [.ref l, .ref tl]) Q S := by
  rw [wq_call (fd := d__law_spread) rfl rfl]
  dsimp only [d__law_spread]
  unfold b__law_spread
  try walk_at "dl"
  refine ⟨by decide, ?_⟩
  have hlt := hd.lt
  have htl := lt_of_get ht
  simp only [li_sp2, li_sp3]
  refine pick_wq (hd.new _) get_new ?_ ?_ fun d S1 hm f1 => ?_
  · omega
  · exact Nat.succ_pos _
  have hg : ∃ g, g ≤ 4 ∧ d = .str (tS (List.replicate g 32)) := by
    simp only [List.mem_cons, List.not_mem_nil, or_false] at hm
    rcases hm with rfl | rfl | rfl
    · exact ⟨0, by omega, rfl⟩
    · exact ⟨0, by omega, rfl⟩
    · exact ⟨2, by omega, rfl⟩
  obtain ⟨g, hg, rfl⟩ := hg
  have ht1 := f1.get (get_app (o := _) ht) hne
  have f01 : Dr l S S1 := ⟨f1.d, ((Fr.refl (L := [l])).new _).trans f1.f⟩
  refine ⟨by decide, ?_⟩
  show kQ gl (Dl.call gl fds (n + 2)) (.cons (.forr (.nm 3) (.rng1 (.bi .len (.cons (.var 1) .nil))) spB) (.cons (.ret (.op .Add (.var 2) (.call f__law_pick (.cons (.var 0) (.cons (.lst (.cons (.str (tS [])) (.cons (.str (tS [])) (.cons (.str (tS [32])) .nil)))) .nil))))) .nil)) _ _ _
  try walk_at "nx"
  refine ⟨small_rng (by omega), ?_⟩
  rw [rngItems_nat]
  refine forL_inv1 (e := fun (k : Nat) => D.int (k : Int)) (fun m e S' => m ≤ T.length ∧ Dr l S S' ∧ ∃ ps g cs o, g ≤ 4 ∧ (m = 0 ∨ g = 0) ∧ ps.map (·.2) = T.take m ∧ sprOk ps ∧ cs = spr ps g ∧ cs.length ≤ 4 + txL (T.take m) + 4 * m ∧ e = [some (.ref l), some (.ref tl), some (.str (tS cs)), o]) (fun _ _ _ _ => Gd_none) ⟨Nat.zero_le _, f01, [], g, _, _, hg, .inl rfl, rfl, trivial, rfl, by show (List.replicate g 32).length ≤ _; rw [List.length_replicate]; omega, rfl⟩ ?_ ?_
  · rintro e S' ⟨_, f2, ps, g, cs, o, hg, hz, hps, hok, rfl, hcl, rfl⟩
    rw [List.length_range, List.take_length] at *
    have ht2 := f2.get ht hne
    have hlt2 := f2.d.lt
    try walk_at "nx"
    refine ⟨by decide, ?_⟩
    refine pick_wq (f2.d.new _) get_new ?_ ?_ fun d S3 hm f3 => ?_
    · omega
    · exact Nat.succ_pos _
    have hg3 : ∃ g, g ≤ 1 ∧ d = .str (tS (List.replicate g 32)) := by
      simp only [List.mem_cons, List.not_mem_nil, or_false] at hm
      rcases hm with rfl | rfl | rfl
      · exact ⟨0, by omega, rfl⟩
      · exact ⟨0, by omega, rfl⟩
      · exact ⟨1, by omega, rfl⟩
    obtain ⟨g3, hg3, rfl⟩ := hg3
    try walk_at "dl"
    rw [List.length_replicate]
    refine ⟨lens_of (by omega), ?_⟩
    have e : spr ps g ++ List.replicate g3 32 = spr ps (g + g3) := spr_add ps g g3
    rw [e]
    have e2 := congrArg List.length e
    rw [List.length_append, List.length_replicate] at e2
    exact q ps (g + g3) S3 ⟨f3.d, f2.f.trans (((Fr.refl (L := [l])).new _).trans f3.f)⟩ hps hok (by omega)
  · rintro m x e S' hx ⟨hm, f2, ps, g, cs, o, hg, hz, hps, hok, hcs, hcl, rfl⟩
    have hmn : m < T.length := by
      have := (List.getElem?_eq_some_iff.mp hx).1
      simpa using this
    have hxm : x = m := by rw [List.getElem?_range hmn] at hx; cases hx; rfl
    subst hxm
    have ht2 := f2.get ht hne
    have hTx := List.getElem?_eq_getElem hmn
    have htk := List.take_succ_eq_append_getElem hmn
    have hTL : txL (T.take (x + 1)) ≤ txL T := by
      have := txL_app (T.take (x + 1)) (T.drop (x + 1))
      rw [List.take_append_drop] at this
      omega
    rw [htk, txL_app] at hTL
    simp only [txL] at hTL
    cases x with
    | zero =>
      refine spB0_wq ht2 hTx (by omega) ?_
      have : ps = [] := by
        rw [List.take_zero] at hps
        exact List.map_eq_nil_iff.mp hps
      subst this
      refine ⟨by omega, f2, [(g, T[0])], 0, _, _, by omega, .inr rfl, by rw [htk]; rfl, ⟨hT _ (List.getElem_mem hmn), trivial, trivial⟩, ?_, ?_, rfl⟩
      · rw [hcs]; simp [spr]
      · rw [htk, txL_app, List.length_append]; simp only [txL]; omega
    | succ k =>
      have hg0 : g = 0 := by omega
      subst hg0
      have hk : k < T.length := by omega
      have hTk := List.getElem?_eq_getElem hk
      have htk0 := List.take_succ_eq_append_getElem hk
      have hTL0 : txL (T.take (k + 1)) = txL (T.take k) + ((tx T[k]).length + 0) := by rw [htk0, txL_app]; rfl
      refine spB1_wq f2.d ht2 hne hTk hTx (hT _ (List.getElem_mem hk)) (hT _ (List.getElem_mem hmn)) (by omega) (by omega) fun g2 S3 c1 c2 c3 => ?_
      refine ⟨by omega, ⟨c3.d, f2.f.trans c3.f⟩, ps ++ [(g2, T[k + 1])], 0, _, _, by omega, .inr rfl, by rw [List.map_append, hps, htk]; rfl, ?_, ?_, ?_, rfl⟩
      · refine sprOk_app hok ⟨hT _ (List.getElem_mem hmn), trivial, trivial⟩ fun p hp q hq z => ?_
        simp only [List.head?_cons, Option.mem_def, Option.some.injEq] at hq
        subst hq
        have h1 := congrArg List.getLast? hps
        rw [List.getLast?_map, htk0, List.getLast?_append, show ps.getLast? = some p from hp] at h1
        simp only [Option.map_some, List.getLast?_singleton, Option.some_or, Option.some.injEq] at h1
        rw [h1] at z
        exact c2 z
      · rw [spr_app, hcs]; simp [spr]
      · rw [htk, txL_app, List.length_append, List.length_append, List.length_replicate]; simp only [txL]; omega
end K76
end

section
set_option Elab.async false
set_option linter.all false
set_option maxRecDepth 100000
set_option maxHeartbeats 1000000
set_option exponentiation.threshold 20000
namespace K76
open PySem PySem.Spec L2 Dl
local macro_rules | `(tactic| walk_at "dl") => `(tactic| simp (disch := first | assumption | exact get_new | (refine get_app ?_; first | assumption | exact get_new | (refine get_app ?_; first | assumption | exact get_new)) | (refine get_set ?_; assumption) | exact atI_0 | exact atI_1 | exact atI_2 | exact ok_lex | exact ok_degree | exact ok_back | exact ok_blocks | exact ok_weights | exact nL8.1 | exact nL8.2.1 | exact nL8.2.2.1 | exact nL8.2.2.2.1 | exact nL8.2.2.2.2.1 | exact nL8.2.2.2.2.2.1 | exact nL8.2.2.2.2.2.2) only [
  e_fld, e_new, e_mcall, vt_mcall, e_m1, e_fst, f_nil, f_cons, e_fnv, vi_rngd, x_setf, x_augf, wL_row, wL_tok, wL_tak, wL_isO', wL_setT, w_inT, w_ninT, w_inC, w_ninC, w_addS, w_mulS, w_lenS, w_strI, w_strS, w_slS, w_okJ, w_rngd, w_fmtS, w_fmtI, tS_app, tS_len, tS_rep, tS_eq, lit_sgs, lit_lts, lit_dgs, li_word, li_number, li_end, li_empty, li_none, li_lp, li_rp, li_cm, li_cms, li_mi, li_sp, li_zero, e_cB, e_fB, e_var, e_int, e_bl, e_non, e_str, e_glo, e_tup, e_lst, e_op, e_neg, e_not, e_and, e_or, e_cmp, e_chain, e_ite, e_ix, e_sl, e_rev, e_call, e_bi, e_me, e_isi, e_isis, e_comp, e_tupr, e_lstr, e_nil, e_cons, e_ono, e_oso, e_cno, e_cso, vt_and, vt_or, vt_not, vt_cmp, vt_chain, vt_var, vt_bl, vt_call, vt_bi, vt_isi, vt_isis, vi_seq, vi_rng1, vi_rng2, vi_zip, vg_nm, vg_tp, vg_ixs, gs_nil, gs_cons, x_asg, x_par, x_aug, x_expr, x_ret, x_retN, x_ite, x_for, x_whl, x_pass, x_brk, x_cnt, xs_nil, k_one, k_cons, k_rt, k_bk, k_ct, r_nx, r_rt, w_neg, w_tupr, w_lstr,
  TGs.len, wq_pure, List.getElem?_cons_zero, List.getElem?_cons_succ, List.set_cons_zero, List.set_cons_succ, List.length_cons, List.length_nil, List.length_map, if_true, Bool.false_eq_true, if_false, startE, List.map_cons, List.map_nil, List.replicate, List.cons_append, List.nil_append, wipeE, Nat.zero_add, Nat.reduceAdd, Nat.reduceSub, true_and,
  w_getL_ref, w_getS_ref, w_getL_ro, w_getS_ro, w_getS_tup, w_add, w_sub, w_mul, w_addT, w_addL, w_mulL, w_fdiv, w_mod, w_pow, w_shl, w_lt, w_le, w_gt, w_ge, w_ltT, w_gtT, w_eq, w_ne, w_isN, w_isnN, w_in, w_nin, w_trB, w_trN, w_trI, w_trT, w_trL, w_lenT, w_lenR, w_lenL, w_sumT, w_sumL, w_int, w_intB, w_tupL, w_listL, w_listT, w_append, w_pop, w_reverse, w_isL, w_revT, w_asInt, w_slR, w_srcT, w_srcR, w_srcL, w_rng, w_zipT, zipNX_ints, zipNX_int, true_and, w_unpkT, w_unpkL, w_eqB, w_eqT, w_eqI, w_ixT, w_eqS, w_eqTS, Bool.not_true, Bool.not_false, decide_true, decide_false, wd_lex_lex, wd_lex_degree, wd_lex_back, wd_lex_blocks, wd_lex_weights, wd_degree_lex, wd_degree_degree, wd_degree_back, wd_degree_blocks, wd_degree_weights, wd_back_lex, wd_back_degree, wd_back_back, wd_back_blocks, wd_back_weights, wd_blocks_lex, wd_blocks_degree, wd_blocks_back, wd_blocks_blocks, wd_blocks_weights, wd_weights_lex, wd_weights_degree, wd_weights_back, wd_weights_blocks, wd_weights_weights])
local macro_rules | `(tactic| walk_at "nx") => `(tactic| (rw [k_nx]; try walk_at "dl"))
local macro_rules | `(tactic| walk_at "cj") => `(tactic| repeat refine And.intro (by first | decide | exact lens_of (by decide) | exact lens_of (by simp) | simp) ?_)
local macro_rules | `(tactic| walk_at "sd") => `(tactic| (repeat refine And.intro (by first | (refine lens_of ?_; (try simp only [List.length_map, List.length_append, List.length_cons, List.length_nil, List.length_reverse] at *); omega) | (refine Nat.lt_of_le_of_lt (m := 900000) ?_ (by decide); (try simp only [List.length_map, List.length_append, List.length_cons, List.length_nil, List.length_reverse] at *); omega) | decide) ?_))
theorem e_maxl {gl : Nat → D} {cf : Nat → List D → M D} {a : IE} {env : Sl} {Q : D → Store → Prop} {S : Store} : wq (ev gl cf (.maxl a) env) Q S = wq (ev gl cf a env) (fun x S' => wq (maxLD x) Q S') S := by simp only [ev, wq_bind]
theorem maxI_le {B : Int} : ∀ (ns : List Int) (n : Int), n ≤ B → (∀ x ∈ ns, x ≤ B) → maxI n ns ≤ B
  | [], n, h, _ => h
  | x :: ns, n, h, h2 => by
    show maxI (max n x) ns ≤ B
    exact maxI_le ns _ (Int.max_le.mpr ⟨h, h2 x List.mem_cons_self⟩) fun y hy => h2 y (List.mem_cons_of_mem _ hy)
theorem maxI_ge : ∀ (ns : List Int) (n : Int), n ≤ maxI n ns
  | [], n => Int.le_refl _
  | x :: ns, n => by
    show n ≤ maxI (max n x) ns
    exact Int.le_trans (Int.le_max_left _ _) (maxI_ge ns _)
theorem w_maxL {l : Nat} {n : Int} {ns : List Int} {Q : D → Store → Prop} {S : Store} (h : S[l]? = some (.lst ((n :: ns).map .int))) : wq (maxLD (.ref l)) Q S = Q (.int (maxI n ns)) S := by
  unfold maxLD
  rw [wq_bind, w_getL_ref h, intsOf_map]
  exact wq_pure _ _ _
theorem li_z : ("z" : Str) = tS [122] := by decide +kernel
def wLim (m : Nat) (x : List Nat) : Prop := x ≠ [] ∧ (∀ c ∈ x, isA c = true) ∧ x.length ≤ 30 + 2 * m
theorem lts_at {r : Int} (h0 : 0 ≤ r) (h1 : r < 26) : ∃ c, isA c = true ∧ atI lts r = some c := by
  have : r.toNat < lts.length := by show r.toNat < 26; omega
  refine ⟨lts[r.toNat], decide_eq_true (List.getElem_mem this), atI_of h0 (List.getElem?_eq_getElem this)⟩
def wdB : ISs := (.cons (.asg (.nm 5) (.m1 .join (.str (tS [])) (.comp (.nm 6) [6] (.rng1 (.var 4)) .no (.ix (.str (tS lts)) (.call f__law_take (.cons (.var 0) (.cons (.int 26) .nil)))))))
  (.cons (.ite (.cmp .In (.var 5) (.var 2)) (.cons (.asg (.nm 5) (.op .Mult (.str "z") (.op .Add (.int 1) (.maxl (.op .Add (.lst (.cons (.int 5) .nil)) (.comp (.nm 7) [7] (.seq (.var 2)) .no (.bi .len (.cons (.var 7) .nil))))))))
  .nil) .nil)
  (.cons (.expr (.me .append (.var 2) (.cons (.var 5) .nil)))
  .nil)))
theorem wdB_wq {n l w m : Nat} {z : Int} {ws : List (List Nat)} {a c d f : Option D} {S : Store} {QF : Fl × Sl → Store → Prop} (hd : Dw l S) (hw : S[w]? = some (.lst (ws.map fun x => .str (tS x)))) (hne : w ≠ l) (hws : ∀ x ∈ ws, wLim m x) (hm : ws.length = m) (hm3 : m ≤ 3) (z0 : 1 ≤ z) (z1 : z ≤ 30)
    (q : ∀ x S' S'' e, wLim (m + 1) x → Dr l S S'' → S''[w]? = some (.lst (ws.map fun x => .str (tS x))) → S' = S''.set w (.lst ((ws.map fun x => .str (tS x)) ++ [.str (tS x)])) → (∃ a c d f, e = [some (.ref l), some (.int 3), some (.ref w), a, some (.int z), c, d, f]) → QF (.nx, e) S') :
    wq (exs gl (Dl.call gl fds (n + 1)) wdB [some (.ref l), some (.int 3), some (.ref w), a, some (.int z), c, d, f]) QF S := by
  have fin : ∀ x S' d f, wLim (m + 1) x → Dr l S S' → wq (meRun .append (.ref w) [.str (tS x)]) (fun _ S'' => QF (.nx, [some (.ref l), some (.int 3), some (.ref w), a, some (.int z), some (.str (tS x)), d, f]) S'') S' := by
    intro x S' d f hx hd'
    have hw' := hd'.get hw hne
    rw [w_append hw']
    exact ⟨szl (by rw [List.length_map]; omega), q x _ S' _ hx hd' hw' rfl ⟨_, _, _, _, rfl⟩⟩
  unfold wdB
  try walk_at "dl"
  obtain ⟨k, rfl⟩ : ∃ k : Nat, z = k := ⟨z.toNat, by omega⟩
  refine ⟨small_rng (by omega), ?_⟩
  rw [rngItems_nat]
  refine compL_drw (e := fun (k : Nat) => D.int (k : Int)) (e2 := fun (c : Nat) => D.str (tS [c])) (R := fun _ c => isA c = true) (by simp; omega) (fun _ _ => Gd_none) hd (fun i hi S' d1 => ?_) fun ys S' e1 e2 d1 => ?_
  · try walk_at "dl"
    refine ⟨by decide, ?_⟩
    refine take_wq d1.d (by decide) fun r S2 r0 r1 d2 => ?_
    obtain ⟨ch, h1, h2⟩ := lts_at r0 r1
    rw [w_ixS h2 (by decide)]
    try walk_at "dl"
    exact ⟨⟨ch, rfl, h1⟩, d2⟩
  · have e3 : (ys.map fun c => D.str (tS [c])) = ((ys.map fun c => [c]).map tS).map .str := by simp
    rw [e3]
    rw [w_joinL get_new]
    have hys : ys.length = k := by rw [e1, List.length_range]
    have hfl : (ys.map fun c => [c]).flatten = ys := by
      clear e1 e2 e3 hys
      induction ys with
      | nil => rfl
      | cons y ys ih => rw [List.map_cons, List.flatten_cons, ih]; rfl
    have hA : ∀ c ∈ ys, isA c = true := fun c hc => by
      obtain ⟨i, hi⟩ := List.getElem?_of_mem hc
      have hil := (List.getElem?_eq_some_iff.mp hi).1
      obtain ⟨x, hx⟩ : ∃ x, (List.range (k : Int).toNat)[i]? = some x := ⟨_, List.getElem?_eq_getElem (by simp; omega)⟩
      exact e2 (x, c) (List.mem_of_getElem? (i := i) (by rw [List.getElem?_zip_eq_some]; exact ⟨hx, hi⟩))
    rw [jn_flat, hfl]
    have hW : wLim (m + 1) ys := ⟨fun z => by rw [z] at hys; simp at hys; omega, hA, by omega⟩
    have d2 := d1.new (Ob.lst (((ys.map fun c => [c]).map tS).map .str))
    have hw2 := d2.get hw hne
    generalize (S' ++ [Ob.lst (((ys.map fun c => [c]).map tS).map .str)]) = S2 at *
    refine ⟨by rw [← List.length_flatten, hfl]; simp; omega, by decide, ?_⟩
    have hfa : (ws.map fun x => D.str (tS x)).all flat = true := by
      rw [List.all_eq_true]
      intro y hy
      obtain ⟨x, _, rfl⟩ := List.mem_map.mp hy
      rfl
    try walk_at "nx"
    rw [hfa]
    refine ⟨rfl, ?_⟩
    generalize inF (D.str (tS ys)) (ws.map fun x => D.str (tS x)) = b
    cases b with
    | false =>
      try walk_at "dl"
      have := fin ys S2 d f hW d2
      rw [w_append hw2, List.length_map] at this
      try walk_at "nx"
      refine ⟨this.1, ?_⟩
      try rw [k_nx, xs_nil]
      exact this.2
    | true =>
      try walk_at "dl"
      rw [e_maxl]
      try walk_at "dl"
      have d3 := d2.new (Ob.lst [D.int 5])
      have hw3 := d3.get hw hne
      have g5 : (S2 ++ [Ob.lst [D.int 5]])[S2.length]? = some (.lst (([5] : List Int).map .int)) := get_new
      generalize (S2 ++ [Ob.lst [D.int 5]]) = S3 at *
      generalize S2.length = r5 at *
      refine ⟨by decide, ?_⟩
      refine compL_tot (e := fun x => D.str (tS x)) (fun x => D.int (x.length : Nat)) (by omega) (fun S' f => Gd_ref (f.get _ _ (by simp) hw3)) (fun x hx S' f1 => ?_) fun S4 f4 => ?_
      · try walk_at "dl"
        refine ⟨by decide, lens_of (by have := (hws x hx).2.2; omega), ?_⟩
        first | exact .refl | exact ⟨rfl, .refl⟩
      · have g5' := f4.get _ _ (by simp) g5
        have e6 : (ws.map fun x => D.int ((x.length : Nat) : Int)) = (ws.map fun x => ((x.length : Nat) : Int)).map .int := by simp
        rw [e6]
        have d4 : Dr l S S4 := ⟨(Dw.fr d3.d f4).d, d3.f.trans f4.of_nil⟩
        have d5 := d4.new (Ob.lst ((ws.map fun x => ((x.length : Nat) : Int)).map .int))
        have g6 := get_app (o := Ob.lst ((ws.map fun x => ((x.length : Nat) : Int)).map .int)) g5'
        have g7 : (S4 ++ [Ob.lst ((ws.map fun x => ((x.length : Nat) : Int)).map .int)])[S4.length]? = some (.lst ((ws.map fun x => ((x.length : Nat) : Int)).map .int)) := get_new
        rw [w_addL g6 g7]
        refine ⟨lens_of (by simp; omega), ?_⟩
        rw [← List.map_append, List.singleton_append]
        have d6 := d5.new (Ob.lst ((5 :: ws.map fun x => ((x.length : Nat) : Int)).map .int))
        rw [w_maxL (n := 5) (ns := ws.map fun x => ((x.length : Nat) : Int)) get_new]
        have hmx : maxI 5 (ws.map fun x => ((x.length : Nat) : Int)) ≤ 30 + 2 * (m : Int) := maxI_le _ _ (by omega) fun y hy => by
          obtain ⟨x, hx, rfl⟩ := List.mem_map.mp hy
          have := (hws x hx).2.2
          omega
        have hmn : 5 ≤ maxI 5 (ws.map fun x => ((x.length : Nat) : Int)) := maxI_ge _ _
        generalize maxI 5 (ws.map fun x => ((x.length : Nat) : Int)) = mx at *
        simp only [li_z]
        try walk_at "dl"
        refine ⟨by simp; omega, by decide, ?_⟩
        have hz : (List.replicate (1 + mx).toNat [122]).flatten = List.replicate (1 + mx).toNat 122 := by
          generalize (1 + mx).toNat = j
          induction j with
          | zero => rfl
          | succ j ih => rw [List.replicate_succ, List.flatten_cons, ih]; rfl
        have hW2 : wLim (m + 1) (List.replicate (1 + mx).toNat 122) := ⟨fun z => by have := congrArg List.length z; rw [List.length_replicate, List.length_nil] at this; omega, fun c hc => by rw [(List.mem_replicate.mp hc).2]; decide, by rw [List.length_replicate]; omega⟩
        rw [hz]
        simp only [List.map_cons] at d6
        have hw6 := d6.get hw hne
        have := fin _ _ d f hW2 d6
        rw [w_append hw6, List.length_map] at this
        try rw [k_nx, xs_nil]
        try walk_at "nx"
        try rw [w_isL hw6, w_append hw6, List.length_map]
        refine ⟨this.1, ?_⟩
        try rw [k_nx, xs_nil]
        exact this.2
theorem words_wq {n l : Nat} {S : Store} {Q : D → Store → Prop} (hd : Dw l S)
    (q : ∀ (w : Nat) (ws : List (List Nat)) (S' : Store), Dr l S S' → S'[w]? = some (.lst (ws.map fun x => .str (tS x))) → w ≠ l → (∀ x ∈ ws, wLim 3 x) → ws.length = 3 → Q (.ref w) S') : wq (call gl fds (n + 2) f__law_words [.ref l, .int 3]) Q S := by
  rw [wq_call (fd := d__law_words) rfl rfl]
  dsimp only [d__law_words]
  unfold b__law_words
  try walk_at "dl"
  refine ⟨by decide, ?_⟩
  have g1 : (S ++ [Ob.lst []])[S.length]? = some (.lst []) := get_new
  have f1 : Dr l S (S ++ [Ob.lst []]) := (Dw.refl hd).new _
  have hlt := hd.lt
  have hwl : S.length ≠ l := by omega
  have hS0 : S.length < (S ++ [Ob.lst []]).length := by simp
  generalize S ++ [Ob.lst []] = S1 at *
  generalize hwe : S.length = w at *
  try walk_at "nx"
  refine ⟨by decide, by decide, ?_⟩
  rw [show rngItems 0 3 = (List.range 3).map (fun (k : Nat) => D.int (k : Int)) from rngItems_nat 3]
  refine forL_inv1 (e := fun (k : Nat) => D.int (k : Int)) (fun m e S' => ∃ ws a b c d f, Dr l S S' ∧ S'[w]? = some (.lst (ws.map fun x => .str (tS x))) ∧ (∀ x ∈ ws, wLim m x) ∧ ws.length = m ∧ e = [some (.ref l), some (.int 3), some (.ref w), a, b, c, d, f]) (fun _ _ _ _ => Gd_none) ⟨[], none, none, none, none, none, f1, g1, by simp, rfl, rfl⟩ ?_ ?_
  · rintro e S' ⟨ws, a, b, c, d, f, h1, h2, h3, h4, rfl⟩
    try walk_at "nx"
    exact q w ws S' h1 h2 hwl h3 h4
  · rintro m x e S' hx ⟨ws, a, b, c, d, f, h1, h2, h3, h4, rfl⟩
    have hmn : m < 3 := by
      have := (List.getElem?_eq_some_iff.mp hx).1
      simpa using this
    have hwlt := lt_of_get h2
    try walk_at "dl"
    refine ⟨by decide, ?_⟩
    refine take_wq h1.d (by decide) fun r S2 r0 r1 d2 => ?_
    try walk_at "dl"
    refine ⟨by decide, ?_⟩
    try walk_at "nx"
    have D2 : Dr l S S2 := ⟨d2.d, h1.f.trans d2.f⟩
    have w2 := d2.get h2 hwl
    refine take_wq d2.d (by decide) fun r9 S3 _ _ d3 => ?_
    have D3 : Dr l S S3 := ⟨d3.d, D2.f.trans d3.f⟩
    have w3 := d3.get w2 hwl
    try walk_at "dl"
    have fin : ∀ (z : Int) (S4 : Store), 1 ≤ z → z ≤ 30 → Dr l S S4 → S4[w]? = some (.lst (ws.map fun x => .str (tS x))) → ∀ QF : Fl × Sl → Store → Prop, (∀ e2 S5, (∃ ws : List (List Nat), ∃ a b c d f, Dr l S S5 ∧ S5[w]? = some (.lst (ws.map fun x => .str (tS x))) ∧ (∀ x ∈ ws, wLim (m + 1) x) ∧ ws.length = m + 1 ∧ e2 = [some (.ref l), some (.int 3), some (.ref w), a, b, c, d, f]) → QF (.nx, e2) S5) → ∀ a c d f, wq (exs gl (Dl.call gl fds (n + 1)) wdB [some (.ref l), some (.int 3), some (.ref w), a, some (.int z), c, d, f]) QF S4 := by
      intro z S4 z0 z1 D4 w4 QF hq a c d f
      refine wdB_wq D4.d w4 hwl h3 h4 (by omega) z0 z1 fun y S5 S6 e c1 c2 c3 c4 c5 => ?_
      obtain ⟨a', c', d', f', rfl⟩ := c5
      subst c4
      have D5 : Dr l S S6 := ⟨c2.d, D4.f.trans c2.f⟩
      refine hq _ _ ⟨ws ++ [y], _, _, _, _, _, D5.set _ (by omega) hwl, by rw [get_set c3, List.map_append]; rfl, fun x hx => ?_, by rw [List.length_append, h4]; rfl, rfl⟩
      rcases List.mem_append.mp hx with hx | hx
      · exact ⟨(h3 x hx).1, (h3 x hx).2.1, by have := (h3 x hx).2.2; omega⟩
      · rw [List.mem_singleton.mp hx]
        exact c1
    by_cases h9 : r9 = 0
    · rw [if_pos (decide_eq_true h9)]
      refine take_wq d3.d (by decide) fun r20 S4 k0 k1 d4 => ?_
      have D4 : Dr l S S4 := ⟨d4.d, D3.f.trans d4.f⟩
      have w4 := d4.get w3 hwl
      try walk_at "dl"
      refine ⟨by decide, ?_⟩
      try rw [k_nx, xs_nil]
      rw [k_nx]
      exact fin _ S4 (by omega) (by omega) D4 w4 _ (fun e2 S5 k => k) _ _ _ _
    · rw [if_neg (by simp [h9])]
      try walk_at "dl"
      try rw [k_nx, xs_nil]
      rw [k_nx]
      exact fin _ S3 (by omega) (by omega) D3 w3 _ (fun e2 S5 k => k) _ _ _ _
end K76
end

section
set_option Elab.async false
set_option linter.all false
set_option maxRecDepth 100000
set_option maxHeartbeats 1000000
set_option exponentiation.threshold 20000
namespace K76
open PySem PySem.Spec L2 Dl
local macro_rules | `(tactic| walk_at "dl") => `(tactic| simp (disch := first | assumption | exact get_new | (refine get_app ?_; first | assumption | exact get_new | (refine get_app ?_; first | assumption | exact get_new)) | (refine get_set ?_; assumption) | exact atI_0 | exact atI_1 | exact atI_2 | exact ok_lex | exact ok_degree | exact ok_back | exact ok_blocks | exact ok_weights | exact nL8.1 | exact nL8.2.1 | exact nL8.2.2.1 | exact nL8.2.2.2.1 | exact nL8.2.2.2.2.1 | exact nL8.2.2.2.2.2.1 | exact nL8.2.2.2.2.2.2) only [
  e_fld, e_new, e_mcall, vt_mcall, e_m1, e_fst, f_nil, f_cons, e_fnv, vi_rngd, x_setf, x_augf, wL_row, wL_tok, wL_tak, wL_isO', wL_setT, w_inT, w_ninT, w_inC, w_ninC, w_addS, w_mulS, w_lenS, w_strI, w_strS, w_slS, w_okJ, w_rngd, w_fmtS, w_fmtI, tS_app, tS_len, tS_rep, tS_eq, lit_sgs, lit_lts, lit_dgs, li_word, li_number, li_end, li_empty, li_none, li_lp, li_rp, li_cm, li_cms, li_mi, li_sp, li_zero, e_cB, e_fB, e_var, e_int, e_bl, e_non, e_str, e_glo, e_tup, e_lst, e_op, e_neg, e_not, e_and, e_or, e_cmp, e_chain, e_ite, e_ix, e_sl, e_rev, e_call, e_bi, e_me, e_isi, e_isis, e_comp, e_tupr, e_lstr, e_nil, e_cons, e_ono, e_oso, e_cno, e_cso, vt_and, vt_or, vt_not, vt_cmp, vt_chain, vt_var, vt_bl, vt_call, vt_bi, vt_isi, vt_isis, vi_seq, vi_rng1, vi_rng2, vi_zip, vg_nm, vg_tp, vg_ixs, gs_nil, gs_cons, x_asg, x_par, x_aug, x_expr, x_ret, x_retN, x_ite, x_for, x_whl, x_pass, x_brk, x_cnt, xs_nil, k_one, k_cons, k_rt, k_bk, k_ct, r_nx, r_rt, w_neg, w_tupr, w_lstr,
  TGs.len, wq_pure, List.getElem?_cons_zero, List.getElem?_cons_succ, List.set_cons_zero, List.set_cons_succ, List.length_cons, List.length_nil, List.length_map, if_true, Bool.false_eq_true, if_false, startE, List.map_cons, List.map_nil, List.replicate, List.cons_append, List.nil_append, wipeE, Nat.zero_add, Nat.reduceAdd, Nat.reduceSub, true_and,
  w_getL_ref, w_getS_ref, w_getL_ro, w_getS_ro, w_getS_tup, w_add, w_sub, w_mul, w_addT, w_addL, w_mulL, w_fdiv, w_mod, w_pow, w_shl, w_lt, w_le, w_gt, w_ge, w_ltT, w_gtT, w_eq, w_ne, w_isN, w_isnN, w_in, w_nin, w_trB, w_trN, w_trI, w_trT, w_trL, w_lenT, w_lenR, w_lenL, w_sumT, w_sumL, w_int, w_intB, w_tupL, w_listL, w_listT, w_append, w_pop, w_reverse, w_isL, w_revT, w_asInt, w_slR, w_srcT, w_srcR, w_srcL, w_rng, w_zipT, zipNX_ints, zipNX_int, true_and, w_unpkT, w_unpkL, w_eqB, w_eqT, w_eqI, w_ixT, w_eqS, w_eqTS, Bool.not_true, Bool.not_false, decide_true, decide_false, wd_lex_lex, wd_lex_degree, wd_lex_back, wd_lex_blocks, wd_lex_weights, wd_degree_lex, wd_degree_degree, wd_degree_back, wd_degree_blocks, wd_degree_weights, wd_back_lex, wd_back_degree, wd_back_back, wd_back_blocks, wd_back_weights, wd_blocks_lex, wd_blocks_degree, wd_blocks_back, wd_blocks_blocks, wd_blocks_weights, wd_weights_lex, wd_weights_degree, wd_weights_back, wd_weights_blocks, wd_weights_weights])
local macro_rules | `(tactic| walk_at "nx") => `(tactic| (rw [k_nx]; try walk_at "dl"))
local macro_rules | `(tactic| walk_at "cj") => `(tactic| repeat refine And.intro (by first | decide | exact lens_of (by decide) | exact lens_of (by simp) | simp) ?_)
local macro_rules | `(tactic| walk_at "sd") => `(tactic| (repeat refine And.intro (by first | (refine lens_of ?_; (try simp only [List.length_map, List.length_append, List.length_cons, List.length_nil, List.length_reverse] at *); omega) | (refine Nat.lt_of_le_of_lt (m := 900000) ?_ (by decide); (try simp only [List.length_map, List.length_append, List.length_cons, List.length_nil, List.length_reverse] at *); omega) | decide) ?_))
/-- how long a drawn thing's text may be -/
def thB : Nat → Nat
  | 0 => 110
  | m + 1 => 3 * (thB m + 2) + 2
def th (m : Nat) (d : D) : Prop := pg d ∧ d.dp ≤ m ∧ (pt d).length ≤ thB m
theorem thB_ge : ∀ m, 110 ≤ thB m
  | 0 => Nat.le_refl _
  | m + 1 => by have := thB_ge m; show 110 ≤ 3 * (thB m + 2) + 2; omega
/-- a drawn word -/
def wdOk (x : List Nat) : Prop := wOk x ∧ x.length ≤ 100
theorem ptk_le {b : Nat} : ∀ ds : List D, (∀ d ∈ ds, (pt d).length ≤ b) → (ptk ds).length ≤ ds.length * (b + 2)
  | [], _ => by simp [ptk]
  | d :: ds, h => by
    have h1 := h d List.mem_cons_self
    have h2 := ptk_le ds fun e he => h e (List.mem_cons_of_mem _ he)
    simp only [ptk, List.length_cons, List.length_append, Nat.add_mul, Nat.one_mul]
    omega
theorem ptj_le (ds : List D) : (ptj ds).length ≤ (ptk ds).length := by
  cases ds with
  | nil => exact Nat.le_refl _
  | cons d ds => simp only [ptj, ptk, List.length_cons, List.length_append]; omega
theorem pgs_of : ∀ ds : List D, (∀ d ∈ ds, pg d) → pgs ds
  | [], _ => trivial
  | d :: ds, h => ⟨h d List.mem_cons_self, pgs_of ds fun e he => h e (List.mem_cons_of_mem _ he)⟩
theorem dps_of {m : Nat} : ∀ ds : List D, (∀ d ∈ ds, d.dp ≤ m) → D.dps ds ≤ m
  | [], _ => Nat.zero_le _
  | d :: ds, h => by
    have h1 := h d List.mem_cons_self
    have h2 := dps_of ds fun e he => h e (List.mem_cons_of_mem _ he)
    simp only [D.dps]
    omega
theorem th_tup {m : Nat} {ds : List D} (h : ∀ d ∈ ds, th m d) (hl : ds.length ≤ 3) : th (m + 1) (.tup ds) := by
  refine ⟨?_, ?_, ?_⟩
  · simp only [pg]
    exact pgs_of ds fun d hd => (h d hd).1
  · simp only [D.dp]
    have := dps_of ds fun d hd => (h d hd).2.1
    omega
  · have h1 := ptk_le ds fun d hd => (h d hd).2.2
    have h2 := ptj_le ds
    have h3 : ds.length * (thB m + 2) ≤ 3 * (thB m + 2) := Nat.mul_le_mul_right _ hl
    simp only [pt, List.length_cons, List.length_append, List.length_nil]
    show _ ≤ 3 * (thB m + 2) + 2
    omega
theorem th_leaf {m : Nat} {d : D} (h : pg d) (h2 : lf d) (h3 : (pt d).length ≤ 110) : th m d := by
  refine ⟨h, ?_, Nat.le_trans h3 (thB_ge m)⟩
  cases d <;> first | exact h2.elim | exact Nat.zero_le _
theorem th_int {m : Nat} {i : Int} (h : i.natAbs < 10 ^ 50) : th m (.int i) := by
  refine th_leaf (by simpa [pg] using h) trivial ?_
  have := dg_len (k := 50) (by decide) h
  simp only [pt, dgI]
  split
  · rw [List.length_cons]; omega
  · omega
theorem th_word {m : Nat} {x : List Nat} (h : wdOk x) : th m (.str (tS x)) := by
  refine th_leaf (by simp only [pg]; rw [tS_cps]; exact h.1) trivial ?_
  simp only [pt]
  rw [tS_cps]
  have := h.2
  omega
theorem th_non {m : Nat} : th m .non := th_leaf trivial trivial (by decide)
theorem thing_wq {l wl : Nat} {ws : List (List Nat)} (hne : wl ≠ l) (hw : ∀ x ∈ ws, wdOk x) (h0 : 0 < ws.length) (n : Nat) : ∀ (m : Nat) (S : Store) (Q : D → Store → Prop), Dw l S → S[wl]? = some (.lst (ws.map fun x => .str (tS x))) → m ≤ 1000 →
    (∀ d S', th m d → Dr l S S' → Q d S') → wq (call gl fds (n + m + 3) f__law_thing [.ref l, .ref wl, .int m]) Q S := by
  have rest : ∀ (k m : Nat) (kd : Int) (S : Store) (Q : D → Store → Prop) (o : Option D), Dw l S → S[wl]? = some (.lst (ws.map fun x => .str (tS x))) →
      (∀ d S', th m d → Dr l S S' → Q d S') → wq (exs gl (Dl.call gl fds (k + 2)) (.cons (.ite (.cmp .Eq (.var 3) (.int 1)) (.cons (.ret (.call f__law_pick (.cons (.var 0) (.cons (.var 1) .nil))))
  .nil) .nil)
  (.cons (.ite (.cmp .Eq (.var 3) (.int 2)) (.cons (.ret .non)
  .nil) .nil)
  (.cons (.ret (.call f__law_pick (.cons (.var 0) (.cons (.lst (.cons (.int 0) (.cons (.int 7) (.cons (.neg (.int 1)) (.cons (.int 12) (.cons (.neg (.int 305)) (.cons (.op .Add (.op .Pow (.int 10) (.int 39)) (.int 7)) (.cons (.op .Sub (.neg (.op .Pow (.int 10) (.int 39))) (.int 11)) (.cons (.op .Add (.int 1) (.call f__law_take (.cons (.var 0) (.cons (.int 99999) .nil)))) .nil))))))))) .nil))))
  .nil))) [some (.ref l), some (.ref wl), some (.int m), some (.int kd), o]) (fun r S' => wq (ofFl r) Q S') S := by
    intro k m kd S Q o hd hr q
    try walk_at "dl"
    by_cases h1 : kd = 1
    · rw [if_pos (decide_eq_true h1)]
      refine pick_wq hd hr hne (by simpa using h0) fun d S' hm d1 => ?_
      obtain ⟨x, hx, rfl⟩ := List.mem_map.mp hm
      try walk_at "dl"
      exact q _ _ (th_word (hw x hx)) d1
    · rw [if_neg (by simp [h1])]
      try walk_at "dl"
      try walk_at "nx"
      by_cases h2 : kd = 2
      · rw [if_pos (decide_eq_true h2)]
        try walk_at "dl"
        exact q _ _ th_non (Dw.refl hd)
      · rw [if_neg (by simp [h2])]
        try walk_at "dl"
        try walk_at "nx"
        refine ⟨by decide, by decide, ?_⟩
        refine take_wq hd (by decide) fun r S2 r0 r1 d2 => ?_
        have hlt := d2.d.lt
        try walk_at "dl"
        refine ⟨by decide, ?_⟩
        refine pick_wq (d2.d.new _) get_new ?_ ?_ fun d S3 hm d3 => ?_
        · omega
        · exact Nat.succ_pos _
        have D3 : Dr l S S3 := ⟨d3.d, d2.f.trans (((Fr.refl (L := [l])).new _).trans d3.f)⟩
        refine q _ _ ?_ D3
        simp only [List.mem_cons, List.not_mem_nil, or_false] at hm
        rcases hm with rfl | rfl | rfl | rfl | rfl | rfl | rfl | rfl
        · exact th_int (by decide +kernel)
        · exact th_int (by decide +kernel)
        · exact th_int (by decide +kernel)
        · exact th_int (by decide +kernel)
        · exact th_int (by decide +kernel)
        · exact th_int (by decide +kernel)
        · exact th_int (by decide +kernel)
        · exact th_int (Nat.lt_of_le_of_lt (show (1 + r).natAbs ≤ 100000 by omega) (by decide))
  intro m
  induction m with
  | zero =>
    intro S Q hd hr hm q
    rw [wq_call (fd := d__law_thing) rfl rfl]
    dsimp only [d__law_thing]
    unfold b__law_thing
    try walk_at "dl"
    refine take_wq hd (by decide) fun r S2 r0 r1 d2 => ?_
    have hr2 := d2.get hr hne
    have R := rest n 0 r S2 Q none d2.d hr2 fun d S' h k => q d S' h ⟨k.d, d2.f.trans k.f⟩
    refine ⟨by decide, ?_⟩
    try walk_at "nx"
    by_cases h2 : (2 : Int) < r
    · rw [if_pos (decide_eq_true h2)]
      rw [if_neg (by decide)]
      try walk_at "dl"
      rw [k_nx]
      exact R
    · rw [if_neg (by simp; omega)]
      try walk_at "dl"
      rw [k_nx]
      exact R
  | succ m ih =>
    intro S Q hd hr hm q
    rw [wq_call (fd := d__law_thing) rfl rfl]
    dsimp only [d__law_thing]
    unfold b__law_thing
    try walk_at "dl"
    refine take_wq hd (by decide) fun r S2 r0 r1 d2 => ?_
    have hr2 := d2.get hr hne
    have R := rest (n + (m + 1)) (m + 1) r S2 Q none d2.d hr2 fun d S' h k => q d S' h ⟨k.d, d2.f.trans k.f⟩
    refine ⟨by decide, ?_⟩
    try walk_at "nx"
    by_cases h2 : (2 : Int) < r
    · rw [if_pos (decide_eq_true h2)]
      rw [if_pos (by rw [decide_eq_true_eq]; omega)]
      try walk_at "dl"
      refine take_wq d2.d (by decide) fun r4 S3 r40 r41 d3 => ?_
      obtain ⟨k, rfl⟩ : ∃ k : Nat, r4 = k := ⟨r4.toNat, by omega⟩
      have D3 : Dr l S S3 := ⟨d3.d, d2.f.trans d3.f⟩
      have hr3 := d3.get hr2 hne
      try walk_at "dl"
      refine ⟨small_rng (by omega), ?_⟩
      rw [rngItems_nat]
      refine compL_drw (e := fun (k : Nat) => D.int (k : Int)) (e2 := fun (y : D) => y) (R := fun _ y => th m y) (by simp; omega) (fun _ _ => Gd_none) d3.d (fun i hi S' d4 => ?_) fun ys S' e1 e2 d4 => ?_
      · try walk_at "dl"
        refine ⟨by decide, ?_⟩
        rw [show ((m + 1 : Nat) : Int) - 1 = (m : Nat) by omega, show n + (m + 1) + 2 = n + m + 3 by omega]
        exact ih S' _ d4.d (d4.get hr3 hne) (by omega) fun d S'' h k => ⟨⟨d, rfl, h⟩, k⟩
      · rw [List.map_id']
        try walk_at "dl"
        have hys : ys.length = k := by rw [e1, List.length_range]
        refine q _ _ (th_tup (fun d hd' => ?_) (by omega)) ((show Dr l S S' from ⟨d4.d, D3.f.trans d4.f⟩).new _)
        obtain ⟨i, hi⟩ := List.getElem?_of_mem hd'
        have hil := (List.getElem?_eq_some_iff.mp hi).1
        obtain ⟨x, hx⟩ : ∃ x, (List.range k)[i]? = some x := ⟨_, List.getElem?_eq_getElem (by simp; omega)⟩
        exact e2 (x, d) (List.mem_of_getElem? (i := i) (by rw [List.getElem?_zip_eq_some]; exact ⟨hx, hi⟩))
    · rw [if_neg (by simp; omega)]
      try walk_at "dl"
      rw [k_nx]
      exact R
end K76
end

section
set_option Elab.async false
set_option linter.all false
set_option maxRecDepth 100000
set_option maxHeartbeats 1000000
set_option exponentiation.threshold 20000
namespace K76
open PySem PySem.Spec L2 Dl
local macro_rules | `(tactic| walk_at "dl") => `(tactic| simp (disch := first | assumption | exact get_new | (refine get_app ?_; first | assumption | exact get_new | (refine get_app ?_; first | assumption | exact get_new)) | (refine get_set ?_; assumption) | exact atI_0 | exact atI_1 | exact atI_2 | exact ok_lex | exact ok_degree | exact ok_back | exact ok_blocks | exact ok_weights) only [
  e_cB, e_fB, e_var, e_int, e_bl, e_non, e_str, e_glo, e_tup, e_lst, e_op, e_neg, e_not, e_and, e_or, e_cmp, e_chain, e_ite, e_ix, e_sl, e_rev, e_call, e_bi, e_me, e_isi, e_isis, e_comp, e_tupr, e_lstr, e_nil, e_cons, e_ono, e_oso, e_cno, e_cso, vt_and, vt_or, vt_not, vt_cmp, vt_chain, vt_var, vt_bl, vt_call, vt_bi, vt_isi, vt_isis, vi_seq, vi_rng1, vi_rng2, vi_zip, vg_nm, vg_tp, vg_ixs, gs_nil, gs_cons, x_asg, x_par, x_aug, x_expr, x_ret, x_retN, x_ite, x_for, x_whl, x_pass, x_brk, x_cnt, xs_nil, k_one, k_cons, k_rt, k_bk, k_ct, r_nx, r_rt, w_neg, w_tupr, w_lstr,
  TGs.len, wq_pure, List.getElem?_cons_zero, List.getElem?_cons_succ, List.set_cons_zero, List.set_cons_succ, List.length_cons, List.length_nil, List.length_map, if_true, Bool.false_eq_true, if_false, startE, List.map_cons, List.map_nil, List.replicate, List.cons_append, List.nil_append, wipeE, Nat.zero_add, Nat.reduceAdd, Nat.reduceSub, true_and,
  w_getL_ref, w_getS_ref, w_getL_ro, w_getS_ro, w_getS_tup, w_add, w_sub, w_mul, w_addT, w_addL, w_mulL, w_fdiv, w_mod, w_pow, w_shl, w_lt, w_le, w_gt, w_ge, w_ltT, w_gtT, w_eq, w_ne, w_isN, w_isnN, w_in, w_nin, w_trB, w_trN, w_trI, w_trT, w_trL, w_lenT, w_lenR, w_lenL, w_sumT, w_sumL, w_int, w_intB, w_tupL, w_listL, w_listT, w_append, w_pop, w_reverse, w_isL, w_revT, w_asInt, w_slR, w_srcT, w_srcR, w_srcL, w_rng, w_zipT, zipNX_ints, zipNX_int, true_and, w_unpkT, w_unpkL, w_eqB, w_eqT, w_eqI, w_ixT, w_eqS, w_eqTS, Bool.not_true, Bool.not_false, decide_true, decide_false, wd_lex_lex, wd_lex_degree, wd_lex_back, wd_lex_blocks, wd_lex_weights, wd_degree_lex, wd_degree_degree, wd_degree_back, wd_degree_blocks, wd_degree_weights, wd_back_lex, wd_back_degree, wd_back_back, wd_back_blocks, wd_back_weights, wd_blocks_lex, wd_blocks_degree, wd_blocks_back, wd_blocks_blocks, wd_blocks_weights, wd_weights_lex, wd_weights_degree, wd_weights_back, wd_weights_blocks, wd_weights_weights])
local macro_rules | `(tactic| walk_at "nx") => `(tactic| (rw [k_nx]; try walk_at "dl"))
local macro_rules | `(tactic| walk_at "cj") => `(tactic| repeat refine And.intro (by first | decide | exact lens_of (by decide) | exact lens_of (by simp) | simp) ?_)
theorem cut_map {α : Type} {e : α → D} {xs : List α} (lo hi : Option Int) : ∃ ys : List α, cutD (xs.map e) lo hi = ys.map e ∧ ys.length ≤ xs.length := by
  refine ⟨(xs.drop (HT.sIx xs.length 0 lo)).take (HT.sIx xs.length xs.length hi - HT.sIx xs.length 0 lo), ?_, ?_⟩
  · unfold cutD
    rw [List.length_map, List.map_take, List.map_drop]
  · simp only [List.length_take, List.length_drop]
    omega
theorem fmod_rg {a b : Int} (hb : 0 < b) : 0 ≤ a.fmod b ∧ a.fmod b < b := ⟨Int.fmod_nonneg_of_pos _ hb, Int.fmod_lt_of_pos _ hb⟩
theorem big_cell {x : Int} (h : 0 ≤ x ∧ x < 1 * 2 ^ (7200 : Int).toNat) : x.natAbs < 2 ^ 8000 := by
  have e : ((7200 : Int).toNat) = 7200 := rfl
  rw [e, Int.one_mul] at h
  have h1 : (2 : Nat) ^ 7200 ≤ 2 ^ 8000 := Nat.pow_le_pow_right (by omega) (by omega)
  have h2 : ((2 : Int) ^ 7200) = ((2 ^ 7200 : Nat) : Int) := by rw [Int.natCast_pow]; rfl
  rw [h2] at h
  generalize (2 : Nat) ^ 7200 = u at *
  generalize (2 : Nat) ^ 8000 = v at *
  omega
theorem big_pos : (0 : Int) < 1 * 2 ^ (7200 : Int).toNat := by
  rw [Int.one_mul]
  exact Int.pow_pos (by decide)
theorem if_both {a b : Bool} {X E : Prop} (h : a = true → b = true → X) (h2 : E) : if a = true then (if b = true then X else E) else E := by
  cases a <;> cases b <;> simp_all
theorem draws_wq {n m : Nat} {ns : List Int} {S : Store} {Q : D → Store → Prop} (hn : ns.length ≤ 63) (hm : m ≤ 1000)
    (h : ∀ (l : Nat) (S' : Store), Dw l S' → Q (.ref l) S') : wq (call gl fds (n + 1) f__law_draws [.ro (ns.map .int), .int m]) Q S := by
  rw [wq_call (fd := d__law_draws) rfl rfl]
  dsimp only [d__law_draws]
  unfold b__law_draws
  walk_at "dl"
  obtain ⟨cut, hc, hcl⟩ := cut_map (e := D.int) (xs := ns) none (some 63)
  rw [hc]
  have hgd : (S ++ [Ob.lst (cut.map .int)])[S.length]? = some (.lst (cut.map .int)) := get_new
  refine compL_tot (e := D.int) (fun c => D.int (c.fmod (1 * 2 ^ (7200 : Int).toNat))) (by omega) (fun S' f => Gd_ref (f.get _ _ (by simp) hgd)) (fun c hc S' a => ?_) fun S1 a => ?_
  · walk_at "dl"
    refine ⟨by decide, by decide, ?_, .refl⟩
    exact decide_eq_true (Int.ne_of_gt big_pos)
  · refine ⟨by decide, ?_⟩
    have hcs : ∃ cs : List Int, cut.map (fun c => D.int (c.fmod (1 * 2 ^ (7200 : Int).toNat))) = cs.map .int ∧ cs.length ≤ 63 ∧ ∀ c ∈ cs, 0 ≤ c ∧ c < 1 * 2 ^ (7200 : Int).toNat := by
      refine ⟨cut.map fun c => c.fmod (1 * 2 ^ (7200 : Int).toNat), by rw [List.map_map]; rfl, by simp; omega, fun c hc => ?_⟩
      obtain ⟨c', _, rfl⟩ := List.mem_map.mp hc
      exact fmod_rg big_pos
    obtain ⟨cs, e, hcl, hcb⟩ := hcs
    rw [e]
    clear a hgd hc e
    have g1 : (S1 ++ [Ob.lst (cs.map .int)])[S1.length]? = some (.lst (cs.map .int)) := get_new
    generalize (S1 ++ [Ob.lst (cs.map .int)]) = S2 at *
    generalize S1.length = rc at *
    walk_at "nx"
    -- one cell at least
    have key : ∀ (ds : List Int) (S3 : Store), S3[rc]? = some (.lst (ds.map .int)) → 0 < ds.length → ds.length ≤ 63 → (∀ c ∈ ds, 0 ≤ c ∧ c < 1 * 2 ^ (7200 : Int).toNat) →
        wq (exs gl (Dl.call gl fds n) (ISs.cons (.asg (.nm 3) (.bi .list (.cons (.var 2) .nil)))
  (.cons (.asg (.nm 4) (.lst .nil))
  (.cons (.forr (.nm 5) (.rng1 (.var 1)) (.cons (.asg (.nm 6) (.op .Mod (.bi .int (.cons (.var 5) .nil)) (.bi .len (.cons (.var 2) .nil))))
  (.cons (.ite (.and (.cmp .GtE (.ix (.var 2) (.var 6)) (.op .Pow (.int 10) (.int 18))) (.cmp .Gt (.ix (.var 3) (.var 6)) (.int 0))) (.cons (.expr (.me .append (.var 4) (.cons (.op .Mod (.bi .int (.cons (.ix (.var 3) (.var 6)) .nil)) (.int 1000)) .nil)))
  (.cons (.asg (.ixs (.var 3) (.var 6)) (.op .FloorDiv (.ix (.var 3) (.var 6)) (.int 1000)))
  .nil)) (.cons (.asg (.nm 7) (.op .Mod (.bi .int (.cons (.op .Add (.op .Add (.op .Mult (.ix (.var 2) (.var 6)) (.int 48271)) (.op .Mult (.var 5) (.int 69621))) (.int 11)) .nil)) (.int 2147483647)))
  (.cons (.expr (.me .append (.var 4) (.cons (.op .Mod (.bi .int (.cons (.op .Add (.op .Add (.op .Mult (.var 7) (.var 7)) (.op .Mult (.int 3) (.var 7))) (.var 5)) .nil)) (.int 1000003)) .nil)))
  .nil)))
  .nil)))
  (.cons (.expr (.me .reverse (.var 4) .nil))
  (.cons (.ret (.var 4))
  .nil))))) [some (.ro (ns.map .int)), some (.int m), some (.ref rc), none, none, none, none, none, none]) (fun r S' => wq (ofFl r) Q S') S3 := by
      intro ds S3 g3 h0 h63 hb
      walk_at "dl"
      refine ⟨by decide, ?_⟩
      have gl4 : (S3 ++ [Ob.lst (ds.map .int)])[S3.length]? = some (.lst (ds.map .int)) := get_new
      have gc4 := get_app (o := Ob.lst (ds.map .int)) g3
      have hne1 : rc < S3.length := lt_of_get g3
      generalize S3.length = rl at *
      generalize (S3 ++ [Ob.lst (ds.map .int)]) = S4 at *
      walk_at "nx"
      refine ⟨lens_of (by decide), by decide, ?_⟩
      have hne2 : rl < S4.length := lt_of_get gl4
      have gd5 : (S4 ++ [Ob.lst []])[S4.length]? = some (.lst (([] : List Int).map .int)) := get_new
      have gl5 := get_app (o := Ob.lst []) gl4
      have gc5 := get_app (o := Ob.lst []) gc4
      generalize S4.length = rd at *
      generalize (S4 ++ [Ob.lst []]) = S5 at *
      walk_at "nx"
      refine ⟨small_rng (by omega), ?_⟩
      rw [rngItems_nat]
      refine forL_inv1 (e := fun (k : Nat) => D.int (k : Int)) (fun i e S' => S'[rc]? = some (.lst (ds.map .int)) ∧ (∃ ls : List Int, S'[rl]? = some (.lst (ls.map .int)) ∧ ls.length = ds.length) ∧ (∃ xs : List Int, S'[rd]? = some (.lst (xs.map .int)) ∧ xs.length ≤ i) ∧ ∃ o5 o6 o7 o8, e = [some (.ro (ns.map .int)), some (.int m), some (.ref rc), some (.ref rl), some (.ref rd), o5, o6, o7, o8]) (fun _ _ _ _ => Gd_none) ?_ ?_ ?_
      · exact ⟨gc5, ⟨ds, gl5, rfl⟩, ⟨[], gd5, by simp⟩, _, _, _, _, rfl⟩
      · rintro e S6 ⟨gc, ⟨ls, gl, hll⟩, ⟨xs, gd, hxl⟩, o5, o6, o7, o8, rfl⟩
        walk_at "nx"
        walk_at "nx"
        exact h rd _ ⟨xs.reverse, by rw [get_set gd, List.map_reverse]⟩
      · rintro i x e S6 hx ⟨gc, ⟨ls, gl, hll⟩, ⟨xs, gd, hxl⟩, o5, o6, o7, o8, rfl⟩
        have him : i < m := by
          have := (List.getElem?_eq_some_iff.mp hx).1
          simpa using this
        have hxm : x < m := by simpa using List.mem_of_getElem? hx
        have hxs : xs.length < sizeLine := Nat.lt_of_le_of_lt (show xs.length ≤ 1000 by omega) (by decide)
        walk_at "dl"
        have hp := fmod_rg (a := (x : Int)) (b := (ds.length : Int)) (by omega)
        refine ⟨by decide, decide_eq_true (by omega), by decide, ?_⟩
        generalize (x : Int).fmod (ds.length : Int) = p at *
        have hpd : p.toNat < ds.length := by omega
        walk_at "nx"
        rw [w_ixL gc (atI_int hp.1 hpd)]
        walk_at "dl"
        have hcb := hb _ (Dl.getD_mem hpd)
        refine ⟨by decide, ?_⟩
        generalize ds.getD p.toNat 0 = c at *
        have hpl : p.toNat < ls.length := by omega
        rw [w_ixL gl (atI_int hp.1 hpl), w_gt]
        generalize ls.getD p.toNat 0 = v at *
        refine if_both (fun _ _ => ?_) ?_
        · try walk_at "dl"
          rw [w_ixL gl (atI_int hp.1 hpl)]
          try walk_at "dl"
          generalize ls.getD p.toNat 0 = v at *
          refine ⟨by decide, hxs, ?_⟩
          have gd' := get_set (o := Ob.lst (xs.map .int ++ [D.int (v.fmod 1000)])) gd
          have gl' : (S6.set rd (Ob.lst (xs.map .int ++ [D.int (v.fmod 1000)])))[rl]? = some (.lst (ls.map .int)) := by rw [List.getElem?_set_ne (by omega)]; exact gl
          have gc' : (S6.set rd (Ob.lst (xs.map .int ++ [D.int (v.fmod 1000)])))[rc]? = some (.lst (ds.map .int)) := by rw [List.getElem?_set_ne (by omega)]; exact gc
          generalize (S6.set rd (Ob.lst (xs.map .int ++ [D.int (v.fmod 1000)]))) = S7 at *
          walk_at "nx"
          rw [w_ixL gl' (atI_int hp.1 hpl)]
          walk_at "dl"
          generalize ls.getD p.toNat 0 = v2 at *
          refine ⟨by decide, ?_⟩
          rw [w_set gl' hp.1 (by simpa using hpl)]
          walk_at "nx"
          refine ⟨?_, ⟨ls.set p.toNat (v2.fdiv 1000), ?_, by simpa using hll⟩, ⟨xs ++ [v.fmod 1000], ?_, by simp; omega⟩, _, _, _, _, rfl⟩
          · rw [List.getElem?_set_ne (by omega)]; exact gc'
          · rw [get_set gl', List.map_set]
          · rw [List.getElem?_set_ne (by omega), gd', List.map_append]; rfl
        · rw [w_ixL gc (atI_int hp.1 hpd)]
          try walk_at "dl"
          have hcb := hb _ (Dl.getD_mem hpd)
          generalize ds.getD p.toNat 0 = c2 at *
          refine ⟨mulFits_of (big_cell hcb) (fits_small (by omega) (by omega)), mulFits_of (fits_small (by omega) (by omega)) (fits_small (by omega) (by omega)), by decide, by decide, ?_⟩
          have hmx := fmod_rg (a := c2 * 48271 + (x : Int) * 69621 + 11) (b := 2147483647) (by omega)
          generalize (c2 * 48271 + (x : Int) * 69621 + 11).fmod 2147483647 = w at *
          walk_at "nx"
          refine ⟨mulFits_of (fits_big (by omega) (by omega)) (fits_big (by omega) (by omega)), mulFits_of (fits_big (by omega) (by omega)) (fits_big (by omega) (by omega)), by decide, hxs, ?_⟩
          walk_at "nx"
          generalize (w * w + 3 * w + (x : Int)).fmod 1000003 = y
          refine ⟨?_, ⟨ls, ?_, hll⟩, ⟨xs ++ [y], ?_, by simp; omega⟩, _, _, _, _, rfl⟩
          · rw [List.getElem?_set_ne (by omega)]; exact gc
          · rw [List.getElem?_set_ne (by omega)]; exact gl
          · rw [get_set gd, List.map_append]; rfl
    by_cases hz : cs = []
    · subst hz
      rw [if_pos (by decide)]
      walk_at "dl"
      refine ⟨by decide, ?_⟩
      walk_at "nx"
      rw [k_nx]
      exact key [0] _ (by rw [get_set g1]; rfl) (by decide) (by decide) fun c hc => by
        rw [List.mem_singleton.mp hc]
        exact ⟨by decide, big_pos⟩
    · rw [if_neg (by simpa using hz)]
      try walk_at "dl"
      rw [k_nx]
      exact key cs _ g1 (List.length_pos_iff.mpr hz) hcl hcb
end K76
end

section
set_option Elab.async false
set_option linter.all false
set_option maxRecDepth 100000
set_option maxHeartbeats 1000000
set_option exponentiation.threshold 20000
namespace K76
open PySem PySem.Spec L2 Dl
local macro_rules | `(tactic| walk_at "dl") => `(tactic| simp (disch := first | assumption | exact get_new | (refine get_app ?_; first | assumption | exact get_new | (refine get_app ?_; first | assumption | exact get_new)) | (refine get_set ?_; assumption) | exact atI_0 | exact atI_1 | exact atI_2 | exact ok_lex | exact ok_degree | exact ok_back | exact ok_blocks | exact ok_weights | exact nL8.1 | exact nL8.2.1 | exact nL8.2.2.1 | exact nL8.2.2.2.1 | exact nL8.2.2.2.2.1 | exact nL8.2.2.2.2.2.1 | exact nL8.2.2.2.2.2.2) only [
  e_fld, e_new, e_mcall, vt_mcall, e_m1, e_fst, f_nil, f_cons, e_fnv, vi_rngd, x_setf, x_augf, wL_row, wL_tok, wL_tak, wL_isO', wL_setT, w_inT, w_ninT, w_inC, w_ninC, w_addS, w_mulS, w_lenS, w_strI, w_strS, w_slS, w_okJ, w_rngd, w_fmtS, w_fmtI, tS_app, tS_len, tS_rep, tS_eq, lit_sgs, lit_lts, lit_dgs, li_word, li_number, li_end, li_empty, li_none, li_lp, li_rp, li_cm, li_cms, li_mi, li_sp, li_zero, e_cB, e_fB, e_var, e_int, e_bl, e_non, e_str, e_glo, e_tup, e_lst, e_op, e_neg, e_not, e_and, e_or, e_cmp, e_chain, e_ite, e_ix, e_sl, e_rev, e_call, e_bi, e_me, e_isi, e_isis, e_comp, e_tupr, e_lstr, e_nil, e_cons, e_ono, e_oso, e_cno, e_cso, vt_and, vt_or, vt_not, vt_cmp, vt_chain, vt_var, vt_bl, vt_call, vt_bi, vt_isi, vt_isis, vi_seq, vi_rng1, vi_rng2, vi_zip, vg_nm, vg_tp, vg_ixs, gs_nil, gs_cons, x_asg, x_par, x_aug, x_expr, x_ret, x_retN, x_ite, x_for, x_whl, x_pass, x_brk, x_cnt, xs_nil, k_one, k_cons, k_rt, k_bk, k_ct, r_nx, r_rt, w_neg, w_tupr, w_lstr,
  TGs.len, wq_pure, List.getElem?_cons_zero, List.getElem?_cons_succ, List.set_cons_zero, List.set_cons_succ, List.length_cons, List.length_nil, List.length_map, if_true, Bool.false_eq_true, if_false, startE, List.map_cons, List.map_nil, List.replicate, List.cons_append, List.nil_append, wipeE, Nat.zero_add, Nat.reduceAdd, Nat.reduceSub, true_and,
  w_getL_ref, w_getS_ref, w_getL_ro, w_getS_ro, w_getS_tup, w_add, w_sub, w_mul, w_addT, w_addL, w_mulL, w_fdiv, w_mod, w_pow, w_shl, w_lt, w_le, w_gt, w_ge, w_ltT, w_gtT, w_eq, w_ne, w_isN, w_isnN, w_in, w_nin, w_trB, w_trN, w_trI, w_trT, w_trL, w_lenT, w_lenR, w_lenL, w_sumT, w_sumL, w_int, w_intB, w_tupL, w_listL, w_listT, w_append, w_pop, w_reverse, w_isL, w_revT, w_asInt, w_slR, w_srcT, w_srcR, w_srcL, w_rng, w_zipT, zipNX_ints, zipNX_int, true_and, w_unpkT, w_unpkL, w_eqB, w_eqT, w_eqI, w_ixT, w_eqS, w_eqTS, Bool.not_true, Bool.not_false, decide_true, decide_false, wd_lex_lex, wd_lex_degree, wd_lex_back, wd_lex_blocks, wd_lex_weights, wd_degree_lex, wd_degree_degree, wd_degree_back, wd_degree_blocks, wd_degree_weights, wd_back_lex, wd_back_degree, wd_back_back, wd_back_blocks, wd_back_weights, wd_blocks_lex, wd_blocks_degree, wd_blocks_back, wd_blocks_blocks, wd_blocks_weights, wd_weights_lex, wd_weights_degree, wd_weights_back, wd_weights_blocks, wd_weights_weights])
local macro_rules | `(tactic| walk_at "nx") => `(tactic| (rw [k_nx]; try walk_at "dl"))
local macro_rules | `(tactic| walk_at "cj") => `(tactic| repeat refine And.intro (by first | decide | exact lens_of (by decide) | exact lens_of (by simp) | simp) ?_)
local macro_rules | `(tactic| walk_at "sd") => `(tactic| (repeat refine And.intro (by first | (refine lens_of ?_; (try simp only [List.length_map, List.length_append, List.length_cons, List.length_nil, List.length_reverse] at *); omega) | (refine Nat.lt_of_le_of_lt (m := 900000) ?_ (by decide); (try simp only [List.length_map, List.length_append, List.length_cons, List.length_nil, List.length_reverse] at *); omega) | decide) ?_))
theorem lit_in : ("in" : Str) = tS [105, 110] := by decide +kernel
theorem lit_out : ("out" : Str) = tS [111, 117, 116] := by decide +kernel
theorem lit_non : ("non" : Str) = tS [110, 111, 110] := by decide +kernel
theorem lit_nonee : ("nonee" : Str) = tS [110, 111, 110, 101, 101] := by decide +kernel
theorem lit_e : ("e" : Str) = tS [101] := by decide +kernel
/-- a thing that the law looks at -/
def lt (d : D) : Prop := pg d ∧ d.dp ≤ 41 ∧ (pt d).length ≤ 100000
/-- a text that reads as a thing -/
theorem rdt_wq {n : Nat} {cs : List Nat} {d : D} {S : Store} {Q : D → Store → Prop} (hp : pg d) (hl : cs.length ≤ 800000) (hok : ∀ c ∈ cs, c < 1000) (he : (lexA cs).map (·.2) = tks d ++ [.en]) (hn : (tks d).length ≤ 800000)
    (q : ∀ S', Fr [] S S' → Q d S') : wq (call gl fds (n + 5) f_read_paper [.str (tS cs)]) Q S := by
  have hlen : (lexA cs).length = (tks d).length + 1 := by
    have := congrArg List.length he
    rw [List.length_map, List.length_append] at this
    exact this
  refine read_wq hl (fun c hc => by have := hok c hc; omega) (fun p hp' => ?_) (by omega) (rd_ok hp he) q
  have : p.2 ∈ tks d ++ [.en] := by rw [← he]; exact List.mem_map_of_mem hp'
  rcases List.mem_append.mp this with h | h
  · exact tks_sm hp _ h
  · rw [List.mem_singleton.mp h]; exact sm_en
def chkB : ISs := (.cons (.ite (.not (.call f__law_same (.cons (.call f_write_paper (.cons (.var 6) .nil)) (.cons (.call f__law_paper_text (.cons (.var 6) .nil)) .nil)))) (.cons (.ret (.bl false))
  .nil) .nil)
  (.cons (.ite (.not (.call f__law_same (.cons (.call f_read_paper (.cons (.call f__law_paper_text (.cons (.var 6) .nil)) .nil)) (.cons (.var 6) .nil)))) (.cons (.ret (.bl false))
  .nil) .nil)
  (.cons (.ite (.not (.call f__law_same (.cons (.call f_read_paper (.cons (.call f__law_spread (.cons (.var 1) (.cons (.call f__law_paper_tokens (.cons (.var 6) .nil)) .nil))) .nil)) (.cons (.var 6) .nil)))) (.cons (.ret (.bl false))
  .nil) .nil)
  .nil)))
theorem chkB_wq {n l : Nat} {d : D} {a0 a2 a3 a4 a5 a7 a8 : Option D} {S : Store} {QF : Fl × Sl → Store → Prop} (hd : Dw l S) (h : lt d) (q : ∀ S', Dr l S S' → QF (.nx, [a0, some (.ref l), a2, a3, a4, a5, some d, a7, a8]) S') :
    wq (exs gl (Dl.call gl fds (n + 47)) chkB [a0, some (.ref l), a2, a3, a4, a5, some d, a7, a8]) QF S := by
  obtain ⟨hp, hdp, hl⟩ := h
  have hbf := pg_bf d hp
  have hwt := wt_le d hp
  have hlt := pt_lt d hp
  have hT := tks_txL hp
  have okt : D.bf (.str (tS (pt d))) = true := ok_of hlt
  unfold chkB
  try walk_at "dl"
  refine write_wq hp (by omega) fun S1 f1 => ?_
  rw [show n + 47 = n + 5 + 41 + 1 by omega]
  refine ptext_wq (n + 5) 41 d S1 _ hp hdp (by omega) fun S2 f2 => ?_
  refine same_wq (n + 5) 41 _ S2 _ okt (Nat.zero_le _) (by decide) (show 1 ≤ 900000 by decide) fun S3 f3 => ?_
  try walk_at "dl"
  try walk_at "nx"
  refine ptext_wq (n + 5) 41 d S3 _ hp hdp (by omega) fun S4 f4 => ?_
  rw [show n + 5 + 41 + 1 = n + 42 + 5 by omega]
  refine rdt_wq hp (by omega) hlt (lex_pt hp) (by omega) fun S5 f5 => ?_
  rw [show n + 42 + 5 = n + 5 + 41 + 1 by omega]
  refine same_wq (n + 5) 41 _ S5 _ hbf hdp (by decide) (by omega) fun S6 f6 => ?_
  try walk_at "dl"
  try walk_at "nx"
  rw [show n + 5 + 41 + 1 = n + 3 + 41 + 3 by omega]
  refine ptok_wq (n + 3) 41 hp hdp (by omega) fun tl S7 f7 h7 => ?_
  have F7 : Fr [] S S7 := f1.trans (f2.trans (f3.trans (f4.trans (f5.trans (f6.trans f7)))))
  have d7 := hd.fr F7
  have hne : tl ≠ l := by
    rintro rfl
    obtain ⟨xs, hx⟩ := d7.d
    rw [h7] at hx
    have h8 : ((tks d).map fun t => D.str (tS (tx t))) = xs.map .int := by
      have := Option.some.inj hx
      exact Ob.lst.inj this
    have hpos := tks_pos hp
    cases ht : tks d with
    | nil => exact hpos ht
    | cons t r =>
      rw [ht] at h8
      cases xs with
      | nil => cases h8
      | cons x xs => simp at h8
  refine spread_wq d7.d h7 hne (tks_ok hp) (by omega) (by omega) fun ps k S8 d8 e1 e2 e3 => ?_
  rw [show n + 3 + 41 + 3 = n + 42 + 5 by omega]
  have hlex := lex_spr ps k 0 e2
  rw [e1] at hlex
  refine rdt_wq hp (by omega) (spr_lt e2) hlex (by omega) fun S9 f9 => ?_
  rw [show n + 42 + 5 = n + 5 + 41 + 1 by omega]
  refine same_wq (n + 5) 41 _ S9 _ hbf hdp (by decide) (by omega) fun S10 f10 => ?_
  try walk_at "dl"
  try rw [k_nx, xs_nil]
  have d10 := (d8.d).fr (f9.trans f10)
  exact q _ ⟨d10.d, d7.f.trans (d8.f.trans d10.f)⟩
end K76
end

section
set_option Elab.async false
set_option linter.all false
set_option maxRecDepth 100000
set_option maxHeartbeats 1000000
set_option exponentiation.threshold 20000
namespace K76
open PySem PySem.Spec L2 Dl
local macro_rules | `(tactic| walk_at "dl") => `(tactic| simp (disch := first | assumption | exact get_new | (refine get_app ?_; first | assumption | exact get_new | (refine get_app ?_; first | assumption | exact get_new)) | (refine get_set ?_; assumption) | exact atI_0 | exact atI_1 | exact atI_2 | exact ok_lex | exact ok_degree | exact ok_back | exact ok_blocks | exact ok_weights | exact nL8.1 | exact nL8.2.1 | exact nL8.2.2.1 | exact nL8.2.2.2.1 | exact nL8.2.2.2.2.1 | exact nL8.2.2.2.2.2.1 | exact nL8.2.2.2.2.2.2) only [
  e_fld, e_new, e_mcall, vt_mcall, e_m1, e_fst, f_nil, f_cons, e_fnv, vi_rngd, x_setf, x_augf, wL_row, wL_tok, wL_tak, wL_isO', wL_setT, w_inT, w_ninT, w_inC, w_ninC, w_addS, w_mulS, w_lenS, w_strI, w_strS, w_slS, w_okJ, w_rngd, w_fmtS, w_fmtI, tS_app, tS_len, tS_rep, tS_eq, lit_sgs, lit_lts, lit_dgs, li_word, li_number, li_end, li_empty, li_none, li_lp, li_rp, li_cm, li_cms, li_mi, li_sp, li_zero, e_cB, e_fB, e_var, e_int, e_bl, e_non, e_str, e_glo, e_tup, e_lst, e_op, e_neg, e_not, e_and, e_or, e_cmp, e_chain, e_ite, e_ix, e_sl, e_rev, e_call, e_bi, e_me, e_isi, e_isis, e_comp, e_tupr, e_lstr, e_nil, e_cons, e_ono, e_oso, e_cno, e_cso, vt_and, vt_or, vt_not, vt_cmp, vt_chain, vt_var, vt_bl, vt_call, vt_bi, vt_isi, vt_isis, vi_seq, vi_rng1, vi_rng2, vi_zip, vg_nm, vg_tp, vg_ixs, gs_nil, gs_cons, x_asg, x_par, x_aug, x_expr, x_ret, x_retN, x_ite, x_for, x_whl, x_pass, x_brk, x_cnt, xs_nil, k_one, k_cons, k_rt, k_bk, k_ct, r_nx, r_rt, w_neg, w_tupr, w_lstr,
  TGs.len, wq_pure, List.getElem?_cons_zero, List.getElem?_cons_succ, List.set_cons_zero, List.set_cons_succ, List.length_cons, List.length_nil, List.length_map, if_true, Bool.false_eq_true, if_false, startE, List.map_cons, List.map_nil, List.replicate, List.cons_append, List.nil_append, wipeE, Nat.zero_add, Nat.reduceAdd, Nat.reduceSub, true_and,
  w_getL_ref, w_getS_ref, w_getL_ro, w_getS_ro, w_getS_tup, w_add, w_sub, w_mul, w_addT, w_addL, w_mulL, w_fdiv, w_mod, w_pow, w_shl, w_lt, w_le, w_gt, w_ge, w_ltT, w_gtT, w_eq, w_ne, w_isN, w_isnN, w_in, w_nin, w_trB, w_trN, w_trI, w_trT, w_trL, w_lenT, w_lenR, w_lenL, w_sumT, w_sumL, w_int, w_intB, w_tupL, w_listL, w_listT, w_append, w_pop, w_reverse, w_isL, w_revT, w_asInt, w_slR, w_srcT, w_srcR, w_srcL, w_rng, w_zipT, zipNX_ints, zipNX_int, true_and, w_unpkT, w_unpkL, w_eqB, w_eqT, w_eqI, w_ixT, w_eqS, w_eqTS, Bool.not_true, Bool.not_false, decide_true, decide_false, wd_lex_lex, wd_lex_degree, wd_lex_back, wd_lex_blocks, wd_lex_weights, wd_degree_lex, wd_degree_degree, wd_degree_back, wd_degree_blocks, wd_degree_weights, wd_back_lex, wd_back_degree, wd_back_back, wd_back_blocks, wd_back_weights, wd_blocks_lex, wd_blocks_degree, wd_blocks_back, wd_blocks_blocks, wd_blocks_weights, wd_weights_lex, wd_weights_degree, wd_weights_back, wd_weights_blocks, wd_weights_weights])
local macro_rules | `(tactic| walk_at "nx") => `(tactic| (rw [k_nx]; try walk_at "dl"))
local macro_rules | `(tactic| walk_at "cj") => `(tactic| repeat refine And.intro (by first | decide | exact lens_of (by decide) | exact lens_of (by simp) | simp) ?_)
local macro_rules | `(tactic| walk_at "sd") => `(tactic| (repeat refine And.intro (by first | (refine lens_of ?_; (try simp only [List.length_map, List.length_append, List.length_cons, List.length_nil, List.length_reverse] at *); omega) | (refine Nat.lt_of_le_of_lt (m := 900000) ?_ (by decide); (try simp only [List.length_map, List.length_append, List.length_cons, List.length_nil, List.length_reverse] at *); omega) | decide) ?_))
def lawB : ISs := (.cons (.asg (.nm 1) (.call f__law_draws (.cons (.var 0) (.cons (.int 700) .nil)))) (.cons (.asg (.nm 2) (.op .Add (.comp (.nm 8) [8] (.seq (.call f__law_words (.cons (.var 1) (.cons (.int 3) .nil)))) .no (.op .Add (.var 8) (.op .Mult (.str "e") (.bi .int (.cons (.cmp .Eq (.var 8) (.str "none")) .nil))))) (.lst (.cons (.str "in") (.cons (.str "nonee") (.cons (.str "non") .nil)))))) (.cons (.asg (.nm 3) (.lst (.cons .non (.cons (.int 0) (.cons (.str "out") (.cons (.tup .nil) (.cons (.neg (.int 5)) .nil))))))) (.cons (.forr (.nm 4) (.rng1 (.int 4)) (.cons (.expr (.me .append (.var 3) (.cons (.call f__law_thing (.cons (.var 1) (.cons (.var 2) (.cons (.op .Add (.int 2) (.call f__law_take (.cons (.var 1) (.cons (.int 5) .nil)))) .nil)))) .nil))) .nil)) (.cons (.asg (.nm 5) (.call f__law_thing (.cons (.var 1) (.cons (.var 2) (.cons (.int 1) .nil))))) (.cons (.forr (.nm 4) (.rng1 (.op .Add (.int 1) (.call f__law_take (.cons (.var 1) (.cons (.int 39) .nil))))) (.cons (.asg (.nm 5) (.sl (.tup (.cons (.var 5) (.cons (.var 4) .nil))) .no (.so (.op .Add (.int 1) (.op .Mod (.bi .int (.cons (.var 4) .nil)) (.int 2)))))) .nil)) (.cons (.forr (.nm 6) (.seq (.op .Add (.var 3) (.lst (.cons (.var 5) .nil)))) chkB) (.cons (.asg (.nm 7) (.tup (.cons (.tup (.cons (.str "in") (.cons (.tup (.cons (.tup (.cons (.tup (.cons (.int 2) (.cons (.int 0) .nil))) (.cons (.tup (.cons (.neg (.int 3)) (.cons (.int 2) .nil))) .nil))) .nil)) .nil))) (.cons .non (.cons (.tup (.cons (.int 5) .nil)) (.cons (.tup .nil) .nil)))))) (.cons (.ite (.not (.call f__law_same (.cons (.call f_write_paper (.cons (.var 7) .nil)) (.cons (.str "((in, (((2, 0), (-3, 2)))), none, (5), ())") .nil)))) (.cons (.ret (.bl false)) .nil) .nil) (.cons (.ret (.call f__law_same (.cons (.call f_read_paper (.cons (.str " ( - 3 ,none,( ( ) ) ,none )") .nil)) (.cons (.tup (.cons (.neg (.int 3)) (.cons .non (.cons (.tup (.cons (.tup .nil) .nil)) (.cons .non .nil))))) .nil)))) .nil))))))))))
theorem lawB_eq : b_law = lawB := rfl
def nn (x : List Nat) : List Nat := x ++ List.replicate (if x = wNone then 1 else 0) 101
theorem nn_ok {x : List Nat} (h : wLim 3 x) : wdOk (nn x) := by
  obtain ⟨h1, h2, h3⟩ := h
  unfold nn
  refine ⟨⟨by simp [h1], fun c hc => ?_, fun z => ?_, ?_⟩, ?_⟩
  · rcases List.mem_append.mp hc with hc | hc
    · exact h2 c hc
    · rw [(List.mem_replicate.mp hc).2]; decide
  · by_cases hx : x = wNone
    · rw [if_pos hx, hx] at z; revert z; decide
    · rw [if_neg hx, List.replicate_zero, List.append_nil] at z; exact hx z
  · rw [List.length_append, List.length_replicate]; split <;> omega
  · rw [List.length_append, List.length_replicate]; split <;> omega
theorem rep_101 (j : Nat) : (List.replicate j [101]).flatten = List.replicate j 101 := by
  induction j with
  | zero => rfl
  | succ j ih => rw [List.replicate_succ, List.flatten_cons, ih]; rfl
theorem thB_le {m : Nat} (h : m ≤ 6) : thB m ≤ 100000 := by
  have : m = 0 ∨ m = 1 ∨ m = 2 ∨ m = 3 ∨ m = 4 ∨ m = 5 ∨ m = 6 := by omega
  rcases this with rfl | rfl | rfl | rfl | rfl | rfl | rfl <;> decide
theorem lt_th {m : Nat} {d : D} (h : m ≤ 6) (k : th m d) : lt d := ⟨k.1, by have := k.2.1; omega, Nat.le_trans k.2.2 (thB_le h)⟩
theorem lt_five : ∀ d ∈ [D.non, .int 0, .str (tS [111, 117, 116]), .tup [], .int (-5)], lt d := by
  intro d hd
  simp only [List.mem_cons, List.not_mem_nil, or_false] at hd
  rcases hd with rfl | rfl | rfl | rfl | rfl
  · exact lt_th (Nat.zero_le _) (m := 0) th_non
  · exact lt_th (Nat.zero_le _) (m := 0) (th_int (by decide +kernel))
  · exact lt_th (Nat.zero_le _) (m := 0) (th_word ⟨⟨by decide, by decide, by decide, by decide⟩, by decide⟩)
  · exact lt_th (m := 1) (by decide) (th_tup (ds := []) (fun d hd => by cases hd) (by decide))
  · exact lt_th (Nat.zero_le _) (m := 0) (th_int (by decide +kernel))
theorem w_slT {S : Store} {ds : List D} {lo hi : Option Int} {Q : D → Store → Prop} : wq (slD (.tup ds) lo hi) Q S = Q (.tup (cutD ds lo hi)) S := wq_l rfl
abbrev told : D := .tup [.tup [.str (tS [105, 110]), .tup [.tup [.tup [.int 2, .int 0], .tup [.int (-3), .int 2]]]], .non, .tup [.int 5], .tup []]
abbrev told2 : D := .tup [.int (-3), .non, .tup [.tup []], .non]
def csR : List Nat := [32, 40, 32, 45, 32, 51, 32, 44, 110, 111, 110, 101, 44, 40, 32, 40, 32, 41, 32, 41, 32, 44, 110, 111, 110, 101, 32, 41]
theorem lit_told : ("((in, (((2, 0), (-3, 2)))), none, (5), ())" : Str) = tS (pt told) := by decide +kernel
theorem lit_rd : (" ( - 3 ,none,( ( ) ) ,none )" : Str) = tS csR := by decide +kernel
theorem pg_told : pg told := by
  simp only [pg, pgs, tS_cps]
  refine ⟨⟨⟨by decide, by decide, by decide, by decide⟩, ⟨⟨⟨by decide, by decide, trivial⟩, ⟨by decide, by decide, trivial⟩, trivial⟩, trivial⟩, trivial⟩, trivial, ⟨by decide, trivial⟩, trivial, trivial⟩
theorem pg_told2 : pg told2 := by
  simp only [pg, pgs]
  refine ⟨by decide, trivial, ⟨trivial, trivial⟩, trivial, trivial⟩
theorem forL_D {s : Src} {f : D → Sl → M (Fl × Sl)} {Q : Fl × Sl → Store → Prop} (I : Nat → Sl → Store → Prop) {xs : List D} {env : Sl} {S : Store} (hg : ∀ n e S, I n e S → s.Gd S)
    (h0 : I 0 env S) (he : ∀ e S, I xs.length e S → Q (.nx, e) S)
    (h : ∀ (n : Nat) (x : D) (e1 : Sl) (S : Store), xs[n]? = some x → I n e1 S → wq (f x e1) (fun r S' => match r with | (.nx, e2) => I (n + 1) e2 S' | (.ct, e2) => I (n + 1) e2 S' | (.bk, e2) => Q (.nx, e2) S' | (.rt v, e2) => Q (.rt v, e2) S') S) :
    wq (forL s f xs env) Q S := by
  have := forL_inv1 (e := fun (y : D) => y) I hg h0 he h
  rw [List.map_id'] at this
  exact this
/-- the nested thing after m steps -/
def dpd (m : Nat) (d : D) : Prop := pg d ∧ d.dp ≤ 1 + m ∧ (pt d).length ≤ thB 1 + 10 * m
theorem dpd_step {x : Nat} {d : D} (hx : x < 40) (h : dpd x d) : dpd (x + 1) (.tup [d]) ∧ dpd (x + 1) (.tup [d, .int (x : Nat)]) := by
  obtain ⟨h1, h2, h3⟩ := h
  have hi : (x : Int).natAbs < 10 ^ 50 := Nat.lt_of_le_of_lt (show (x : Int).natAbs ≤ 40 by omega) (by decide)
  have hl : (dg (x : Int).natAbs).length ≤ 2 := dg_len (by decide) (Nat.lt_of_le_of_lt (show (x : Int).natAbs ≤ 40 by omega) (by decide))
  have hp : (pt (.int (x : Nat))).length ≤ 2 := by
    simp only [pt, dgI]
    rw [if_neg (by omega)]
    exact hl
  have hpi : pg (.int (x : Nat)) := by simpa [pg] using hi
  refine ⟨⟨?_, ?_, ?_⟩, ?_, ?_, ?_⟩
  · simp only [pg, pgs]; exact ⟨h1, trivial⟩
  · simp only [D.dp, D.dps]; omega
  · simp only [pt, ptj, ptk, List.length_cons, List.length_append, List.length_nil]; omega
  · simp only [pg, pgs]; exact ⟨h1, by simpa [pg] using hi, trivial⟩
  · simp only [D.dp, D.dps]; omega
  · simp only [pt, ptj, ptk, List.length_cons, List.length_append, List.length_nil] at hp ⊢; omega
theorem law_wq {n : Nat} {ns : List Int} {S : Store} {Q : D → Store → Prop} (hn : ns.length ≤ 63)
    (q : ∀ S', Q (.bl true) S') : wq (call gl fds (n + 48) f_law [.ro (ns.map .int)]) Q S := by
  rw [wq_call (fd := d_law) rfl rfl]
  dsimp only [d_law]
  rw [lawB_eq]
  unfold lawB
  try walk_at "dl"
  refine draws_wq hn (by decide) fun l S1 hd => ?_
  refine ⟨by decide, ?_⟩
  try walk_at "nx"
  refine words_wq hd fun w ws S2 d2 w2 hwl hws hw3 => ?_
  simp only [lit_e, lit_in, lit_out, lit_non, lit_nonee, lit_told, lit_rd]
  try walk_at "dl"
  refine compL_tot (e := fun x => D.str (tS x)) (fun x => D.str (tS (nn x))) (by omega) (fun S' f => Gd_ref (f.get _ _ (by simp) w2)) (fun x hx S' f => ?_) fun S3 f3 => ?_
  · obtain ⟨h1, h2, h3⟩ := hws x hx
    have okx : PyData.canLay0 (.str (tS x)) = true := ok_of fun c hc => isA_lt (h2 c hc)
    have okn : PyData.canLay0 (.str (tS [110, 111, 110, 101])) = true := by decide +kernel
    try walk_at "dl"
    refine ⟨by decide, ?_⟩
    rw [rep_101]
    by_cases hx : x = [110, 111, 110, 101]
    · subst hx
      exact ⟨by decide, by decide, rfl, .refl⟩
    · have e : nn x = x := by
        unfold nn
        rw [if_neg (show ¬ x = wNone from hx)]
        simp
      rw [decide_eq_false hx, e]
      refine ⟨by decide, lens_of (by simp; omega), ?_, .refl⟩
      simp
  · have d3 : Dr l S1 S3 := ⟨(d2.d.fr f3).d, d2.f.trans f3.of_nil⟩
    refine ⟨by decide, lens_of (by simp; omega), by decide, ?_⟩
    obtain ⟨W, hW⟩ : ∃ W : List (List Nat), W = ws.map nn ++ [[105, 110], [110, 111, 110, 101, 101], [110, 111, 110]] := ⟨_, rfl⟩
    have hA : (ws.map fun x => D.str (tS (nn x))) ++ [.str (tS [105, 110]), .str (tS [110, 111, 110, 101, 101]), .str (tS [110, 111, 110])] = W.map (fun x => D.str (tS x)) := by rw [hW]; simp
    rw [hA]
    have hWok : ∀ x ∈ W, wdOk x := by
      intro x hx
      rw [hW] at hx
      rcases List.mem_append.mp hx with hx | hx
      · obtain ⟨y, hy, rfl⟩ := List.mem_map.mp hx
        exact nn_ok (hws y hy)
      · simp only [List.mem_cons, List.not_mem_nil, or_false] at hx
        rcases hx with rfl | rfl | rfl
        · exact ⟨⟨by decide, by decide, by decide, by decide⟩, by decide⟩
        · exact ⟨⟨by decide, by decide, by decide, by decide⟩, by decide⟩
        · exact ⟨⟨by decide, by decide, by decide, by decide⟩, by decide⟩
    have hW0 : 0 < W.length := by rw [hW]; simp
    have d4 := (d3.new (Ob.lst (ws.map fun x => D.str (tS (nn x))))).new (Ob.lst [D.str (tS [105, 110]), .str (tS [110, 111, 110, 101, 101]), .str (tS [110, 111, 110])])
    clear hA hW
    generalize S3 ++ [Ob.lst (ws.map fun x => D.str (tS (nn x)))] ++ [Ob.lst [D.str (tS [105, 110]), .str (tS [110, 111, 110, 101, 101]), .str (tS [110, 111, 110])]] = S4 at *
    have d5 := d4.new (Ob.lst (W.map fun x => D.str (tS x)))
    have g5 : (S4 ++ [Ob.lst (W.map fun x => D.str (tS x))])[S4.length]? = some (.lst (W.map fun x => D.str (tS x))) := get_new
    have hwl : S4.length ≠ l := by have := d4.d.lt; omega
    generalize S4 ++ [Ob.lst (W.map fun x => D.str (tS x))] = S5 at *
    generalize S4.length = wl at *
    try walk_at "nx"
    refine ⟨by decide, by decide, ?_⟩
    have d6 := d5.new (Ob.lst [D.non, .int 0, .str (tS [111, 117, 116]), .tup [], .int (-5)])
    have g6 := get_app (o := Ob.lst [D.non, .int 0, .str (tS [111, 117, 116]), .tup [], .int (-5)]) g5
    have t6 : (S5 ++ [Ob.lst [D.non, .int 0, .str (tS [111, 117, 116]), .tup [], .int (-5)]])[S5.length]? = some (.lst [D.non, .int 0, .str (tS [111, 117, 116]), .tup [], .int (-5)]) := get_new
    have htl : S5.length ≠ l := by have := d5.d.lt; omega
    have htw : S5.length ≠ wl := by have := lt_of_get g5; omega
    have hts : S1.length ≤ S5.length := d5.f.le
    generalize S5 ++ [Ob.lst [D.non, .int 0, .str (tS [111, 117, 116]), .tup [], .int (-5)]] = S6 at *
    generalize S5.length = th0 at *
    try walk_at "nx"
    refine ⟨by decide, by decide, ?_⟩
    rw [show rngItems 0 4 = (List.range 4).map (fun (k : Nat) => D.int (k : Int)) from rngItems_nat 4]
    refine forL_inv1 (e := fun (k : Nat) => D.int (k : Int)) (fun m e S' => ∃ (ds : List D), ∃ o, Dr l S1 S' ∧ S'[wl]? = some (.lst (W.map fun x => D.str (tS x))) ∧ S'[th0]? = some (.lst ds) ∧ ds.length = 5 + m ∧ (∀ d ∈ ds, lt d) ∧ e = [some (.ro (ns.map .int)), some (.ref l), some (.ref wl), some (.ref th0), o, none, none, none, none]) (fun _ _ _ _ => Gd_none) ⟨_, none, d6, g6, t6, rfl, lt_five, rfl⟩ ?_ ?_
    · rintro e S7 ⟨ds, o, h1, h2, h3, h4, h5, rfl⟩
      rw [List.length_range] at h4
      try walk_at "nx"
      rw [show n + 47 = (n + 43) + 1 + 3 by omega]
      refine thing_wq hwl hWok hW0 (n + 43) 1 S7 _ h1.d h2 (by decide) fun dd S8 hth d8 => ?_
      rw [show (n + 43) + 1 + 3 = n + 47 by omega]
      have t8 := d8.get h3 htl
      have D8 : Dr l S1 S8 := ⟨d8.d, h1.f.trans d8.f⟩
      refine ⟨by decide, ?_⟩
      try walk_at "nx"
      refine take_wq D8.d (by decide) fun r S9 r0 r1 d9 => ?_
      have t9 := d9.get t8 htl
      have D9 : Dr l S1 S9 := ⟨d9.d, D8.f.trans d9.f⟩
      obtain ⟨k, hk⟩ : ∃ k : Nat, 1 + r = k := ⟨(1 + r).toNat, by omega⟩
      try walk_at "dl"
      rw [hk]
      refine ⟨small_rng (by omega), ?_⟩
      rw [rngItems_nat]
      refine forL_inv1 (e := fun (k : Nat) => D.int (k : Int)) (fun m e S' => ∃ (d : D), ∃ o, Dr l S1 S' ∧ S'[th0]? = some (.lst ds) ∧ dpd m d ∧ e = [some (.ro (ns.map .int)), some (.ref l), some (.ref wl), some (.ref th0), o, some d, none, none, none]) (fun _ _ _ _ => Gd_none) ⟨dd, _, D9, t9, ⟨hth.1, hth.2.1, hth.2.2⟩, rfl⟩ ?_ ?_
      · rintro e S10 ⟨d, o2, k1, k2, k3, rfl⟩
        rw [List.length_range] at k3
        try walk_at "nx"
        have d10 := k1.new (Ob.lst [d])
        have d11 := d10.new (Ob.lst (ds ++ [d]))
        refine ⟨by decide, lens_of (by omega), ?_⟩
        have g11 : ((S10 ++ [Ob.lst [d]]) ++ [Ob.lst (ds ++ [d])])[(S10 ++ [Ob.lst [d]]).length]? = some (.lst (ds ++ [d])) := get_new
        have hrl : (S10 ++ [Ob.lst [d]]).length ≠ l := by have := d10.d.lt; omega
        have hall : ∀ y ∈ ds ++ [d], lt y := by
          intro y hy
          rcases List.mem_append.mp hy with hy | hy
          · exact h5 y hy
          · rw [List.mem_singleton.mp hy]
            exact ⟨k3.1, by have := k3.2.1; omega, Nat.le_trans k3.2.2 (by have : thB 1 = 338 := rfl; omega)⟩
        generalize (S10 ++ [Ob.lst [d]]) ++ [Ob.lst (ds ++ [d])] = S11 at *
        generalize (S10 ++ [Ob.lst [d]]).length = r11 at *
        refine forL_D (fun m e S' => Dr l S11 S' ∧ ∃ o6, e = [some (.ro (ns.map .int)), some (.ref l), some (.ref wl), some (.ref th0), o2, some d, o6, none, none]) (fun _ _ _ h => Gd_ref (h.1.get g11 hrl)) ⟨Dw.refl d11.d, none, rfl⟩ ?_ ?_
        · rintro e S12 ⟨d12, o6, rfl⟩
          try walk_at "nx"
          refine ⟨by decide, by decide, by decide, by decide, by decide, by decide, by decide, by decide, by decide, ?_⟩
          have okt : D.bf (.str (tS (pt told))) = true := ok_of (pt_lt told pg_told)
          try walk_at "nx"
          refine write_wq (n := n + 45) pg_told (by decide) fun S13 f13 => ?_
          rw [show n + 47 = (n + 6) + 40 + 1 by omega]
          refine same_wq (n + 6) 40 _ S13 _ okt (Nat.zero_le _) (by decide) (show 1 ≤ 900000 by decide) fun S14 f14 => ?_
          try walk_at "dl"
          try walk_at "nx"
          rw [show (n + 6) + 40 + 1 = (n + 42) + 5 by omega]
          refine rdt_wq (d := told2) pg_told2 (by decide) (by decide) (by decide +kernel) (by decide) fun S15 f15 => ?_
          refine ⟨by decide, by decide, by decide, ?_⟩
          rw [show (n + 42) + 5 = (n + 6) + 40 + 1 by omega]
          refine same_wq (n + 6) 40 told2 S15 _ (pg_bf told2 pg_told2) (by decide) (by decide) (by decide) fun S16 f16 => ?_
          exact q S16
        · rintro m y e S12 hy ⟨d12, o6, rfl⟩
          try walk_at "dl"
          refine ⟨by decide, ?_⟩
          exact chkB_wq d12.d (hall y (List.mem_of_getElem? hy)) fun S' k => ⟨⟨k.d, d12.f.trans k.f⟩, _, rfl⟩
      · rintro m x e S10 hx ⟨d, o2, k1, k2, k3, rfl⟩
        have hmn : m < k := by
          have := (List.getElem?_eq_some_iff.mp hx).1
          simpa using this
        have hxm : x = m := by rw [List.getElem?_range hmn] at hx; cases hx; rfl
        subst hxm
        have hf := fmod_rg (a := (x : Int)) (b := 2) (by decide)
        obtain ⟨d1, d2⟩ := dpd_step (x := x) (by omega) k3
        try walk_at "dl"
        rw [w_slT]
        refine ⟨by decide, by decide, by decide, by decide, ?_⟩
        try rw [k_nx, xs_nil]
        have hz : (x : Int).fmod 2 = 0 ∨ (x : Int).fmod 2 = 1 := by omega
        rcases hz with hz | hz
        · rw [hz]
          exact ⟨.tup [d], _, k1, k2, d1, rfl⟩
        · rw [hz]
          exact ⟨.tup [d, .int (x : Nat)], _, k1, k2, d2, rfl⟩
    · rintro m x e S7 hx ⟨ds, o, h1, h2, h3, h4, h5, rfl⟩
      have hmn : m < 4 := by
        have := (List.getElem?_eq_some_iff.mp hx).1
        simpa using this
      try walk_at "dl"
      refine ⟨by decide, ?_⟩
      refine take_wq h1.d (by decide) fun r S8 r0 r1 d8 => ?_
      have g8 := d8.get h2 hwl
      have t8 := d8.get h3 htl
      obtain ⟨k, hk⟩ : ∃ k : Nat, 2 + r = k := ⟨(2 + r).toNat, by omega⟩
      try walk_at "dl"
      rw [hk, show n + 47 = (n + 44 - k) + k + 3 by omega]
      refine thing_wq hwl hWok hW0 (n + 44 - k) k S8 _ d8.d g8 (by omega) fun d S9 hth d9 => ?_
      have t9 := d9.get t8 htl
      rw [w_append t9]
      refine ⟨szl (by omega), ?_⟩
      try rw [k_nx, xs_nil]
      have D9 : Dr l S1 S9 := ⟨d9.d, h1.f.trans (d8.f.trans d9.f)⟩
      refine ⟨ds ++ [d], _, D9.set _ hts htl, by rw [List.getElem?_set_ne htw]; exact d9.get g8 hwl, get_set t9, by rw [List.length_append, h4]; rfl, fun y hy => ?_, rfl⟩
      rcases List.mem_append.mp hy with hy | hy
      · exact h5 y hy
      · rw [List.mem_singleton.mp hy]
        exact lt_th (by omega) hth
end K76
end

section
set_option Elab.async false
set_option linter.all false
set_option maxRecDepth 100000
/-! Dl: how values over the hand layer's heap stand for data -/
namespace Dl
open PySem PySem.Spec PyProof.Rows L2 LamX

/-- a list that nobody writes -/
def SqF (K : PySem.W.Frag) (H : Hp) (a : Addr) (xs : List V) : Prop :=
  (∃ o, H a = some (.frz o (.lst xs))) ∨
    ∃ (o : Obj) (its : Array Value) (n : Nat), K.lookup a = some o ∧ o.cls = .type "list" ∧ o.dict = none ∧ o.data = .seq its n ∧ its.size ≤ sizeLine ∧ Vals xs its.toList
theorem SqF.sql {K : PySem.W.Frag} {H : Hp} {a : Addr} {xs : List V} (h : SqF K H a xs) : SqL K H a xs := by
  rcases h with h | h
  · exact .inl (.inr h)
  · exact .inr h
mutual
inductive Rep (K : PySem.W.Frag) (ρ : List Addr) (H : Hp) : V → D → Prop where
  | non : Rep K ρ H .non .non
  | bl (b : Bool) : Rep K ρ H (.bl b) (.bl b)
  | int (i : Int) : Rep K ρ H (.int i) (.int i)
  | str (x : Str) : Rep K ρ H (.str x) (.str x)
  | tup {a : Addr} {xs : List V} {ds : List D} : SqT K H a xs → (isKey ds = true → H a = some (.tup xs)) → (isX ds = true → TupX K H a) → Reps K ρ H xs ds → Rep K ρ H (.ref a) (.tup ds)
  | ref {a : Addr} {l : Nat} : ρ[l]? = some a → Rep K ρ H (.ref a) (.ref l)
  | ro {a : Addr} {xs : List V} {ds : List D} : SqF K H a xs → Reps K ρ H xs ds → Rep K ρ H (.ref a) (.ro ds)
  | fn (x : Str) : Rep K ρ H (.ref (He.ga K x)) (.fn x)
inductive Reps (K : PySem.W.Frag) (ρ : List Addr) (H : Hp) : List V → List D → Prop where
  | nil : Reps K ρ H [] []
  | cons {v : V} {d : D} {vs : List V} {ds : List D} : Rep K ρ H v d → Reps K ρ H vs ds → Reps K ρ H (v :: vs) (d :: ds)
end
/-- what the heap must keep: tuples and known objects -/
structure Kp (H H' : Hp) : Prop where
  t : ∀ a xs, H a = some (.tup xs) → H' a = some (.tup xs)
  f : ∀ a o u, (∀ ws, u ≠ .dT ws) → H a = some (.frz o u) → H' a = some (.frz o u)
section
variable {K : PySem.W.Frag} {ρ ρ' τ : List Addr} {H H' : Hp}
theorem Kp.refl : Kp H H := ⟨fun _ _ h => h, fun _ _ _ _ h => h⟩
theorem Kp.sqt (k : Kp H H') {a : Addr} {xs : List V} (h : SqT K H a xs) : SqT K H' a xs := by
  rcases h with (h | ⟨o, h⟩) | h
  · exact .inl (.inl (k.t _ _ h))
  · exact .inl (.inr ⟨o, k.f _ _ _ (fun _ z => nomatch z) h⟩)
  · exact .inr h
theorem Kp.tx (k : Kp H H') {a : Addr} (h : TupX K H a) : TupX K H' a := by
  rcases h with ⟨o, xs, h, e⟩ | h
  · exact .inl ⟨o, xs, k.f _ _ _ (fun _ z => nomatch z) h, e⟩
  · exact .inr h
theorem Kp.sqf (k : Kp H H') {a : Addr} {xs : List V} (h : SqF K H a xs) : SqF K H' a xs := by
  rcases h with ⟨o, h⟩ | h
  · exact .inl ⟨o, k.f _ _ _ (fun _ z => nomatch z) h⟩
  · exact .inr h
mutual
theorem Rep.kp (k : Kp H H') : ∀ {v : V} {d : D}, Rep K ρ H v d → Rep K (ρ ++ τ) H' v d
  | _, _, .non => .non
  | _, _, .bl b => .bl b
  | _, _, .int i => .int i
  | _, _, .str x => .str x
  | _, _, .tup h hk hx r => .tup (k.sqt h) (fun z => k.t _ _ (hk z)) (fun z => k.tx (hx z)) (Reps.kp k r)
  | _, _, .ref h => .ref (by rw [List.getElem?_append_left (List.getElem?_eq_some_iff.mp h).1]; exact h)
  | _, _, .ro h r => .ro (k.sqf h) (Reps.kp k r)
  | _, _, .fn x => .fn x
theorem Reps.kp (k : Kp H H') : ∀ {v : List V} {d : List D}, Reps K ρ H v d → Reps K (ρ ++ τ) H' v d
  | _, _, .nil => .nil
  | _, _, .cons h r => .cons (Rep.kp k h) (Reps.kp k r)
end
theorem Reps.length : ∀ {vs : List V} {ds : List D}, Reps K ρ H vs ds → vs.length = ds.length
  | _, _, .nil => rfl
  | _, _, .cons _ r => congrArg Nat.succ r.length
theorem Reps.append : ∀ {vs ws : List V} {ds es : List D}, Reps K ρ H vs ds → Reps K ρ H ws es → Reps K ρ H (vs ++ ws) (ds ++ es)
  | _, _, _, _, .nil, s => s
  | _, _, _, _, .cons h r, s => .cons h (r.append s)
theorem Reps.get : ∀ {vs : List V} {ds : List D} {i : Nat} {d : D}, Reps K ρ H vs ds → ds[i]? = some d → ∃ v, vs[i]? = some v ∧ Rep K ρ H v d
  | _, _, _, _, .nil, e => by simp at e
  | _, _, 0, _, .cons h r, e => by simp at e; subst e; exact ⟨_, rfl, h⟩
  | _, _, i + 1, _, .cons h r, e => by
    obtain ⟨v, e1, e2⟩ := r.get (i := i) (by simpa using e)
    exact ⟨v, by simpa using e1, e2⟩
theorem Reps.take : ∀ {vs : List V} {ds : List D} (n : Nat), Reps K ρ H vs ds → Reps K ρ H (vs.take n) (ds.take n)
  | _, _, 0, _ => .nil
  | _, _, _ + 1, .nil => .nil
  | _, _, n + 1, .cons h r => .cons h (r.take n)
theorem Reps.drop : ∀ {vs : List V} {ds : List D} (n : Nat), Reps K ρ H vs ds → Reps K ρ H (vs.drop n) (ds.drop n)
  | _, _, 0, r => r
  | _, _, _ + 1, .nil => .nil
  | _, _, n + 1, .cons h r => r.drop n
theorem Reps.reverse : ∀ {vs : List V} {ds : List D}, Reps K ρ H vs ds → Reps K ρ H vs.reverse ds.reverse
  | _, _, .nil => .nil
  | _, _, .cons h r => by
    rw [List.reverse_cons, List.reverse_cons]
    exact r.reverse.append (.cons h .nil)
theorem Reps.set {v : V} {d : D} (h : Rep K ρ H v d) : ∀ {vs : List V} {ds : List D} (i : Nat), Reps K ρ H vs ds → Reps K ρ H (vs.set i v) (ds.set i d)
  | _, _, _, .nil => .nil
  | _, _, 0, .cons _ r => .cons h r
  | _, _, i + 1, .cons g r => .cons g (r.set h i)
theorem Reps.eraseIdx : ∀ {vs : List V} {ds : List D} (i : Nat), Reps K ρ H vs ds → Reps K ρ H (vs.eraseIdx i) (ds.eraseIdx i)
  | _, _, _, .nil => .nil
  | _, _, 0, .cons _ r => r
  | _, _, i + 1, .cons g r => .cons g (r.eraseIdx i)
theorem Reps.dropLast {vs : List V} {ds : List D} (r : Reps K ρ H vs ds) : Reps K ρ H vs.dropLast ds.dropLast := by
  rw [List.dropLast_eq_take, List.dropLast_eq_take, r.length]
  exact r.take _
theorem Reps.replicate {v : V} {d : D} (h : Rep K ρ H v d) : ∀ n : Nat, Reps K ρ H (List.replicate n v) (List.replicate n d)
  | 0 => .nil
  | n + 1 => .cons h (Reps.replicate h n)
theorem Reps.repl {vs : List V} {ds : List D} (r : Reps K ρ H vs ds) : ∀ n : Nat, Reps K ρ H (List.replicate n vs).flatten (List.replicate n ds).flatten
  | 0 => .nil
  | n + 1 => by
    rw [List.replicate_succ, List.replicate_succ, List.flatten_cons, List.flatten_cons]
    exact r.append (Reps.repl r n)
theorem Reps.nil_iff {vs : List V} {ds : List D} (r : Reps K ρ H vs ds) : vs = [] ↔ ds = [] := by
  cases r <;> simp
theorem Reps.ints : ∀ {vs : List V} {ds : List D} {ns : List Int}, Reps K ρ H vs ds → intsOf ds = some ns → vs = ns.map V.int
  | _, _, _, .nil, e => by simp [intsOf] at e; subst e; rfl
  | _, _, _, .cons (d := d) h r, e => by
    cases d <;> simp [intsOf] at e
    obtain ⟨ns, e1, rfl⟩ := e
    cases h
    rw [r.ints e1]; rfl
theorem Reps.bls : ∀ {vs : List V} {ds : List D} {ns : List Bool}, Reps K ρ H vs ds → blsOf ds = some ns → vs = ns.map V.bl
  | _, _, _, .nil, e => by simp [blsOf] at e; subst e; rfl
  | _, _, _, .cons (d := d) h r, e => by
    cases d <;> simp [blsOf] at e
    obtain ⟨ns, e1, rfl⟩ := e
    cases h
    rw [r.bls e1]; rfl
theorem Reps.ofInts : ∀ ns : List Int, Reps K ρ H (ns.map V.int) (ns.map D.int)
  | [] => .nil
  | n :: ns => .cons (.int n) (Reps.ofInts ns)
theorem Rep.flatV {v : V} {d : D} (h : Rep K ρ H v d) (f : flat d = true) : L2.flatV v = true := by
  cases h <;> first | rfl | simp [flat] at f
theorem Reps.allFlat : ∀ {vs : List V} {ds : List D}, Reps K ρ H vs ds → ds.all flat = true → vs.all L2.flatV = true
  | _, _, .nil, _ => rfl
  | _, _, .cons h r, f => by
    simp only [List.all_cons, Bool.and_eq_true] at f ⊢
    exact ⟨h.flatV f.1, r.allFlat f.2⟩
theorem Rep.eqF {v w : V} {d e : D} (h : Rep K ρ H v d) (g : Rep K ρ H w e) (f : flat d = true) (f' : flat e = true) : L2.eqV v w = Dl.eqF d e := by
  cases h <;> first | (simp [flat] at f; done) | (cases g <;> first | rfl | (simp [flat] at f'; done))
theorem Reps.inF {v : V} {d : D} (h : Rep K ρ H v d) (f : flat d = true) : ∀ {vs : List V} {ds : List D}, Reps K ρ H vs ds → ds.all flat = true → L2.inV v vs = Dl.inF d ds
  | _, _, .nil, _ => rfl
  | _, _, .cons g r, k => by
    simp only [List.all_cons, Bool.and_eq_true] at k
    have ih := Reps.inF h f r k.2
    unfold L2.inV Dl.inF at ih ⊢
    rw [List.any_cons, List.any_cons, ih, g.eqF h k.1 f]
end

/-- a dict with tuple keys, locked or not -/
def DtAt (H : Hp) (a : Addr) (ws : List (List Key × V)) : Bool → Prop
  | false => H a = some (.dT ws)
  | true => ∃ o, H a = some (.frz o (.dT ws))
theorem DtAt.rd {H : Hp} {a : Addr} {ws : List (List Key × V)} {lk : Bool} (h : DtAt H a ws lk) : Rd H a (.dT ws) := by
  cases lk with
  | false => exact .inl h
  | true => exact .inr h
theorem DtAt.of {H H' : Hp} {a : Addr} {ws : List (List Key × V)} {lk : Bool} (e : H' a = H a) (h : DtAt H a ws lk) : DtAt H' a ws lk := by
  cases lk with
  | false => exact e.trans h
  | true => obtain ⟨o, h⟩ := h; exact ⟨o, e.trans h⟩
/-- a key that begins with a number -/
def IHd : List Key → Prop
  | .inl _ :: _ => True
  | _ => False
/-- the same keys, each of them begins with a number -/
def KeysOk (ws : List (List Key × V)) (kvs : List (List Key × D)) : Prop := ws.map (·.1) = kvs.map (·.1) ∧ ∀ kv ∈ kvs, IHd kv.1
/-- an object of the store at an address -/
def ObR (K : PySem.W.Frag) (ρ : List Addr) (H : Hp) (a : Addr) : Ob → Prop
  | .lst ds => ∃ vs, H a = some (.lst vs) ∧ Reps K ρ H vs ds
  | .dk kvs => ∃ ws, H a = some (.dK ws) ∧ ws.map (·.1) = kvs.map (·.1) ∧ Reps K ρ H (ws.map (·.2)) (kvs.map (·.2))
  | .dt lk kvs => ∃ ws, DtAt H a ws lk ∧ KeysOk ws kvs ∧ Reps K ρ H (ws.map (·.2)) (kvs.map (·.2))
  | .obj C fs => ∃ dx ws, H a = some (.ins (He.ga K C) dx ws) ∧ ws.map (·.1) = fs.map (·.1) ∧ Reps K ρ H (ws.map (·.2)) (fs.map (·.2))
/-- the name of a def's lambda; the table of its code object -/
def lamQ (nm : Str) : Str := (nm ++ ".<locals>.") ++ "<lambda>"
def refIn : Option Value → Option Addr
  | some (Value.ref P) => some P
  | _ => none
def codeTab (K : PySem.W.Frag) : Value → Option Addr
  | .ref c => match K.lookup c with
    | some ⟨_, _, .fields vs, _⟩ => refIn vs[11]?
    | _ => none
  | _ => none
def tabAd (K : PySem.W.Frag) (nm : Str) : Option Addr := match K.lookup (He.fAd K (nm, none)) with
  | some ⟨_, _, .func fd, _⟩ => codeTab K fd.code
  | _ => none
/-- the store at its addresses -/
structure WS (K : PySem.W.Frag) (ρ : List Addr) (S : Store) (H : Hp) : Prop where
  nd : ρ.Nodup
  len : ρ.length = S.length
  ob : ∀ (i : Nat) (a : Addr) (o : Ob), ρ[i]? = some a → S[i]? = some o → ObR K ρ H a o
  tab : ∀ nm ∈ lamNames, ∀ P, tabAd K nm = some P → TabS H P (lamQ nm)
  one : ∀ nm ∈ lamNames, ∀ nm' ∈ lamNames, ∀ P, tabAd K nm = some P → tabAd K nm' = some P → nm = nm'
/-- the heap has gone on: new objects, old ones changed at ρ alone -/
structure Step (ρ : List Addr) (H : Hp) (ρ' : List Addr) (H' : Hp) : Prop where
  pre : ∃ τ, ρ' = ρ ++ τ
  new : ∀ a ∈ ρ', a ∈ ρ ∨ H a = none
  keep : ∀ a o, a ∉ ρ → H a = some o → (∀ ps, o ≠ .tbl ps) → H' a = some o
  fz : ∀ a o u, H a = some (.frz o u) → H' a = some (.frz o u)
  tb : ∀ a ps, H a = some (.tbl ps) → ∃ ps', H' a = some (.tbl ps')
def ObM : HO → Prop
  | .lst _ => True | .dK _ => True | .dT _ => True | .ins _ _ _ => True | .frz _ (.dT _) => True | _ => False
theorem ObM.ntbl {o : HO} (h : ObM o) (ps : Array Value) : o ≠ .tbl ps := fun e => by subst e; exact h
theorem ObM.next {o : HO} (h : ObM o) (φ : Heap → Prop) : o ≠ .ext φ := fun e => by subst e; exact h
theorem tabM {H : Hp} {P a : Addr} {q : Str} {u o : HO} (t : TabS H P q) (e : H a = some o) (m : ObM o) : TabS (upd H a u) P q := by
  obtain ⟨ps, h1, h2, h3⟩ := t
  refine ⟨ps, by rw [upd_ne (fun z => by rw [z, e] at h1; exact m.ntbl ps (Option.some.inj h1))]; exact h1, h2, fun pos cv hc => ?_⟩
  obtain ⟨c, e1, e2⟩ := h3 pos cv hc
  refine ⟨c, e1, ?_⟩
  rw [upd_ne (fun z => by rw [z, e] at e2; exact m.next _ (Option.some.inj e2))]
  exact e2
theorem tabN {H : Hp} {P a : Addr} {q : Str} {u : HO} (t : TabS H P q) (e : H a = none) : TabS (upd H a u) P q :=
  t.ext fun b o h => by rw [upd_ne (ne_of_none h e)]; exact h
section
variable {K : PySem.W.Frag} {ρ ρ' ρ'' : List Addr} {H H' H'' : Hp} {S S' : Store}
theorem ObR.mut {a : Addr} {o : Ob} (h : ObR K ρ H a o) : ∃ u, H a = some u ∧ ObM u := by
  cases o with
  | lst ds => obtain ⟨vs, e, _⟩ := h; exact ⟨_, e, trivial⟩
  | dk kvs => obtain ⟨vs, e, _⟩ := h; exact ⟨_, e, trivial⟩
  | dt lk kvs =>
    obtain ⟨vs, e, _⟩ := h
    cases lk with
    | false => exact ⟨_, e, trivial⟩
    | true => obtain ⟨o, e⟩ := e; exact ⟨_, e, trivial⟩
  | obj C fs => obtain ⟨dx, vs, e, _⟩ := h; exact ⟨_, e, trivial⟩
theorem WS.mem (w : WS K ρ S H) {a : Addr} (h : a ∈ ρ) : ∃ u, H a = some u ∧ ObM u := by
  obtain ⟨i, hi⟩ := List.getElem?_of_mem h
  have hl : i < S.length := by rw [← w.len]; exact (List.getElem?_eq_some_iff.mp hi).1
  exact (w.ob i a S[i] hi (List.getElem?_eq_getElem hl)).mut
theorem WS.notin (w : WS K ρ S H) {a : Addr} {o : HO} (e : H a = some o) (n : ¬ ObM o) : a ∉ ρ := fun h => by
  obtain ⟨u, e', m⟩ := w.mem h
  rw [e] at e'; cases e'
  exact n m
theorem WS.fresh (w : WS K ρ S H) {a : Addr} (e : H a = none) : a ∉ ρ := fun h => by
  obtain ⟨u, e', m⟩ := w.mem h
  rw [e] at e'; cases e'
theorem Step.refl : Step ρ H ρ H := ⟨⟨[], (List.append_nil _).symm⟩, fun _ h => .inl h, fun _ _ _ h _ => h, fun _ _ _ h => h, fun _ ps h => ⟨ps, h⟩⟩
theorem Step.trans (a : Step ρ H ρ' H') (b : Step ρ' H' ρ'' H'') : Step ρ H ρ'' H'' := by
  obtain ⟨τ, rfl⟩ := a.pre
  obtain ⟨τ', rfl⟩ := b.pre
  refine ⟨⟨τ ++ τ', by rw [List.append_assoc]⟩, fun x hx => ?_, fun x o hx e n => ?_, fun x o u e => b.fz x o u (a.fz x o u e), fun x ps e => let ⟨ps', e'⟩ := a.tb x ps e; b.tb x ps' e'⟩
  · rcases b.new x hx with h | h
    · exact a.new x h
    · by_cases hr : x ∈ ρ
      · exact .inl hr
      · refine .inr ?_
        cases q : H x with
        | none => rfl
        | some u =>
          by_cases ht : ∃ ps, u = .tbl ps
          · obtain ⟨ps, rfl⟩ := ht
            obtain ⟨ps', e'⟩ := a.tb x ps q
            rw [e'] at h; cases h
          · rw [a.keep x u hr q (fun ps z => ht ⟨ps, z⟩)] at h; cases h
  · refine b.keep x o (fun h => ?_) (a.keep x o hx e n) n
    rcases a.new x h with h | h
    · exact hx h
    · rw [e] at h; cases h
theorem Step.stays (s : Step ρ H ρ' H') {a : Addr} {u : HO} (h : a ∉ ρ) (e : H a = some u) : ∃ u', H' a = some u' := by
  by_cases ht : ∃ ps, u = .tbl ps
  · obtain ⟨ps, rfl⟩ := ht
    obtain ⟨ps', e'⟩ := s.tb a ps e
    exact ⟨_, e'⟩
  · exact ⟨u, s.keep a u h e fun ps z => ht ⟨ps, z⟩⟩
theorem Step.lst (s : Step ρ H ρ' H') {a : Addr} {xs : List V} (h : a ∉ ρ) (e : H a = some (.lst xs)) : H' a = some (.lst xs) := s.keep a _ h e fun _ z => nomatch z
theorem Step.kp (w : WS K ρ S H) (s : Step ρ H ρ' H') : Kp H H' := ⟨fun a xs e => s.keep _ _ (w.notin e (fun z => z)) e (fun _ z => nomatch z), fun a o u _ e => s.fz _ _ _ e⟩
theorem Rep.step (w : WS K ρ S H) (s : Step ρ H ρ' H') {v : V} {d : D} (r : Rep K ρ H v d) : Rep K ρ' H' v d := by
  obtain ⟨τ, e⟩ := s.pre
  rw [e]
  exact r.kp (s.kp w)
theorem Reps.step (w : WS K ρ S H) (s : Step ρ H ρ' H') {v : List V} {d : List D} (r : Reps K ρ H v d) : Reps K ρ' H' v d := by
  obtain ⟨τ, e⟩ := s.pre
  rw [e]
  exact r.kp (s.kp w)
theorem ObR.kp {τ : List Addr} {a : Addr} {o : Ob} (k : Kp H H') (e : H' a = H a) (h : ObR K ρ H a o) : ObR K (ρ ++ τ) H' a o := by
  cases o with
  | lst ds => obtain ⟨vs, q, r⟩ := h; exact ⟨vs, by rw [e]; exact q, r.kp k⟩
  | dk kvs => obtain ⟨vs, q, q2, r⟩ := h; exact ⟨vs, by rw [e]; exact q, q2, r.kp k⟩
  | dt lk kvs => obtain ⟨vs, q, q2, r⟩ := h; exact ⟨vs, q.of e, q2, r.kp k⟩
  | obj C fs => obtain ⟨dx, vs, q, q2, r⟩ := h; exact ⟨dx, vs, by rw [e]; exact q, q2, r.kp k⟩
/-- a new tuple -/
theorem Kp.new {p : Addr} {u : HO} (hp : H p = none) : Kp H (upd H p u) :=
  ⟨fun a xs e => by rw [upd_ne (ne_of_none e hp)]; exact e, fun a o z _ e => by rw [upd_ne (ne_of_none e hp)]; exact e⟩
theorem Step.tup {p : Addr} {u : HO} (hp : H p = none) : Step ρ H ρ (upd H p u) :=
  ⟨⟨[], (List.append_nil _).symm⟩, fun _ h => .inl h, fun a o _ e _ => by rw [upd_ne (ne_of_none e hp)]; exact e, fun a o z e => by rw [upd_ne (ne_of_none e hp)]; exact e, fun a ps e => ⟨ps, by rw [upd_ne (ne_of_none e hp)]; exact e⟩⟩
theorem WS.tup (w : WS K ρ S H) {p : Addr} {u : HO} (hp : H p = none) : WS K ρ S (upd H p u) := by
  refine ⟨w.nd, w.len, fun i a o h1 h2 => ?_, fun nm hn P hP => tabN (w.tab nm hn P hP) hp, w.one⟩
  have q := (w.ob i a o h1 h2).kp (τ := []) (Kp.new (u := u) hp) (upd_ne fun e => by subst e; exact w.fresh hp (List.mem_of_getElem? h1))
  rw [List.append_nil] at q
  exact q
/-- a new object of the store -/
theorem Step.alloc {p : Addr} {u : HO} (hp : H p = none) : Step ρ H (ρ ++ [p]) (upd H p u) :=
  ⟨⟨[p], rfl⟩, fun a h => by
    rcases List.mem_append.mp h with h | h
    · exact .inl h
    · rw [List.mem_singleton.mp h]; exact .inr hp, fun a o _ e _ => by rw [upd_ne (ne_of_none e hp)]; exact e, fun a o z e => by rw [upd_ne (ne_of_none e hp)]; exact e, fun a ps e => ⟨ps, by rw [upd_ne (ne_of_none e hp)]; exact e⟩⟩
theorem WS.alloc (w : WS K ρ S H) {p : Addr} {u : HO} {o : Ob} (hp : H p = none) (h : ObR K (ρ ++ [p]) (upd H p u) p o) : WS K (ρ ++ [p]) (S ++ [o]) (upd H p u) := by
  refine ⟨?_, by rw [List.length_append, List.length_append, w.len]; rfl, fun i a o' h1 h2 => ?_, fun nm hn P hP => tabN (w.tab nm hn P hP) hp, w.one⟩
  · refine List.nodup_append.mpr ⟨w.nd, List.nodup_cons.mpr ⟨by simp, List.nodup_nil⟩, fun a ha b hb e => ?_⟩
    rw [List.mem_singleton.mp hb] at e
    subst e
    exact w.fresh hp ha
  · by_cases hi : i < ρ.length
    · rw [List.getElem?_append_left hi] at h1
      rw [List.getElem?_append_left (by rw [← w.len]; exact hi)] at h2
      exact (w.ob i a o' h1 h2).kp (Kp.new (u := u) hp) (upd_ne fun e => by subst e; exact w.fresh hp (List.mem_of_getElem? h1))
    · have e1 : i = ρ.length := by
        have := (List.getElem?_eq_some_iff.mp h1).1
        rw [List.length_append, List.length_singleton] at this
        omega
      subst e1
      rw [List.getElem?_append_right (Nat.le_refl _), Nat.sub_self] at h1
      rw [w.len, List.getElem?_append_right (Nat.le_refl _), Nat.sub_self] at h2
      simp at h1 h2
      subst h1 h2
      exact h
/-- an object of the store is changed -/
theorem Step.set (w : WS K ρ S H) {l : Nat} {a : Addr} {u u0 : HO} (h : ρ[l]? = some a) (h0 : H a = some u0) (hn : ∀ o' u', u0 ≠ .frz o' u') : Step ρ H ρ (upd H a u) := by
  have hm : ObM u0 := by
    obtain ⟨u', e, m⟩ := w.mem (List.mem_of_getElem? h)
    rw [h0] at e; cases e
    exact m
  refine ⟨⟨[], (List.append_nil _).symm⟩, fun _ h => .inl h, fun b o hb e _ => by rw [upd_ne (fun z => hb (by rw [z]; exact List.mem_of_getElem? h))]; exact e, fun b o z e => ?_, fun b ps e => ⟨ps, ?_⟩⟩
  · rw [upd_ne (fun y => by rw [y, h0] at e; exact hn _ _ (Option.some.inj e))]; exact e
  · rw [upd_ne (fun y => by rw [y, h0] at e; exact hm.ntbl _ (Option.some.inj e))]; exact e
theorem WS.setK (w : WS K ρ S H) {l : Nat} {a : Addr} {u : HO} {o : Ob} (h : ρ[l]? = some a) (kp : Kp H (upd H a u)) (ho : ObR K ρ (upd H a u) a o) : WS K ρ (S.set l o) (upd H a u) := by
  refine ⟨w.nd, by rw [List.length_set]; exact w.len, fun i b o' h1 h2 => ?_, fun nm hn P hP => ?_, w.one⟩
  case refine_2 =>
    obtain ⟨u', e, m⟩ := w.mem (List.mem_of_getElem? h)
    exact tabM (w.tab nm hn P hP) e m
  by_cases hi : l = i
  · subst hi
    rw [h] at h1; cases h1
    have hl : l < S.length := by rw [← w.len]; exact (List.getElem?_eq_some_iff.mp h).1
    rw [List.getElem?_set_self hl] at h2
    cases h2
    exact ho
  · rw [List.getElem?_set_ne hi] at h2
    have hne : b ≠ a := fun z => by
      subst z
      have := List.getElem_inj (i := l) (j := i) w.nd (h₀ := (List.getElem?_eq_some_iff.mp h).1) (h₁ := (List.getElem?_eq_some_iff.mp h1).1)
      rw [(List.getElem?_eq_some_iff.mp h).2, (List.getElem?_eq_some_iff.mp h1).2] at this
      exact hi (this.mp rfl)
    have q := (w.ob i b o' h1 h2).kp (τ := []) kp (upd_ne hne)
    rw [List.append_nil] at q
    exact q
theorem WS.set (w : WS K ρ S H) {l : Nat} {a : Addr} {u u0 : HO} {o : Ob} (h : ρ[l]? = some a) (h0 : H a = some u0) (hn : ∀ o' u', u0 ≠ .frz o' u') (ho : ObR K ρ (upd H a u) a o) : WS K ρ (S.set l o) (upd H a u) :=
  w.setK h ((Step.set w (u := u) h h0 hn).kp w) ho
theorem WS.lst (w : WS K ρ S H) {l : Nat} {a : Addr} {ds : List D} (h : ρ[l]? = some a) (e : S[l]? = some (.lst ds)) : ∃ vs, H a = some (.lst vs) ∧ Reps K ρ H vs ds := w.ob l a _ h e
theorem WS.lt (w : WS K ρ S H) {l : Nat} {a : Addr} (h : ρ[l]? = some a) : l < S.length := by rw [← w.len]; exact (List.getElem?_eq_some_iff.mp h).1
theorem Rep.new (w : WS K ρ S H) {p : Addr} : Rep K (ρ ++ [p]) H' (.ref p) (.ref S.length) := .ref (by
  rw [← w.len, List.getElem?_append_right (Nat.le_refl _), Nat.sub_self]; rfl)
end

/-! ### readings from data -/
/-- the slots of a def stand for data -/
structure EnvR (K : PySem.W.Frag) (ρ : List Addr) (H : Hp) (σ : L2.St) (env : Sl) : Prop where
  len : σ.length = env.length
  at_ : ∀ (i : Nat) (d : D), env[i]? = some (some d) → ∃ v, σ[i]? = some (some v) ∧ Rep K ρ H v d
section
variable {K : PySem.W.Frag} {ρ ρ' ρ'' : List Addr} {H H' H'' : Hp} {S S' : Store} {σ : L2.St} {env : Sl}
theorem EnvR.step (e : EnvR K ρ H σ env) (w : WS K ρ S H) (s : Step ρ H ρ' H') : EnvR K ρ' H' σ env :=
  ⟨e.len, fun i d h => let ⟨v, h1, h2⟩ := e.at_ i d h; ⟨v, h1, h2.step w s⟩⟩
theorem EnvR.set (e : EnvR K ρ H σ env) {i : Nat} {v : V} {d : D} (r : Rep K ρ H v d) : EnvR K ρ H (σ.set i (some v)) (env.set i (some d)) := by
  refine ⟨by rw [List.length_set, List.length_set]; exact e.len, fun j d' h => ?_⟩
  by_cases hj : i = j
  · subst hj
    have hl : i < env.length := by
      have := (List.getElem?_eq_some_iff.mp h).1
      rw [List.length_set] at this
      exact this
    rw [List.getElem?_set_self hl] at h
    cases h
    exact ⟨v, List.getElem?_set_self (by rw [e.len]; exact hl), r⟩
  · rw [List.getElem?_set_ne hj] at h ⊢
    exact e.at_ j d' h
theorem EnvR.wipe (e : EnvR K ρ H σ env) : ∀ vs : List Nat, EnvR K ρ H (wipe σ vs) (wipeE env vs)
  | [] => e
  | v :: vs => by
    have ih := EnvR.wipe e vs
    unfold L2.wipe wipeE
    refine ⟨by rw [List.length_set, List.length_set]; exact ih.len, fun j d' h => ?_⟩
    by_cases hj : v = j
    · subst hj
      have hl : v < (wipeE env vs).length := by
        have := (List.getElem?_eq_some_iff.mp h).1
        rw [List.length_set] at this
        exact this
      rw [List.getElem?_set_self hl] at h
      cases h
    · rw [List.getElem?_set_ne hj] at h ⊢
      exact ih.at_ j d' h
/-- what a wished end says of a datum -/
def Post (K : PySem.W.Frag) (ρ : List Addr) (H : Hp) (Q : VK) : D → Store → Prop := fun d S' => ∀ ρ' H' v, Step ρ H ρ' H' → WS K ρ' S' H' → Rep K ρ' H' v d → Q v H'
def PostB (K : PySem.W.Frag) (ρ : List Addr) (H : Hp) (Q : Bool → Hp → Prop) : Bool → Store → Prop := fun d S' => ∀ ρ' H', Step ρ H ρ' H' → WS K ρ' S' H' → Q d H'
def PostS (K : PySem.W.Frag) (ρ : List Addr) (H : Hp) (Q : List V → Hp → Prop) : List D → Store → Prop := fun d S' => ∀ ρ' H' v, Step ρ H ρ' H' → WS K ρ' S' H' → Reps K ρ' H' v d → Q v H'
theorem Post.step {Q : VK} {d : D} (p : Post K ρ H Q d S) (s : Step ρ H ρ' H') : Post K ρ' H' Q d S := fun _ _ v t w r => p _ _ v (s.trans t) w r
theorem PostB.step {Q : Bool → Hp → Prop} {d : Bool} (p : PostB K ρ H Q d S) (s : Step ρ H ρ' H') : PostB K ρ' H' Q d S := fun _ _ t w => p _ _ (s.trans t) w
theorem PostS.step {Q : List V → Hp → Prop} {d : List D} (p : PostS K ρ H Q d S) (s : Step ρ H ρ' H') : PostS K ρ' H' Q d S := fun _ _ v t w r => p _ _ v (s.trans t) w r
/-- readings -/
def TD (K : PySem.W.Frag) (m : Sl → M D) : TE := fun σ H Q => ∃ ρ S env, WS K ρ S H ∧ EnvR K ρ H σ env ∧ wp (m env) (Post K ρ H Q) S
def TB (K : PySem.W.Frag) (m : Sl → M Bool) : TT := fun σ H Q => ∃ ρ S env, WS K ρ S H ∧ EnvR K ρ H σ env ∧ wp (m env) (PostB K ρ H Q) S
def TDs (K : PySem.W.Frag) (m : Sl → M (List D)) : TA := fun σ H Q => ∃ ρ S env, WS K ρ S H ∧ EnvR K ρ H σ env ∧ wp (m env) (PostS K ρ H Q) S
/-- an operator by data -/
def rD (K : PySem.W.Frag) (f : D → D → M D) : R2 := fun v u H Q => ∃ ρ S x y, WS K ρ S H ∧ Rep K ρ H v x ∧ Rep K ρ H u y ∧ wp (f x y) (Post K ρ H Q) S
def rD1 (K : PySem.W.Frag) (f : D → M D) : V → Hp → VK → Prop := fun v H Q => ∃ ρ S x, WS K ρ S H ∧ Rep K ρ H v x ∧ wp (f x) (Post K ρ H Q) S
def rDs (K : PySem.W.Frag) (f : List D → M D) : List V → Hp → VK → Prop := fun vs H Q => ∃ ρ S ds, WS K ρ S H ∧ Reps K ρ H vs ds ∧ wp (f ds) (Post K ρ H Q) S
def rDm (K : PySem.W.Frag) (f : D → List D → M D) : V → List V → Hp → VK → Prop := fun v vs H Q => ∃ ρ S x ds, WS K ρ S H ∧ Rep K ρ H v x ∧ Reps K ρ H vs ds ∧ wp (f x ds) (Post K ρ H Q) S
end
theorem PE.of {X : Cx} {e : Expr} {t t' : TE} (h : PE X e t) (k : ∀ σ H Q, t' σ H Q → t σ H Q) : PE X e t' := ⟨fun pins s σ H Q I hw => h.run pins s σ H Q I (k σ H Q hw)⟩
theorem PT.of {X : Cx} {e : Expr} {t t' : TT} (h : PT X e t) (k : ∀ σ H Q, t' σ H Q → t σ H Q) : PT X e t' := ⟨fun pins s σ H Q I hw => h.run pins s σ H Q I (k σ H Q hw)⟩
theorem PW.of {X : Cx} {e : Expr} {t t' : TT} (h : PW X e t) (k : ∀ σ H Q, t' σ H Q → t σ H Q) : PW X e t' := ⟨fun wh pins s σ H Q I hw => h.run wh pins s σ H Q I (k σ H Q hw)⟩
theorem PA.of {X : Cx} {e : List Expr} {t t' : TA} (h : PA X e t) (k : ∀ σ H Q, t' σ H Q → t σ H Q) : PA X e t' := ⟨fun pos pins s σ H Q I hw => h.run pos pins s σ H Q I (k σ H Q hw)⟩
theorem PS.of {X : Cx} {e : Stmt} {t t' : TS} (h : PS X e t) (k : ∀ D σ H, t' D σ H → t D σ H) : PS X e t' := ⟨fun pins s σ H D I hw => h.run pins s σ H D I (k D σ H hw)⟩
theorem PSs.of {X : Cx} {e : List Stmt} {t t' : TS} (h : PSs X e t) (k : ∀ D σ H, t' D σ H → t D σ H) : PSs X e t' := ⟨fun pins s σ H D I hw => h.run pins s σ H D I (k D σ H hw)⟩
theorem OpR.of {X : Cx} {f : Value → Value → Sem Value} {r r' : R2} (h : OpR X f r) (k : ∀ x y H Q, r' x y H Q → r x y H Q) : OpR X f r' := fun pins s σ H x y v u Q I rx ry q => h pins s σ H x y v u Q I rx ry (k _ _ _ _ q)

/-! ### one thing after another -/
section
variable {K : PySem.W.Frag} {σ : L2.St} {H : Hp}
/-- behind an expression: its datum in the store's new state -/
theorem TD.then_ {m : Sl → M D} {f : D → Sl → M D} {Q : VK} {R : VK} (h : TD K (fun env => do let x ← m env; f x env) σ H Q)
    (k : ∀ ρ S env d v H', WS K ρ S H' → EnvR K ρ H' σ env → Rep K ρ H' v d → wp (f d env) (Post K ρ H' Q) S → R v H') : TD K m σ H R := by
  obtain ⟨ρ, S, env, w, e, h⟩ := h
  rw [wp_bind] at h
  refine ⟨ρ, S, env, w, e, wp_mono h fun d S' q ρ' H' v st w' r => ?_⟩
  exact k ρ' S' env d v H' w' (e.step w st) r (wp_mono q fun d' S'' p => p.step st)
theorem TD.thenB {m : Sl → M D} {f : D → Sl → M Bool} {Q : Bool → Hp → Prop} {R : VK} (h : TB K (fun env => do let x ← m env; f x env) σ H Q)
    (k : ∀ ρ S env d v H', WS K ρ S H' → EnvR K ρ H' σ env → Rep K ρ H' v d → wp (f d env) (PostB K ρ H' Q) S → R v H') : TD K m σ H R := by
  obtain ⟨ρ, S, env, w, e, h⟩ := h
  rw [wp_bind] at h
  refine ⟨ρ, S, env, w, e, wp_mono h fun d S' q ρ' H' v st w' r => ?_⟩
  exact k ρ' S' env d v H' w' (e.step w st) r (wp_mono q fun d' S'' p => p.step st)
theorem TB.then_ {m : Sl → M Bool} {f : Bool → Sl → M D} {Q : VK} {R : Bool → Hp → Prop} (h : TD K (fun env => do let x ← m env; f x env) σ H Q)
    (k : ∀ ρ S env d H', WS K ρ S H' → EnvR K ρ H' σ env → wp (f d env) (Post K ρ H' Q) S → R d H') : TB K m σ H R := by
  obtain ⟨ρ, S, env, w, e, h⟩ := h
  rw [wp_bind] at h
  refine ⟨ρ, S, env, w, e, wp_mono h fun d S' q ρ' H' st w' => ?_⟩
  exact k ρ' S' env d H' w' (e.step w st) (wp_mono q fun d' S'' p => p.step st)
theorem TB.thenB {m : Sl → M Bool} {f : Bool → Sl → M Bool} {Q : Bool → Hp → Prop} {R : Bool → Hp → Prop} (h : TB K (fun env => do let x ← m env; f x env) σ H Q)
    (k : ∀ ρ S env d H', WS K ρ S H' → EnvR K ρ H' σ env → wp (f d env) (PostB K ρ H' Q) S → R d H') : TB K m σ H R := by
  obtain ⟨ρ, S, env, w, e, h⟩ := h
  rw [wp_bind] at h
  refine ⟨ρ, S, env, w, e, wp_mono h fun d S' q ρ' H' st w' => ?_⟩
  exact k ρ' S' env d H' w' (e.step w st) (wp_mono q fun d' S'' p => p.step st)
theorem TDs.then_ {m : Sl → M (List D)} {f : List D → Sl → M D} {Q : VK} {R : List V → Hp → Prop} (h : TD K (fun env => do let x ← m env; f x env) σ H Q)
    (k : ∀ ρ S env d v H', WS K ρ S H' → EnvR K ρ H' σ env → Reps K ρ H' v d → wp (f d env) (Post K ρ H' Q) S → R v H') : TDs K m σ H R := by
  obtain ⟨ρ, S, env, w, e, h⟩ := h
  rw [wp_bind] at h
  refine ⟨ρ, S, env, w, e, wp_mono h fun d S' q ρ' H' v st w' r => ?_⟩
  exact k ρ' S' env d v H' w' (e.step w st) r (wp_mono q fun d' S'' p => p.step st)
theorem TD.thenS {m : Sl → M D} {f : D → Sl → M (List D)} {Q : List V → Hp → Prop} {R : VK} (h : TDs K (fun env => do let x ← m env; f x env) σ H Q)
    (k : ∀ ρ S env d v H', WS K ρ S H' → EnvR K ρ H' σ env → Rep K ρ H' v d → wp (f d env) (PostS K ρ H' Q) S → R v H') : TD K m σ H R := by
  obtain ⟨ρ, S, env, w, e, h⟩ := h
  rw [wp_bind] at h
  refine ⟨ρ, S, env, w, e, wp_mono h fun d S' q ρ' H' v st w' r => ?_⟩
  exact k ρ' S' env d v H' w' (e.step w st) r (wp_mono q fun d' S'' p => p.step st)
theorem TDs.thenS {m : Sl → M (List D)} {f : List D → Sl → M (List D)} {Q : List V → Hp → Prop} {R : List V → Hp → Prop} (h : TDs K (fun env => do let x ← m env; f x env) σ H Q)
    (k : ∀ ρ S env d v H', WS K ρ S H' → EnvR K ρ H' σ env → Reps K ρ H' v d → wp (f d env) (PostS K ρ H' Q) S → R v H') : TDs K m σ H R := by
  obtain ⟨ρ, S, env, w, e, h⟩ := h
  rw [wp_bind] at h
  refine ⟨ρ, S, env, w, e, wp_mono h fun d S' q ρ' H' v st w' r => ?_⟩
  exact k ρ' S' env d v H' w' (e.step w st) r (wp_mono q fun d' S'' p => p.step st)
/-- two expressions and an operator -/
theorem TD.op {ma mb : Sl → M D} {f : D → D → M D} {Q : VK} (h : TD K (fun env => do let x ← ma env; let y ← mb env; f x y) σ H Q) : tOp (rD K f) (TD K ma) (TD K mb) σ H Q := by
  refine TD.then_ (m := ma) (f := fun x env => do let y ← mb env; f x y) h fun ρ S env x v H' w e r h => ?_
  rw [wp_bind] at h
  refine ⟨ρ, S, env, w, e, wp_mono h fun y S' q ρ' H'' u st w' r' => ?_⟩
  exact ⟨ρ', S', x, y, w', r.step w st, r', wp_mono q fun d' S'' p => p.step st⟩
theorem TD.un {ma : Sl → M D} {f : D → M D} {Q : VK} (h : TD K (fun env => do let x ← ma env; f x) σ H Q) : tUn (rD1 K f) (TD K ma) σ H Q :=
  TD.then_ (m := ma) (f := fun x _ => f x) h fun ρ S env x v H' w e r h => ⟨ρ, S, x, w, r, h⟩
theorem TDs.cb {ma : Sl → M (List D)} {f : List D → M D} {Q : VK} (h : TD K (fun env => do let x ← ma env; f x) σ H Q) : tCB (rDs K f) (TDs K ma) σ H Q :=
  TDs.then_ (m := ma) (f := fun x _ => f x) h fun ρ S env x v H' w e r h => ⟨ρ, S, x, w, r, h⟩
end
end Dl
end

section
set_option Elab.async false
set_option linter.all false
set_option maxRecDepth 100000
set_option maxHeartbeats 1000000
/-! Dl: the operations are the machine's -/
namespace Dl
open PySem PySem.Spec PyProof.Rows L2
section
variable {X : Cx} {K : PySem.W.Frag} {ρ : List Addr} {S : Store} {H : Hp} {Q : VK}
theorem Post.int {i : Int} (w : WS K ρ S H) (p : Post K ρ H Q (.int i) S) : Q (.int i) H := p ρ H _ .refl w (.int i)
theorem Post.bl {i : Bool} (w : WS K ρ S H) (p : Post K ρ H Q (.bl i) S) : Q (.bl i) H := p ρ H _ .refl w (.bl i)
theorem Post.str {i : Str} (w : WS K ρ S H) (p : Post K ρ H Q (.str i) S) : Q (.str i) H := p ρ H _ .refl w (.str i)
theorem Post.non (w : WS K ρ S H) (p : Post K ρ H Q .non S) : Q .non H := p ρ H _ .refl w .non
theorem Post.same {v : V} {d : D} (w : WS K ρ S H) (r : Rep K ρ H v d) (p : Post K ρ H Q d S) : Q v H := p ρ H _ .refl w r
/-- a new tuple -/
theorem isX_key {ds : List D} (h : isKey ds = true) : isX ds = false := by
  unfold isKey keyI at h
  cases ds with
  | nil => simp [intsOf] at h
  | cons d ds => cases d <;> first | rfl | simp [intsOf] at h
theorem isX_app (a b : List D) : isX (a ++ b) = (isX a && isX b) := List.all_append
theorem isX_rep {x : List D} : ∀ {n : Nat}, 0 < n → isX x = false → isX (List.replicate n x).flatten = false
  | n + 1, _, h => by rw [List.replicate_succ, List.flatten_cons, isX_app, h, Bool.false_and]
theorem Rep.newT {xs : List V} {ds : List D} {a : Addr} {o : Obj} (r : Reps K ρ (upd H a (tupO (isX ds) o xs)) xs ds) (hd : o.dict = none) : Rep K ρ (upd H a (tupO (isX ds) o xs)) (.ref a) (.tup ds) := by
  refine .tup ?_ (fun hk => ?_) (fun hx => ?_) r
  · unfold tupO
    split
    · exact .inl (.inr ⟨o, upd_same⟩)
    · exact .inl (.inl upd_same)
  · rw [isX_key hk]; exact upd_same
  · rw [hx]; exact .inl ⟨o, xs, upd_same, hd⟩
theorem Post.tup {xs : List V} {ds : List D} (w : WS K ρ S H) (r : Reps K ρ H xs ds) (p : Post K ρ H Q (.tup ds) S) : NewT (isX ds) xs H Q := fun a o ha hd =>
  have r' : Reps K (ρ ++ []) (upd H a (tupO (isX ds) o xs)) xs ds := r.kp (Kp.new ha)
  p ρ _ _ (.tup ha) (w.tup ha) (Rep.newT (by rw [List.append_nil] at r'; exact r') hd)
/-- a new tuple of which no more is told -/
theorem Post.tup0 {xs : List V} {ds : List D} (w : WS K ρ S H) (r : Reps K ρ H xs ds) (hx : isX ds = false) (p : Post K ρ H Q (.tup ds) S) {a : Addr} (ha : H a = none) : Q (.ref a) (upd H a (.tup xs)) := by
  have := Post.tup w r p a (tupOf #[]) ha rfl
  rw [hx] at this
  exact this
/-- a new list -/
theorem Post.lst {xs : List V} {ds : List D} (w : WS K ρ S H) (r : Reps K ρ H xs ds) (p : Post K ρ H Q (.ref S.length) (S ++ [.lst ds])) {a : Addr} (ha : H a = none) : Q (.ref a) (upd H a (.lst xs)) :=
  p _ _ _ (.alloc ha) (w.alloc ha ⟨xs, upd_same, r.kp (Kp.new ha)⟩) (Rep.new w)
/-- a list is changed -/
theorem Post.set {xs xs0 : List V} {ds : List D} {l : Nat} {a : Addr} {v : V} {d : D} (w : WS K ρ S H) (h : ρ[l]? = some a) (h0 : H a = some (.lst xs0)) (r : Reps K ρ H xs ds) (rv : Rep K ρ H v d) (p : Post K ρ H Q d (S.set l (.lst ds))) : Q v (upd H a (.lst xs)) := by
  have st := Step.set w (u := .lst xs) h h0 (fun _ _ z => nomatch z)
  have r' : Reps K (ρ ++ []) (upd H a (.lst xs)) xs ds := r.kp (st.kp w)
  rw [List.append_nil] at r'
  exact p ρ _ _ st (w.set h h0 (fun _ _ z => nomatch z) ⟨xs, upd_same, r'⟩) (rv.step w st)
theorem Rep.int_ {v : V} {i : Int} (r : Rep K ρ H v (.int i)) : v = .int i := by cases r; rfl
theorem Rep.str_ {v : V} {i : Str} (r : Rep K ρ H v (.str i)) : v = .str i := by cases r; rfl
theorem Rep.bl_ {v : V} {i : Bool} (r : Rep K ρ H v (.bl i)) : v = .bl i := by cases r; rfl
theorem Rep.non_ {v : V} (r : Rep K ρ H v .non) : v = .non := by cases r; rfl
theorem Rep.tup_ {v : V} {ds : List D} (r : Rep K ρ H v (.tup ds)) : ∃ a xs, v = .ref a ∧ SqT K H a xs ∧ Reps K ρ H xs ds := by cases r; exact ⟨_, _, rfl, by assumption, by assumption⟩
theorem Rep.x_ {v : V} {ds : List D} (r : Rep K ρ H v (.tup ds)) (hx : isX ds = true) : ∃ a xs, v = .ref a ∧ SqT K H a xs ∧ TupX K H a ∧ Reps K ρ H xs ds := by
  cases r with
  | tup h k x r => exact ⟨_, _, rfl, h, x hx, r⟩
theorem Rep.key_ {v : V} {ds : List D} (r : Rep K ρ H v (.tup ds)) (hk : isKey ds = true) : ∃ a xs, v = .ref a ∧ H a = some (.tup xs) ∧ Reps K ρ H xs ds := by
  cases r with
  | tup h k _ r => exact ⟨_, _, rfl, k hk, r⟩
theorem Rep.ref_ {v : V} {l : Nat} (r : Rep K ρ H v (.ref l)) : ∃ a, v = .ref a ∧ ρ[l]? = some a := by cases r; exact ⟨_, rfl, by assumption⟩
theorem Rep.ro_ {v : V} {ds : List D} (r : Rep K ρ H v (.ro ds)) : ∃ a xs, v = .ref a ∧ SqF K H a xs ∧ Reps K ρ H xs ds := by cases r; exact ⟨_, _, rfl, by assumption, by assumption⟩
theorem and2 {a b : Bool} (h : (a && b) = true) : a = true ∧ b = true := Bool.and_eq_true_iff.mp h
theorem dec {p : Prop} [Decidable p] (h : decide p = true) : p := of_decide_eq_true h

theorem foldl_cat (x : Array Nat) : ∀ (n : Nat) (a : Array Nat), (List.replicate n x).foldl (· ++ ·) a = (a.toList ++ (List.replicate n x.toList).flatten).toArray
  | 0, a => by simp
  | n + 1, a => by
    rw [List.replicate_succ, List.foldl_cons, foldl_cat x n, List.replicate_succ, List.flatten_cons]
    simp
theorem repS_eq (x : Str) (n : Nat) : (⟨(List.replicate n x.cps).foldl (· ++ ·) #[]⟩ : Str) = repS x n := by
  unfold repS
  rw [foldl_cat]
  simp
theorem str_mk (x : Str) : (⟨x.cps.toList.toArray⟩ : Str) = x := by cases x; simp
theorem flatten_nil : ∀ n : Nat, (List.replicate n ([] : List Nat)).flatten = []
  | 0 => rfl
  | n + 1 => by rw [List.replicate_succ, List.flatten_cons, flatten_nil n, List.nil_append]
theorem op_repS : OpR X (binaryOp .Mult) (fun v u H Q => ∃ (x : Str) (k : Int), v = .str x ∧ u = .int k ∧ 0 ≤ k ∧ k ≤ 1000 ∧ x.length ≤ 1000 ∧ Q (.str (repS x k.toNat)) H) := by
  intro pins s σ H v u vv uu Q I rv ru h
  obtain ⟨x, k, rfl, rfl, h1, h2, h3, q⟩ := h
  obtain ⟨t, rfl⟩ := rv
  obtain ⟨t', rfl⟩ := ru
  refine PySem.P.mul_str ?_ (fun c1 _ => ?_) (fun _ _ => ?_) ?_
  · rw [decide_eq_false (by omega), decide_eq_false (by omega)]; rfl
  · have h4 : (x.length : Int) * k ≤ 1000 * 1000 := Int.mul_le_mul (by omega) h2 h1 (by decide)
    have h5 : (x.length : Int) ≤ (2 ^ 63 - 1) / k := Int.le_ediv_of_mul_le (by omega) (by omega)
    omega
  · refine decide_eq_false ?_
    have : x.length * k.toNat ≤ 1000 * 1000 := Nat.mul_le_mul h3 (by omega)
    rw [sizeLine_eq]
    omega
  · by_cases c1 : k < 1
    · rw [if_pos c1]
      have e : repS x k.toNat = Str.empty := by
        have : k.toNat = 0 := by omega
        rw [this]; rfl
      rw [e] at q
      exact ⟨by decide, .str _, H, I.tok _, ⟨_, rfl⟩, q⟩
    · rw [if_neg c1]
      by_cases c2 : (k == 1 || x.length == 0) = true
      · rw [if_pos c2]
        have e : repS x k.toNat = x := by
          rcases Bool.or_eq_true_iff.mp c2 with c | c
          · have : k.toNat = 1 := by have := eq_of_beq c; omega
            rw [this]
            unfold repS
            simp
          · have e0 : x.cps.toList = [] := by
              have h6 : x.cps.size = 0 := eq_of_beq c
              exact List.eq_nil_of_length_eq_zero (by rw [Array.length_toList]; exact h6)
            unfold repS
            rw [e0, flatten_nil, ← e0, str_mk]
        rw [e] at q
        exact ⟨.str x, H, I, ⟨_, rfl⟩, q⟩
      · rw [if_neg c2, repS_eq]
        refine ⟨?_, .str _, H, I.tok _, ⟨_, rfl⟩, q⟩
        have : x.length * k.toNat ≤ 1000 * 1000 := Nat.mul_le_mul h3 (by omega)
        have e : (repS x k.toNat).length = x.length * k.toNat := by
          unfold repS
          show (List.replicate k.toNat x.cps.toList).flatten.toArray.size = x.cps.size * k.toNat
          simp [Nat.mul_comm]
        rw [e, sizeLine_eq]
        omega
theorem bop_ok (o : Operator) : OpR X (binaryOp o) (rD X.K (bop o)) := by
  intro pins s σ H v u vv uu Q I rv ru h
  obtain ⟨ρ, S, x, y, w, rx, ry, h⟩ := h
  unfold bop at h
  split at h
  · -- int + int
    cases rx.int_; cases ry.int_
    exact op_add pins s σ H _ _ _ _ Q I rv ru ⟨_, _, rfl, rfl, Post.int w h⟩
  · -- tup + tup
    obtain ⟨a, xs, rfl, hx, r1⟩ := rx.tup_
    obtain ⟨b, ys, rfl, hy, r2⟩ := ry.tup_
    simp only [wp_bind, wp_need, wp_pure] at h
    obtain ⟨hl, h⟩ := h
    have hz := dec hl
    rw [← r1.length, ← r2.length] at hz
    refine op_catX pins s σ H _ _ _ _ Q I rv ru ⟨a, b, xs, ys, rfl, rfl, hx, hy, hz, fun e => ?_, fun _ e => ?_, fun _ _ => ⟨_, Post.tup w (r1.append r2) h⟩⟩
    · rw [r1.nil_iff.mp e, List.nil_append] at h
      exact Post.same w ry h
    · rw [r2.nil_iff.mp e, List.append_nil] at h
      exact Post.same w rx h
  · -- list + list
    obtain ⟨a, rfl, h1⟩ := rx.ref_
    obtain ⟨b, rfl, h2⟩ := ry.ref_
    simp only [wp_bind, wp_getO] at h
    obtain ⟨o1, e1, o2, e2, h⟩ := h
    split at h
    · obtain ⟨xs, g1, r1⟩ := w.lst h1 e1
      obtain ⟨ys, g2, r2⟩ := w.lst h2 e2
      simp only [wp_bind, wp_need, wp_newO] at h
      obtain ⟨hl, h⟩ := h
      have hz := dec hl
      rw [← r1.length, ← r2.length] at hz
      exact op_cat pins s σ H _ _ _ _ Q I rv ru ⟨a, b, xs, ys, rfl, rfl, g1, g2, hz, fun p hp => Post.lst w (r1.append r2) h hp⟩
    · exact h.elim
  · -- str + str
    cases rx.str_; cases ry.str_
    simp only [wp_bind, wp_need, wp_pure] at h
    exact op_add_str pins s σ H _ _ _ _ Q I rv ru ⟨_, _, rfl, rfl, dec h.1, Post.str w h.2⟩
  · -- int - int
    cases rx.int_; cases ry.int_
    exact op_sub pins s σ H _ _ _ _ Q I rv ru ⟨_, _, rfl, rfl, Post.int w h⟩
  · -- int * int
    cases rx.int_; cases ry.int_
    simp only [wp_bind, wp_need, wp_pure] at h
    exact op_mulW pins s σ H _ _ _ _ Q I rv ru ⟨_, _, rfl, rfl, of_decide_eq_true (p := _ < _) h.1, Post.int w h.2⟩
  · -- tup * int
    obtain ⟨a, xs, rfl, hx, r1⟩ := rx.tup_
    cases ry.int_
    simp only [wp_bind, wp_need, wp_pure] at h
    obtain ⟨hl, h⟩ := h
    rename_i x k
    obtain ⟨hl, c4⟩ := and2 hl
    obtain ⟨hl, c3⟩ := and2 hl
    obtain ⟨c1, c2⟩ := and2 hl
    have c1 : isX x = false := by simpa using c1
    have c2 := dec c2; have c3 := dec c3; have c4 := dec c4
    by_cases hk : k = 1
    · subst hk
      refine op_repT1 pins s σ H _ _ _ _ Q I rv ru ⟨a, xs, rfl, rfl, hx, ?_⟩
      have e : (List.replicate (1 : Int).toNat x).flatten = x := by
        show (List.replicate 1 x).flatten = x
        simp
      rw [e] at h
      exact Post.same w rx h
    · exact op_repT pins s σ H _ _ _ _ Q I rv ru ⟨a, k, xs, rfl, rfl, hx, (fun e => by rw [r1.nil_iff.mp e] at c1; cases c1), by omega, c3, by rw [r1.length]; exact c4, fun p hp => Post.tup0 w (r1.repl k.toNat) (isX_rep (by omega) c1) h hp⟩
  · -- list * int
    obtain ⟨a, rfl, h1⟩ := rx.ref_
    cases ry.int_
    simp only [wp_bind, wp_getO] at h
    obtain ⟨o1, e1, h⟩ := h
    split at h
    · obtain ⟨xs, g1, r1⟩ := w.lst h1 e1
      simp only [wp_bind, wp_need, wp_newO] at h
      obtain ⟨hl, h⟩ := h
      obtain ⟨hl, c3⟩ := and2 hl
      obtain ⟨c1, c2⟩ := and2 hl
      have c3 := dec c3
      rw [← r1.length] at c3
      exact op_rep pins s σ H _ _ _ _ Q I rv ru ⟨a, _, xs, rfl, rfl, g1, dec c1, dec c2, c3, fun p hp => Post.lst w (r1.repl _) h hp⟩
    · exact h.elim
  · -- str * int
    cases rx.str_; cases ry.int_
    simp only [wp_bind, wp_need, wp_pure] at h
    obtain ⟨hl, c3⟩ := and2 h.1
    obtain ⟨c1, c2⟩ := and2 hl
    exact op_repS pins s σ H _ _ _ _ Q I rv ru ⟨_, _, rfl, rfl, dec c1, dec c2, dec c3, Post.str w h.2⟩
  · -- int // int
    cases rx.int_; cases ry.int_
    simp only [wp_bind, wp_need, wp_pure] at h
    obtain ⟨c1, c2⟩ := and2 h.1
    have q := Post.int w h.2
    obtain ⟨t, rfl⟩ := rv
    obtain ⟨t', rfl⟩ := ru
    exact floordiv_int (dec c1) ⟨.int _, H, I.tok _, ⟨_, rfl⟩, q⟩ (.inl (PyProof.noPylong_of_log2 (dec c2)))
  · cases rx.int_; cases ry.int_
    simp only [wp_bind, wp_need, wp_pure] at h
    exact op_modN pins s σ H _ _ _ _ Q I rv ru ⟨_, _, rfl, rfl, dec h.1, Post.int w h.2⟩
  · cases rx.int_; cases ry.int_
    simp only [wp_bind, wp_need, wp_pure] at h
    obtain ⟨hl, c3⟩ := and2 h.1
    obtain ⟨c1, c2⟩ := and2 hl
    exact op_pow pins s σ H _ _ _ _ Q I rv ru ⟨_, _, rfl, rfl, ⟨dec c1, dec c2, dec c3⟩, Post.int w h.2⟩
  · cases rx.int_; cases ry.int_
    simp only [wp_bind, wp_need, wp_pure] at h
    obtain ⟨hl, c3⟩ := and2 h.1
    obtain ⟨c1, c2⟩ := and2 hl
    exact op_shl pins s σ H _ _ _ _ Q I rv ru ⟨_, _, rfl, rfl, ⟨dec c1, dec c2, dec c3⟩, Post.int w h.2⟩
  · exact h.elim

/-! ### comparisons -/
mutual
theorem Rep.dp {w : WS K ρ S H} : ∀ {v : V} (d : D) {p : PyData}, Rep K ρ H v d → pyOf d = some p → Dp K H v p
  | _, .non, p, r, e => by simp [pyOf] at e; subst e; cases r.non_; exact .non
  | _, .bl b, p, r, e => by simp [pyOf] at e; subst e; cases r.bl_; exact .bl _
  | _, .int b, p, r, e => by simp [pyOf] at e; subst e; cases r.int_; exact .int _
  | _, .str b, p, r, e => by simp [pyOf] at e; subst e; cases r.str_; exact .str _
  | _, .tup ds, p, r, e => by
    simp [pyOf] at e
    obtain ⟨ps, e1, rfl⟩ := e
    obtain ⟨a, xs, rfl, h1, h2⟩ := r.tup_
    exact .tup h1 (Reps.dp (w := w) ds h2 e1)
  | _, .ref _, p, r, e => by simp [pyOf] at e
  | _, .ro _, p, r, e => by simp [pyOf] at e
theorem Reps.dp {w : WS K ρ S H} : ∀ {vs : List V} (ds : List D) {ps : List PyData}, Reps K ρ H vs ds → pysOf ds = some ps → DpAll K H vs ps
  | _, [], ps, r, e => by simp [pysOf] at e; subst e; cases r; exact .nil
  | _, d :: ds, ps, r, e => by
    cases r with
    | cons h r =>
      simp only [pysOf] at e
      cases e1 : pyOf d with
      | none => rw [e1] at e; simp at e
      | some p =>
        cases e2 : pysOf ds with
        | none => rw [e1, e2] at e; simp at e
        | some qs =>
          rw [e1, e2] at e
          simp at e
          subst e
          exact .cons (Rep.dp (w := w) d h e1) (Reps.dp (w := w) ds r e2)
end
theorem Rep.dpAt (w : WS K ρ S H) {v : V} {d : D} {p : PyData} (r : Rep K ρ H v d) (e : pyAt S d = some p) : Dp K H v p := by
  cases d with
  | ref l =>
    obtain ⟨a, rfl, h⟩ := r.ref_
    simp only [pyAt] at e
    split at e
    · rename_i ds q
      obtain ⟨xs, h1, h2⟩ := w.lst h q
      simp at e
      obtain ⟨ps, e1, rfl⟩ := e
      exact .lst (SqL.of h1) (Reps.dp (w := w) ds h2 e1)
    · cases e
  | _ => exact Rep.dp (w := w) _ r e
theorem Reps.dpsAt (w : WS K ρ S H) : ∀ {vs : List V} {ds : List D} {ps : List PyData}, Reps K ρ H vs ds → pysAt S ds = some ps → DpAll K H vs ps
  | _, _, ps, .nil, e => by simp [pysAt] at e; subst e; exact .nil
  | _, _, ps, .cons (d := d) (ds := ds) h r, e => by
    simp only [pysAt] at e
    cases e1 : pyAt S d with
    | none => rw [e1] at e; simp at e
    | some p =>
      cases e2 : pysAt S ds with
      | none => rw [e1, e2] at e; simp at e
      | some qs =>
        rw [e1, e2] at e
        simp at e
        subst e
        exact .cons (h.dpAt w e1) (Reps.dpsAt w r e2)
theorem remAt_some {xs : List D} {d : D} {S S1 : Store} {j : Nat} (e : remAt xs d S = some (j, S1)) : S1 = S ∧ ∃ ps p, pysAt S xs = some ps ∧ pyAt S d = some p ∧ SeqAt.shaped (.list ps) = true ∧ SeqAt.shaped p = true ∧ (ps.findIdx? fun z => PyData.eqv z p) = some j := by
  unfold remAt at e
  split at e
  · rename_i ps p e1 e2
    split at e
    · rename_i hs
      split at e
      · rename_i j' e3
        cases e
        obtain ⟨s1, s2⟩ := and2 hs
        exact ⟨rfl, ps, p, e1, e2, s1, s2, e3⟩
      · cases e
    · cases e
  · cases e
theorem eqD_wp {a b : D} {R : Bool → Store → Prop} (h : wp (eqD a b) R S) : ∃ x y, pyAt S a = some x ∧ pyAt S b = some y ∧ SeqAt.shaped x = true ∧ SeqAt.shaped y = true ∧ R (PyData.eqv x y) S := by
  unfold wp eqD at h
  cases e1 : pyAt S a with
  | none => simp [e1] at h
  | some x =>
    cases e2 : pyAt S b with
    | none => simp [e1, e2] at h
    | some y =>
      simp only [e1, e2] at h
      by_cases hs : (SeqAt.shaped x && SeqAt.shaped y) = true
      · rw [if_pos hs] at h
        exact ⟨x, y, rfl, rfl, (and2 hs).1, (and2 hs).2, h⟩
      · rw [if_neg hs] at h
        exact h.elim
theorem getL_wp {d : D} {R : List D → Store → Prop} (w : WS K ρ S H) {v : V} (r : Rep K ρ H v d) (h : wp (getL d) R S) : ∃ a xs ds, v = .ref a ∧ SqL K H a xs ∧ Reps K ρ H xs ds ∧ R ds S := by
  cases d with
  | ref l =>
    obtain ⟨a, rfl, h1⟩ := r.ref_
    simp only [getL, wp_bind, wp_getO] at h
    obtain ⟨o, e, h⟩ := h
    split at h
    · obtain ⟨xs, g, r1⟩ := w.lst h1 e
      exact ⟨a, xs, _, rfl, SqL.of g, r1, h⟩
    · exact h.elim
  | ro ds =>
    obtain ⟨a, xs, rfl, h1, r1⟩ := r.ro_
    exact ⟨a, xs, ds, rfl, h1.sql, r1, h⟩
  | _ => exact h.elim
theorem getS_wp {d : D} {R : List D → Store → Prop} (w : WS K ρ S H) {v : V} (r : Rep K ρ H v d) (h : wp (getS d) R S) : ∃ a xs ds, v = .ref a ∧ (SqL K H a xs ∨ SqT K H a xs) ∧ Reps K ρ H xs ds ∧ R ds S := by
  cases d with
  | tup ds =>
    obtain ⟨a, xs, rfl, h1, r1⟩ := r.tup_
    exact ⟨a, xs, ds, rfl, .inr h1, r1, h⟩
  | ref l =>
    obtain ⟨a, xs, ds, e, h1, h2, h3⟩ := getL_wp w r (show wp (getL (.ref l)) R S from h)
    exact ⟨a, xs, ds, e, .inl h1, h2, h3⟩
  | ro l =>
    obtain ⟨a, xs, ds, e, h1, h2, h3⟩ := getL_wp w r (show wp (getL (.ro l)) R S from h)
    exact ⟨a, xs, ds, e, .inl h1, h2, h3⟩
  | _ => exact h.elim
theorem Rep.isNon {v : V} {d : D} (r : Rep K ρ H v d) : decide (v = .non) = decide (d = .non) := by
  cases r <;> simp
abbrev rC (K : PySem.W.Frag) (o : CmpOp) : R2 := rD K fun x y => do let r ← cop o x y; pure (.bl r)
theorem one_sign {x : Str} {c : Nat} (h : x.cps.toList = [c]) : x = ⟨#[c]⟩ := by
  obtain ⟨⟨l⟩⟩ := x
  cases h
  rfl
theorem cop_ok (hu : X.A.units + 64 < cLine) (o : CmpOp) : OpR X (compareOp o) (rC X.K o) := by
  intro pins s σ H v u vv uu Q I rv ru h
  obtain ⟨ρ, S, x, y, w, rx, ry, h⟩ := h
  rw [wp_bind] at h
  simp only [wp_pure] at h
  unfold cop at h
  split at h
  · cases rx.int_; cases ry.int_
    exact op_lt pins s σ H _ _ _ _ Q I rv ru ⟨_, _, rfl, rfl, Post.bl w h⟩
  · cases rx.int_; cases ry.int_
    exact op_le pins s σ H _ _ _ _ Q I rv ru ⟨_, _, rfl, rfl, Post.bl w h⟩
  · cases rx.int_; cases ry.int_
    exact op_gt pins s σ H _ _ _ _ Q I rv ru ⟨_, _, rfl, rfl, Post.bl w h⟩
  · cases rx.int_; cases ry.int_
    exact op_ge pins s σ H _ _ _ _ Q I rv ru ⟨_, _, rfl, rfl, Post.bl w h⟩
  · split at h
    · rename_i e1 e2
      obtain ⟨a, xs, rfl, hx, r1⟩ := rx.tup_
      obtain ⟨b, ys, rfl, hy, r2⟩ := ry.tup_
      rw [r1.ints e1] at hx
      rw [r2.ints e2] at hy
      exact op_ltU (by omega) pins s σ H _ _ _ _ Q I rv ru ⟨a, b, _, _, rfl, rfl, hx, hy, Post.bl w h⟩
    · exact h.elim
  · split at h
    · rename_i e1 e2
      obtain ⟨a, xs, rfl, hx, r1⟩ := rx.tup_
      obtain ⟨b, ys, rfl, hy, r2⟩ := ry.tup_
      rw [r1.ints e1] at hx
      rw [r2.ints e2] at hy
      exact op_gtT (by omega) pins s σ H _ _ _ _ Q I rv ru ⟨a, b, _, _, rfl, rfl, hx, hy, Post.bl w h⟩
    · exact h.elim
  · simp only [wp_bind, wp_getO] at h
    obtain ⟨a, rfl, h1⟩ := rx.ref_
    obtain ⟨b, rfl, h2⟩ := ry.ref_
    obtain ⟨o1, e1, o2, e2, h⟩ := h
    split at h
    · obtain ⟨xs, g1, r1⟩ := w.lst h1 e1
      obtain ⟨ys, g2, r2⟩ := w.lst h2 e2
      split at h
      · rename_i e3 e4
        rw [r1.ints e3] at g1
        rw [r2.ints e4] at g2
        exact op_ltL (by omega) pins s σ H _ _ _ _ Q I rv ru ⟨a, b, _, _, rfl, rfl, SqL.of g1, SqL.of g2, Post.bl w h⟩
      · exact h.elim
    · exact h.elim
  · obtain ⟨p, q, e1, e2, s1, s2, h⟩ := eqD_wp h
    exact op_eqD hu pins s σ H _ _ _ _ Q I rv ru ⟨p, q, rx.dpAt w e1, ry.dpAt w e2, s1, s2, Post.bl w h⟩
  · rw [wp_bind] at h
    obtain ⟨p, q, e1, e2, s1, s2, h⟩ := eqD_wp h
    exact op_neD hu pins s σ H _ _ _ _ Q I rv ru ⟨p, q, rx.dpAt w e1, ry.dpAt w e2, s1, s2, Post.bl w h⟩
  · cases ry.non_
    exact op_isN pins s σ H _ _ _ _ Q I rv ru ⟨rfl, by rw [rx.isNon]; exact Post.bl w h⟩
  · cases ry.non_
    exact op_notN pins s σ H _ _ _ _ Q I rv ru ⟨rfl, by rw [rx.isNon]; exact Post.bl w h⟩
  · cases rx.bl_; cases ry.bl_
    exact op_isBl pins s σ H _ _ _ _ Q I rv ru ⟨_, _, rfl, rfl, Post.bl w h⟩
  · cases rx.bl_; cases ry.bl_
    exact op_notBl pins s σ H _ _ _ _ Q I rv ru ⟨_, _, rfl, rfl, Post.bl w h⟩
  · cases rx.str_; cases ry.str_
    split at h
    · rename_i e
      exact op_in_sign pins s σ H _ _ _ _ Q I rv ru ⟨_, _, congrArg V.str (one_sign e), rfl, Post.bl w h⟩
    · exact h.elim
  · cases rx.str_; cases ry.str_
    split at h
    · rename_i e
      exact op_notIn_sign pins s σ H _ _ _ _ Q I rv ru ⟨_, _, congrArg V.str (one_sign e), rfl, Post.bl w h⟩
    · exact h.elim
  · rw [wp_bind] at h
    obtain ⟨a, xs, ds, rfl, hs, r2, h⟩ := getS_wp w ry h
    simp only [wp_bind, wp_need, wp_pure] at h
    obtain ⟨f1, f2⟩ := and2 h.1
    exact op_in_seq pins s σ H _ _ _ _ Q I rv ru ⟨a, xs, rfl, hs, rx.flatV f1, r2.allFlat f2, by
      rw [if_neg Bool.false_ne_true, Reps.inF rx f1 r2 f2]; exact Post.bl w h.2⟩
  · rw [wp_bind] at h
    obtain ⟨a, xs, ds, rfl, hs, r2, h⟩ := getS_wp w ry h
    simp only [wp_bind, wp_need, wp_pure] at h
    obtain ⟨f1, f2⟩ := and2 h.1
    exact op_notIn_seq pins s σ H _ _ _ _ Q I rv ru ⟨a, xs, rfl, hs, rx.flatV f1, r2.allFlat f2, by
      rw [if_pos rfl, Reps.inF rx f1 r2 f2]; exact Post.bl w h.2⟩
  · exact h.elim
/-! ### truth -/
theorem Reps.emp {xs : List V} {ds : List D} (r : Reps K ρ H xs ds) : xs.isEmpty = ds.isEmpty := by cases r <;> rfl
theorem truth_ok (w : WS K ρ S H) {v : V} {d : D} (r : Rep K ρ H v d) {R : Bool → Store → Prop} (h : wp (truth d) R S) : ∃ k, TruV K v H k ∧ R k S := by
  cases d with
  | non => cases r.non_; exact ⟨_, rfl, h⟩
  | bl b => cases r.bl_; exact ⟨_, rfl, h⟩
  | int i => cases r.int_; exact ⟨_, rfl, h⟩
  | str x =>
    cases r.str_
    simp only [truth, wp_bind, wp_need, wp_pure] at h
    exact ⟨_, ⟨dec h.1, rfl⟩, h.2⟩
  | tup ds =>
    obtain ⟨a, xs, rfl, h1, r1⟩ := r.tup_
    exact ⟨_, .inr (.inl ⟨xs, h1, rfl⟩), by rw [r1.emp]; exact h⟩
  | ref l =>
    obtain ⟨a, rfl, h1⟩ := r.ref_
    simp only [truth, wp_bind, wp_getO] at h
    obtain ⟨o, e, h⟩ := h
    split at h
    · obtain ⟨xs, g, r1⟩ := w.lst h1 e
      exact ⟨_, .inl ⟨xs, SqL.of g, rfl⟩, by rw [r1.emp]; exact h⟩
    · exact h.elim
  | ro ds =>
    obtain ⟨a, xs, rfl, h1, r1⟩ := r.ro_
    exact ⟨_, .inl ⟨xs, h1.sql, rfl⟩, by rw [r1.emp]; exact h⟩
  | fn x => exact h.elim
/-! ### subscripts, slices -/
theorem Reps.atI {xs : List V} {ds : List D} (r : Reps K ρ H xs ds) {i : Int} {d : D} (e : L2.atI ds i = some d) : ∃ v, L2.atI xs i = some v ∧ Rep K ρ H v d := by
  unfold L2.atI at e ⊢
  rw [r.length]
  cases q : ixN ds.length i with
  | none => rw [q] at e; cases e
  | some j =>
    rw [q] at e
    obtain ⟨v, e1, e2⟩ := r.get (i := j) (d := d) e
    exact ⟨v, e1, e2⟩
theorem ixD_ok : IxR X (rD X.K ixD) := by
  intro value slice pins s σ H v u vv uu Q I rv ru h hs
  obtain ⟨ρ, S, x, y, w, rx, ry, h⟩ := h
  unfold ixD at h
  split at h
  · cases ry.int_
    split at h
    · cases rx.str_
      simp only [wp_bind, wp_need] at h
      obtain ⟨hl, h⟩ := h
      split at h
      · rename_i c e
        exact ix_str value slice pins s σ H _ _ _ _ Q I rv ru ⟨_, _, c, rfl, rfl, dec hl, e, Post.str w h⟩ hs
      · exact h.elim
    · rw [wp_bind] at h
      obtain ⟨a, xs, ds, rfl, hq, r2, h⟩ := getS_wp w rx h
      split at h
      · rename_i d e
        obtain ⟨z, e1, e2⟩ := r2.atI e
        rcases hq with hq | hq
        · exact ix_list value slice pins s σ H _ _ _ _ Q I rv ru ⟨a, xs, _, z, rfl, rfl, hq, e1, Post.same w e2 h⟩ hs
        · exact ix_tup value slice pins s σ H _ _ _ _ Q I rv ru ⟨a, xs, _, z, rfl, rfl, hq, e1, Post.same w e2 h⟩ hs
      · exact h.elim
  · exact h.elim
theorem Reps.cut {xs : List V} {ds : List D} (r : Reps K ρ H xs ds) (lo hi : Option Int) : Reps K ρ H (cutV xs lo hi) (cutD ds lo hi) := by
  unfold cutV cutD
  rw [r.length]
  exact (r.drop _).take _
def rSlD (K : PySem.W.Frag) : V → Option Int → Option Int → Hp → VK → Prop := fun v lo hi H Q => ∃ ρ S x, WS K ρ S H ∧ Rep K ρ H v x ∧ wp (slD x lo hi) (Post K ρ H Q) S
theorem sIx_le_ (n : Nat) (hi : Option Int) : HT.sIx n n hi ≤ n := HT.sIx_le _ _ (Nat.le_refl _) hi
theorem slD_ok : SlR X (rSlD X.K) := by
  intro pins s σ H v vv vl vu lo hi sl Q I rv hs pl pu h
  obtain ⟨ρ, S, x, w, rx, h⟩ := h
  unfold slD at h
  split at h
  · obtain ⟨a, xs, rfl, hx, r1⟩ := rx.tup_
    refine sl_tupX pins s σ H _ _ vl vu lo hi sl Q I rv hs pl pu ⟨a, xs, rfl, hx, fun e => ?_, fun _ => ⟨_, Post.tup w (r1.cut lo hi) h⟩⟩
    rename_i ds
    have ec : cutD ds lo hi = ds := by
      unfold cutD
      rw [r1.length] at e
      rw [e.1, e.2]
      simp
    rw [ec] at h
    exact Post.same w rx h
  · obtain ⟨a, rfl, h1⟩ := rx.ref_
    simp only [wp_bind, wp_getO] at h
    obtain ⟨o1, e1, h⟩ := h
    split at h
    · obtain ⟨xs, g1, r1⟩ := w.lst h1 e1
      exact sl_list pins s σ H _ _ vl vu lo hi sl Q I rv hs pl pu ⟨a, xs, rfl, SqL.of g1, fun p hp => Post.lst w (r1.cut lo hi) h hp⟩
    · exact h.elim
  · obtain ⟨a, xs, rfl, h1, r1⟩ := rx.ro_
    exact sl_list pins s σ H _ _ vl vu lo hi sl Q I rv hs pl pu ⟨a, xs, rfl, h1.sql, fun p hp => Post.lst w (r1.cut lo hi) h hp⟩
  · cases rx.str_
    simp only [wp_bind, wp_need, wp_pure] at h
    exact sl_str pins s σ H _ _ vl vu lo hi sl Q I rv hs pl pu ⟨_, rfl, dec h.1, Post.same w (.str _) h.2⟩
  · exact h.elim
theorem rev_ok {e : Expr} {te : TE} {k : Nat} {p1 p2 p3 pos : Pos} (he : PE X e te) : PE X (.Subscript e (.Slice none none (some (.UnaryOp .USub (.Constant (.int 1) k p1) p2)) p3) pos) (tUn (rD1 X.K revD) te) := by
  refine ⟨fun pins s σ H Q I h => ?_⟩
  refine Subscript_ (thn (he.run pins s σ H _ I h) fun v s1 ⟨x, H1, I1, r1, q1⟩ => ?_)
  obtain ⟨ρ, S, d, w, rx, h⟩ := q1
  have hst : PO X (some (.UnaryOp .USub (.Constant (.int 1) k p1) p2)) (tPart (tUn (rU fun i => .int (-i)) (tC (.int 1)))) := po_some (pe_un un_neg pe_int)
  refine wpAny_Slice (thn (po_none.run pins s1 σ H1 (fun o H2 => o = none ∧ H2 = H1) I1 ⟨rfl, rfl⟩) fun vl s2 ⟨l, H2, I2, pl, el, e2⟩ => ?_)
  subst el e2
  refine thn (po_none.run pins s2 σ H2 (fun o H3 => o = none ∧ H3 = H2) I2 ⟨rfl, rfl⟩) fun vu s3 ⟨u, H3, I3, pu, eu, e3⟩ => ?_
  subst eu e3
  refine thn (hst.run pins s3 σ H3 (fun o H4 => o = some (-1) ∧ H4 = H3) I3 ⟨1, rfl, -1, rfl, rfl, rfl⟩) fun vs s4 ⟨o, H4, I4, ps, eo, e4⟩ => ?_
  subst eo e4
  have I5 : Inv X pins σ H4 { s4 with heap := s4.heap.push { cls := .type "slice", data := .fields #[vl, vu, vs] } } := I4.kept (t' := s4.toks) fun b ob q => Heap.get?_push_of_some _ q
  unfold revD at h
  split at h
  · obtain ⟨a, xs, rfl, hx, r2⟩ := rx.tup_
    cases r1
    obtain ⟨its, r, ht, hz⟩ := I5.tuple hx
    have hlen := r.length
    show wpAny (model X.prog X.w) X.A (subscriptTail e (.Slice none none (some (.UnaryOp .USub (.Constant (.int 1) k p1) p2)) p3) (.ref a) (.ref s4.heap.objs.size)) (EP X pins σ Q) X.xe { s4 with heap := s4.heap.push { cls := .type "slice", data := .fields #[vl, vu, vs] } }
    refine tail_any (ops := [.ref a, .ref s4.heap.objs.size]) ht.typeIs (PyProof.Rows.slot_tuple_getitem.lookup) ?_ (by with_unfolding_all rfl)
    refine getItem_tuple_rev ht (Heap.IsSliceOf.new _ vl vu vs) pl pu ps ?_ (by rw [List.size_toArray]; omega)
    exact newT (h' := s4.heap.push { cls := .type "slice", data := .fields #[vl, vu, vs] }) (t' := s4.toks) I5 (by rw [List.length_reverse]; exact hz) r.reverse (Post.tup w r2.reverse h)
  · obtain ⟨a, rfl, h1⟩ := rx.ref_
    simp only [wp_bind, wp_getO] at h
    obtain ⟨o1, e1, h⟩ := h
    split at h
    · obtain ⟨xs, g1, r2⟩ := w.lst h1 e1
      cases r1
      obtain ⟨its, r, ht, hz⟩ := I5.list (SqL.of g1)
      have hlen := r.length
      show wpAny (model X.prog X.w) X.A (subscriptTail e (.Slice none none (some (.UnaryOp .USub (.Constant (.int 1) k p1) p2)) p3) (.ref a) (.ref s4.heap.objs.size)) (EP X pins σ Q) X.xe { s4 with heap := s4.heap.push { cls := .type "slice", data := .fields #[vl, vu, vs] } }
      refine tail_any (ops := [.ref a, .ref s4.heap.objs.size]) ht.isList.typeIs (PySem.slot_list_getitem.lookup) ?_ (by with_unfolding_all rfl)
      refine wpAny_getItem_list_slice ht.isList (Heap.IsSliceOf.new _ vl vu vs) pl pu ps (by decide) ?_ (by rw [List.size_toArray]; omega)
      rw [PySem.W.krv_pick]
      refine ⟨.ref _, _, I5.laid (t' := s4.toks) (o := .lst xs.reverse) (fun b ob q => Heap.get?_push_of_some _ q) (Nat.le_refl _) ?_, rfl, Post.lst w r2.reverse h (I5.hok.fresh (Nat.le_refl _))⟩
      exact ⟨by rw [List.length_reverse]; exact hz, _, 0, r.reverse, Heap.get?_push_size _ rfl⟩
    · exact h.elim
  · exact h.elim

/-! ### built-ins -/
def Bi.val : Bi → Value
  | .len => .builtin "len" | .sum => .builtin "sum" | .abs => .builtin "abs" | .int => .type "int" | .max => .builtin "max" | .min => .builtin "min"
  | .tuple => .type "tuple" | .list => .type "list" | .all => .builtin "all" | .any => .builtin "any" | .gcd => .builtin "math.gcd" | .str => .type "str"
theorem Reps.one_ {vs : List V} {d : D} (r : Reps K ρ H vs [d]) : ∃ v, vs = [v] ∧ Rep K ρ H v d := by
  cases r with
  | cons h r => cases r; exact ⟨_, rfl, h⟩
theorem Reps.two_ {vs : List V} {d e : D} (r : Reps K ρ H vs [d, e]) : ∃ v u, vs = [v, u] ∧ Rep K ρ H v d ∧ Rep K ρ H u e := by
  cases r with
  | cons h r =>
    cases r with
    | cons g r => cases r; exact ⟨_, _, rfl, h, g⟩
theorem bi_ok (hc : X.calm = true) (b : Bi) : CallR X b.val (rDs X.K (biRun b)) := by
  intro pins s σ H vs us Q I rv h
  obtain ⟨ρ, S, ds, w, r, h⟩ := h
  unfold biRun at h
  split at h
  · obtain ⟨v, rfl, rx⟩ := r.one_
    cases rx.str_
    simp only [wp_bind, wp_need, wp_pure] at h
    exact call_len_str pins s σ H _ us Q I rv ⟨_, rfl, dec h.1, Post.int w h.2⟩
  · obtain ⟨v, rfl, rx⟩ := r.one_
    rw [wp_bind] at h
    obtain ⟨a, xs, ds, rfl, hq, r2, h⟩ := getS_wp w rx h
    exact call_len_seq pins s σ H _ us Q I rv ⟨a, xs, rfl, hq, by rw [r2.length]; exact Post.int w h⟩
  · obtain ⟨v, rfl, rx⟩ := r.one_
    rw [wp_bind] at h
    obtain ⟨a, xs, ds, rfl, hq, r2, h⟩ := getS_wp w rx h
    split at h
    · rename_i ns e
      rw [r2.ints e] at hq
      rcases hq with hq | hq
      · exact cr_sum hc pins s σ H _ us Q I rv ⟨a, ns, rfl, hq, Post.int w h⟩
      · exact cr_sumT hc pins s σ H _ us Q I rv ⟨a, ns, rfl, hq, Post.int w h⟩
    · exact h.elim
  · obtain ⟨v, rfl, rx⟩ := r.one_
    cases rx.int_
    exact call_abs pins s σ H _ us Q I rv ⟨_, rfl, Post.int w h⟩
  · obtain ⟨v, rfl, rx⟩ := r.one_
    cases rx.int_
    exact call_int1 pins s σ H _ us Q I rv (.inl ⟨_, rfl, Post.int w h⟩)
  · obtain ⟨v, rfl, rx⟩ := r.one_
    cases rx.bl_
    exact call_int1 pins s σ H _ us Q I rv (.inr ⟨_, rfl, Post.int w h⟩)
  · obtain ⟨v, rfl, rx⟩ := r.one_
    cases rx.str_
    split at h
    · rename_i e
      simp only [wp_bind, wp_need, wp_pure] at h
      exact call_int_str pins s σ H _ us Q I rv ⟨_, _, rfl, e, dec h.1, Post.int w h.2⟩
    · exact h.elim
  · obtain ⟨v, rfl, rx⟩ := r.one_
    cases rx.int_
    simp only [wp_bind, wp_need, wp_pure] at h
    exact call_str_int pins s σ H _ us Q I rv ⟨_, rfl, dec h.1, Post.str w h.2⟩
  · obtain ⟨v, rfl, rx⟩ := r.one_
    cases rx.str_
    exact SkE.call_str_str pins s σ H _ us Q I rv ⟨_, rfl, Post.str w h⟩
  · obtain ⟨v, u, rfl, rx, ry⟩ := r.two_
    cases rx.int_; cases ry.int_
    exact call_max2 hc pins s σ H _ us Q I rv ⟨_, _, rfl, Post.int w h⟩
  · obtain ⟨v, u, rfl, rx, ry⟩ := r.two_
    cases rx.int_; cases ry.int_
    exact call_min2 hc pins s σ H _ us Q I rv ⟨_, _, rfl, Post.int w h⟩
  · obtain ⟨v, rfl, rx⟩ := r.one_
    rename_i d
    cases d with
    | tup ds =>
      obtain ⟨a, xs, rfl, hx, r2⟩ := rx.tup_
      exact call_tupleX pins s σ H _ us Q I rv ⟨a, xs, rfl, .inr ⟨hx, Post.same w rx h⟩⟩
    | ref l =>
      rw [wp_bind] at h
      obtain ⟨a, xs, ds, rfl, hq, r2, h⟩ := getL_wp w rx (show wp (getL (.ref l)) _ S from h)
      exact call_tupleX pins s σ H _ us Q I rv ⟨a, xs, rfl, .inl ⟨hq, _, Post.tup w r2 h⟩⟩
    | ro l =>
      rw [wp_bind] at h
      obtain ⟨a, xs, ds, rfl, hq, r2, h⟩ := getL_wp w rx (show wp (getL (.ro l)) _ S from h)
      exact call_tupleX pins s σ H _ us Q I rv ⟨a, xs, rfl, .inl ⟨hq, _, Post.tup w r2 h⟩⟩
    | _ => rw [wp_bind] at h; exact h.elim
  · obtain ⟨v, rfl, rx⟩ := r.one_
    rw [wp_bind] at h
    obtain ⟨a, xs, ds, rfl, hq, r2, h⟩ := getS_wp w rx h
    exact call_list_of pins s σ H _ us Q I rv ⟨a, xs, rfl, hq, fun p hp => Post.lst w r2 h hp⟩
  · obtain ⟨v, rfl, rx⟩ := r.one_
    rw [wp_bind] at h
    obtain ⟨a, xs, ds, rfl, hq, r2, h⟩ := getL_wp w rx h
    split at h
    · rename_i ns e
      rw [r2.bls e] at hq
      exact cr_all hc pins s σ H _ us Q I rv ⟨a, ns, rfl, hq, Post.bl w h⟩
    · exact h.elim
  · obtain ⟨v, rfl, rx⟩ := r.one_
    rw [wp_bind] at h
    obtain ⟨a, xs, ds, rfl, hq, r2, h⟩ := getL_wp w rx h
    split at h
    · rename_i ns e
      rw [r2.bls e] at hq
      exact cr_any hc pins s σ H _ us Q I rv ⟨a, ns, rfl, hq, Post.bl w h⟩
    · exact h.elim
  · obtain ⟨v, u, rfl, rx, ry⟩ := r.two_
    cases rx.int_; cases ry.int_
    exact cr_gcd pins s σ H _ us Q I rv ⟨_, _, rfl, Post.int w h⟩
  · exact h.elim
/-! ### methods -/
def Me.id : Me → String
  | .append => "list.append" | .pop => "list.pop" | .popAt => "list.pop" | .reverse => "list.reverse" | .remove => "list.remove"
theorem me_ok (hu : X.A.units + 65 < cLine) (m : Me) : MtR X m.id (rDm X.K (meRun m)) := by
  intro pins s σ H v vs vv us Q I rv rvs h
  obtain ⟨ρ, S, x, ds, w, rx, r, h⟩ := h
  unfold meRun at h
  split at h
  · obtain ⟨a, rfl, h1⟩ := rx.ref_
    simp only [wp_bind, wp_getO] at h
    obtain ⟨o1, e1, h⟩ := h
    split at h
    · obtain ⟨xs, g1, r1⟩ := w.lst h1 e1
      split at h
      · obtain ⟨y, rfl, ry⟩ := r.one_
        simp only [wp_bind, wp_need, wp_setO, wp_pure] at h
        obtain ⟨hl, _, h⟩ := h
        have hl := dec hl
        rw [← r1.length] at hl
        exact mt_append pins s σ H _ _ _ us Q I rv rvs ⟨a, xs, y, rfl, rfl, g1, hl, Post.set w h1 g1 (r1.append (.cons ry .nil)) .non h⟩
      · cases r
        split at h
        · rename_i y e
          simp only [wp_bind, wp_setO, wp_pure] at h
          obtain ⟨z, e2, rz⟩ := r1.get e
          rw [← r1.length] at e2
          exact mt_pop pins s σ H _ _ _ us Q I rv rvs ⟨a, xs, z, rfl, rfl, g1, e2, Post.set w h1 g1 r1.dropLast rz h.2⟩
        · exact h.elim
      · obtain ⟨y, rfl, ry⟩ := r.one_
        cases ry.int_
        simp only [wp_bind, wp_need] at h
        obtain ⟨hl, h⟩ := h
        obtain ⟨c1, c2⟩ := and2 hl
        split at h
        · rename_i k ek
          split at h
          · rename_i y e
            simp only [wp_bind, wp_setO, wp_pure] at h
            obtain ⟨z, e2, rz⟩ := r1.get e
            have ek2 := (ixN_seq ek).1
            rw [← r1.length] at ek2
            exact mt_popAt pins s σ H _ _ _ us Q I rv rvs ⟨a, xs, _, k, z, rfl, rfl, g1, dec c1, dec c2, ek2, e2, Post.set w h1 g1 (r1.eraseIdx k) rz h.2⟩
          · exact h.elim
        · exact h.elim
      · cases r
        simp only [wp_bind, wp_setO, wp_pure] at h
        exact mt_reverse pins s σ H _ _ _ us Q I rv rvs ⟨a, xs, rfl, rfl, g1, Post.set w h1 g1 r1.reverse .non h.2⟩
      · obtain ⟨y, rfl, ry⟩ := r.one_
        simp only [wp_bind, wp_setO, wp_pure] at h
        obtain ⟨j, S1, e, h2⟩ := wp_some h
        obtain ⟨es, ps, p, q1, q2, q3, q4, q5⟩ := remAt_some e
        subst es
        exact mt_removeD hu pins s σ H _ _ _ us Q I rv rvs ⟨a, xs, y, p, ps, j, rfl, rfl, g1, Reps.dpsAt w r1 q1, ry.dpAt w q2, q3, q4, q5, Post.set w h1 g1 (r1.eraseIdx j) .non h2.2⟩
      · exact h.elim
    · exact h.elim
  · exact h.elim
theorem me_ty (m : Me) (w : WS K ρ S H) {v : V} {x : D} {ds : List D} {R : D → Store → Prop} (rx : Rep K ρ H v x) (h : wp (meRun m x ds) R S) : tyV K "list" v H := by
  unfold meRun at h
  split at h
  · obtain ⟨a, rfl, h1⟩ := rx.ref_
    simp only [wp_bind, wp_getO] at h
    obtain ⟨o1, e1, h⟩ := h
    split at h
    · obtain ⟨xs, g1, r1⟩ := w.lst h1 e1
      exact .inl ⟨rfl, xs, SqL.of g1⟩
    · exact h.elim
  · exact h.elim
/-! ### isinstance -/
theorem isTy_ok (w : WS K ρ S H) {v : V} {d : D} (r : Rep K ρ H v d) {t : Ty} {b : Bool} (e : isTy S d t = some b) : ∃ tv, TyX K H v tv ∧ ∀ t' b', isTy S d t' = some b' → PySem.W.kitOne K tv (.type t'.name) = some b' := by
  cases d with
  | non =>
    cases r.non_
    refine ⟨_, .base .non, fun t' b' e' => ?_⟩
    simp only [isTy, Option.some.injEq] at e'
    subst e'
    cases t' <;> exact kit_ty (by decide +kernel)
  | bl x =>
    cases r.bl_
    refine ⟨_, .base (.bl x), fun t' b' e' => ?_⟩
    simp only [isTy, Option.some.injEq] at e'
    subst e'
    cases t' <;> exact kit_ty (by decide +kernel)
  | int x =>
    cases r.int_
    refine ⟨_, .base (.int x), fun t' b' e' => ?_⟩
    simp only [isTy, Option.some.injEq] at e'
    subst e'
    cases t' <;> exact kit_ty (by decide +kernel)
  | str x =>
    cases r.str_
    refine ⟨_, .base (.str x), fun t' b' e' => ?_⟩
    simp only [isTy, Option.some.injEq] at e'
    subst e'
    cases t' <;> exact kit_ty (by decide +kernel)
  | tup ds =>
    obtain ⟨a, xs, rfl, hx, r1⟩ := r.tup_
    have ty : TyX K H (.ref a) (.type "tuple") := by
      rcases hx with (h | ⟨o, h⟩) | ⟨o, its, n, h, hc, _⟩
      · exact .base (.tup h)
      · exact .fTuple h
      · exact .kTuple h hc
    refine ⟨_, ty, fun t' b' e' => ?_⟩
    simp only [isTy, Option.some.injEq] at e'
    subst e'
    cases t' <;> exact kit_ty (by decide +kernel)
  | ref l =>
    obtain ⟨a, rfl, h1⟩ := r.ref_
    simp only [isTy] at e
    split at e
    · rename_i q
      obtain ⟨xs, g, r1⟩ := w.lst h1 q
      refine ⟨_, .base (.lst g), fun t' b' e' => ?_⟩
      simp only [isTy, q, Option.some.injEq] at e'
      subst e'
      cases t' <;> exact kit_ty (by decide +kernel)
    · cases e
  | ro ds =>
    obtain ⟨a, xs, rfl, hx, r1⟩ := r.ro_
    have ty : TyX K H (.ref a) (.type "list") := by
      rcases hx with ⟨o, h⟩ | ⟨o, its, n, h, hc, _⟩
      · exact .base (.frz h)
      · exact .kList h hc
    refine ⟨_, ty, fun t' b' e' => ?_⟩
    simp only [isTy, Option.some.injEq] at e'
    subst e'
    cases t' <;> exact kit_ty (by decide +kernel)
  | fn x => simp only [isTy] at e; cases e
theorem anyTy_kit {tv : Value} {d : D} (f : ∀ t' b', isTy S d t' = some b' → PySem.W.kitOne K tv (.type t'.name) = some b') : ∀ (ts : List Ty) {b : Bool}, anyTy S d ts = some b → PySem.W.kitAny K tv (ts.map fun t => .type t.name) = some b
  | [], b, e => by simp only [anyTy, Option.some.injEq] at e; subst e; rfl
  | t :: ts, b, e => by
    simp only [anyTy] at e
    split at e
    · rename_i q
      cases e
      exact kitAny_cons (f _ _ q) (fun z => by cases z) fun _ => rfl
    · rename_i q
      exact kitAny_cons (f _ _ q) (fun _ => anyTy_kit f ts e) fun z => by cases z
    · cases e
def rIs1 (K : PySem.W.Frag) (t : Ty) : List V → Hp → VK → Prop := fun xs H Q => ∃ v ρ S d, xs = [v, .ty t.name] ∧ WS K ρ S H ∧ Rep K ρ H v d ∧ wp (isiRun d [t]) (Post K ρ H Q) S
theorem isi1_ok (t : Ty) : CallR X (.builtin "isinstance") (rIs1 X.K t) := by
  intro pins s σ H xs us Q I rv h
  obtain ⟨v, ρ, S, d, rfl, w, r, h⟩ := h
  unfold wp isiRun at h
  simp only [anyTy] at h
  cases e : isTy S d t with
  | none => rw [e] at h; exact h.elim
  | some b =>
    obtain ⟨tv, ty, f⟩ := isTy_ok w r e
    refine call_isi pins s σ H _ us Q I rv ⟨v, .ty t.name, tv, _, b, rfl, .ty _, ty, f _ _ e, ?_⟩
    rw [e] at h
    cases b <;> exact Post.bl w h
def rIsN (K : PySem.W.Frag) (ts : List Ty) : List V → Hp → VK → Prop := fun xs H Q => ∃ v tp ρ S d, xs = [v, .ref tp] ∧ H tp = some (.tup (ts.map fun t => .ty t.name)) ∧ WS K ρ S H ∧ Rep K ρ H v d ∧ wp (isiRun d ts) (Post K ρ H Q) S
theorem paired_ty : ∀ ts : List Ty, Paired ClsV (ts.map fun t => V.ty t.name) (ts.map fun t => Value.type t.name)
  | [] => .nil
  | t :: ts => .cons (.ty _) (paired_ty ts)
theorem isiN_ok (ts : List Ty) (hne : ts ≠ []) : CallR X (.builtin "isinstance") (rIsN X.K ts) := by
  intro pins s σ H xs us Q I rv h
  obtain ⟨v, tp, ρ, S, d, rfl, ht, w, r, h⟩ := h
  unfold wp isiRun at h
  cases e : anyTy S d ts with
  | none => rw [e] at h; exact h.elim
  | some b =>
    rw [e] at h
    cases ts with
    | nil => exact absurd rfl hne
    | cons t ts =>
      have e1 : ∃ b1, isTy S d t = some b1 := by
        simp only [anyTy] at e
        cases q : isTy S d t with
        | none => rw [q] at e; cases e
        | some b1 => exact ⟨b1, rfl⟩
      obtain ⟨b1, e1⟩ := e1
      obtain ⟨tv, ty, f⟩ := isTy_ok w r e1
      exact call_isiT pins s σ H _ us Q I rv ⟨v, tp, _, tv, _, b, rfl, ht, paired_ty _, ty, anyTy_kit f _ e, Post.bl w h⟩
/-! ### stores -/
def rSetD (K : PySem.W.Frag) : V → V → V → Hp → (Hp → Prop) → Prop := fun o i v H Q => ∃ ρ S x y z, WS K ρ S H ∧ Rep K ρ H o x ∧ Rep K ρ H i y ∧ Rep K ρ H v z ∧
  wp (setIx x y z) (fun _ S' => ∀ ρ' H', Step ρ H ρ' H' → WS K ρ' S' H' → Q H') S
theorem set_ok : PSet X (rSetD X.K) := by
  intro pins s σ H o i v ov iv u Q I ro ri rv h
  obtain ⟨ρ, S, x, y, z, w, rx, ry, rz, h⟩ := h
  unfold setIx at h
  split at h
  · obtain ⟨a, rfl, h1⟩ := rx.ref_
    cases ry.int_
    simp only [wp_bind, wp_getO] at h
    obtain ⟨o1, e1, h⟩ := h
    split at h
    · obtain ⟨xs, g1, r1⟩ := w.lst h1 e1
      split at h
      · rename_i j ej
        simp only [wp_setO] at h
        have st := Step.set w (u := .lst (xs.set j v)) h1 g1 (fun _ _ z => nomatch z)
        have r' : Reps X.K (ρ ++ []) (upd H a (.lst (xs.set j v))) (xs.set j v) _ := (r1.set rz j).kp (st.kp w)
        rw [List.append_nil] at r'
        rw [← r1.length] at ej
        exact set_list pins s σ H _ _ _ ov iv u Q I ro ri rv ⟨a, xs, _, j, rfl, rfl, g1, ej, h.2 _ _ st (w.set h1 g1 (fun _ _ z => nomatch z) ⟨_, upd_same, r'⟩)⟩
      · exact h.elim
    · exact h.elim
  · exact h.elim
end
end Dl
end

section
set_option Elab.async false
set_option linter.all false
set_option maxRecDepth 100000
set_option maxHeartbeats 1000000
/-! Dl: dicts with tuple keys: the operations are the machine's -/
namespace Dl
open PySem PySem.Spec PyProof.Rows L2
section
variable {X : Cx} {K : PySem.W.Frag} {ρ : List Addr} {S : Store} {H : Hp} {Q : VK}
/-- the entries stand for each other -/
inductive RKV (K : PySem.W.Frag) (ρ : List Addr) (H : Hp) : List (List Key × V) → List (List Key × D) → Prop where
  | nil : RKV K ρ H [] []
  | cons {k : List Key} {v : V} {d : D} {ws : List (List Key × V)} {kvs : List (List Key × D)} : IHd k → Rep K ρ H v d → RKV K ρ H ws kvs → RKV K ρ H ((k, v) :: ws) ((k, d) :: kvs)
theorem rkv_of : ∀ {ws : List (List Key × V)} {kvs : List (List Key × D)}, KeysOk ws kvs → Reps K ρ H (ws.map (·.2)) (kvs.map (·.2)) → RKV K ρ H ws kvs
  | [], [], _, _ => .nil
  | [], _ :: _, ⟨h, _⟩, _ => by simp at h
  | _ :: _, [], ⟨h, _⟩, _ => by simp at h
  | (k, v) :: ws, (k', d) :: kvs, ⟨h, n⟩, r => by
    simp only [List.map_cons, List.cons.injEq] at h
    obtain ⟨rfl, h⟩ := h
    cases r with
    | cons r1 r2 => exact .cons (n _ List.mem_cons_self) r1 (rkv_of ⟨h, fun kv hm => n kv (List.mem_cons_of_mem _ hm)⟩ r2)
theorem RKV.keys : ∀ {ws : List (List Key × V)} {kvs : List (List Key × D)}, RKV K ρ H ws kvs → ws.map (·.1) = kvs.map (·.1)
  | _, _, .nil => rfl
  | _, _, .cons _ _ r => by simp only [List.map_cons, r.keys]
theorem RKV.ne : ∀ {ws : List (List Key × V)} {kvs : List (List Key × D)}, RKV K ρ H ws kvs → ∀ kv ∈ kvs, IHd kv.1
  | _, _, .nil, kv, hm => by simp at hm
  | _, _, .cons n _ r, kv, hm => by
    rcases List.mem_cons.mp hm with h | h
    · rw [h]; exact n
    · exact r.ne kv h
theorem RKV.kk {ws : List (List Key × V)} {kvs : List (List Key × D)} (r : RKV K ρ H ws kvs) : KeysOk ws kvs := ⟨r.keys, r.ne⟩
theorem RKV.vals : ∀ {ws : List (List Key × V)} {kvs : List (List Key × D)}, RKV K ρ H ws kvs → Reps K ρ H (ws.map (·.2)) (kvs.map (·.2))
  | _, _, .nil => .nil
  | _, _, .cons _ h r => .cons h r.vals
theorem RKV.length {ws : List (List Key × V)} {kvs : List (List Key × D)} (r : RKV K ρ H ws kvs) : ws.length = kvs.length := by
  have := congrArg List.length r.keys
  simpa using this
theorem RKV.find (k : List Key) : ∀ {ws : List (List Key × V)} {kvs : List (List Key × D)}, RKV K ρ H ws kvs → (∀ d, findT kvs k = some d → ∃ v, valV ws k = some v ∧ Rep K ρ H v d) ∧ (findT kvs k = none → valV ws k = none)
  | _, _, .nil => ⟨fun d h => by simp [findT] at h, fun _ => rfl⟩
  | _, _, .cons (k := k') (v := v) (d := d) _ h r => by
    by_cases e : k' = k
    · subst e
      refine ⟨fun d' h' => ?_, fun h' => by simp [findT] at h'⟩
      simp [findT] at h'
      subst h'
      exact ⟨v, valV_pos rfl, h⟩
    · have e1 : ∀ ws : List (List Key × V), valV ((k', v) :: ws) k = valV ws k := fun ws => valV_neg (p := (k', v)) e
      have e2 : ∀ kvs : List (List Key × D), findT ((k', d) :: kvs) k = findT kvs k := fun kvs => by simp [findT, e]
      rw [e2]
      obtain ⟨a, b⟩ := r.find k
      exact ⟨fun d' h' => by rw [e1]; exact a d' h', fun h' => by rw [e1]; exact b h'⟩
theorem RKV.any (k : List Key) : ∀ {ws : List (List Key × V)} {kvs : List (List Key × D)}, RKV K ρ H ws kvs → (ws.any fun kv => decide (kv.1 = k)) = (kvs.any fun kv => decide (kv.1 = k))
  | _, _, .nil => rfl
  | _, _, .cons _ _ r => by rw [List.any_cons, List.any_cons, r.any k]
theorem RKV.app {ws ws' : List (List Key × V)} {kvs kvs' : List (List Key × D)} (s : RKV K ρ H ws' kvs') : RKV K ρ H ws kvs → RKV K ρ H (ws ++ ws') (kvs ++ kvs')
  | .nil => s
  | .cons n h r => .cons n h (RKV.app s r)
theorem RKV.repl (k : List Key) {v : V} {d : D} (h : Rep K ρ H v d) : ∀ {ws : List (List Key × V)} {kvs : List (List Key × D)}, RKV K ρ H ws kvs → RKV K ρ H (ws.map fun kv => if kv.1 = k then (kv.1, v) else kv) (kvs.map fun kv => if kv.1 = k then (kv.1, d) else kv)
  | _, _, .nil => .nil
  | _, _, .cons (k := k') n h' r => by
    rw [List.map_cons, List.map_cons]
    by_cases e : k' = k
    · rw [if_pos e, if_pos e]; exact .cons n h (r.repl k h)
    · rw [if_neg e, if_neg e]; exact .cons n h' (r.repl k h)
theorem RKV.put (k : List Key) (hk : IHd k) {v : V} {d : D} (h : Rep K ρ H v d) {ws : List (List Key × V)} {kvs : List (List Key × D)} (r : RKV K ρ H ws kvs) : RKV K ρ H (putK ws k v) (putT kvs k d) := by
  unfold putK putT
  rw [r.any k]
  split
  · exact r.repl k h
  · exact RKV.app (.cons hk h .nil) r
theorem RKV.drop (k : List Key) : ∀ {ws : List (List Key × V)} {kvs : List (List Key × D)}, RKV K ρ H ws kvs → RKV K ρ H (dropK ws k) (dropT kvs k)
  | _, _, .nil => .nil
  | _, _, .cons (k := k') n h r => by
    unfold dropK dropT
    rw [List.filter_cons, List.filter_cons]
    by_cases e : k' = k
    · rw [if_neg (by simp [e]), if_neg (by simp [e])]; exact r.drop k
    · rw [if_pos (by simp [e]), if_pos (by simp [e])]; exact .cons n h (r.drop k)
theorem RKV.kp {H' : Hp} {τ : List Addr} (k : Kp H H') : ∀ {ws : List (List Key × V)} {kvs : List (List Key × D)}, RKV K ρ H ws kvs → RKV K (ρ ++ τ) H' ws kvs
  | _, _, .nil => .nil
  | _, _, .cons n h r => .cons n (h.kp k) (r.kp k)
theorem WS.dt (w : WS K ρ S H) {l : Nat} {a : Addr} {lk : Bool} {kvs : List (List Key × D)} (h : ρ[l]? = some a) (e : S[l]? = some (.dt lk kvs)) : ∃ ws, DtAt H a ws lk ∧ RKV K ρ H ws kvs := by
  obtain ⟨ws, h1, h2, h3⟩ := w.ob l a _ h e
  exact ⟨ws, h1, rkv_of h2 h3⟩
theorem getT_wp {x : D} {v : V} {R : Bool × List (List Key × D) → Store → Prop} (w : WS K ρ S H) (r : Rep K ρ H v x) (h : wp (getT x) R S) : ∃ a lk ws kvs, v = .ref a ∧ DtAt H a ws lk ∧ RKV K ρ H ws kvs ∧ R (lk, kvs) S := by
  unfold getT at h
  split at h
  · obtain ⟨a, rfl, h1⟩ := r.ref_
    simp only [wp_bind, wp_getO] at h
    obtain ⟨o, e, h⟩ := h
    split at h
    · obtain ⟨ws, g1, g2⟩ := w.dt h1 e
      exact ⟨a, _, ws, _, rfl, g1, g2, h⟩
    · exact h.elim
  · exact h.elim
theorem keyI_ne {y : D} {k : List Key} (e : keyI y = some k) : IHd k := by
  unfold keyI at e
  split at e
  · split at e
    · cases e; trivial
    · cases e
  · cases e
theorem kV_inl (ns : List Int) : (ns.map Sum.inl : List Key).map kV = ns.map V.int := by rw [List.map_map]; rfl
theorem keyI_rep {y : D} {u : V} {k : List Key} (r : Rep K ρ H u y) (e : keyI y = some k) : ∃ b, u = .ref b ∧ H b = some (.tup (k.map kV)) := by
  unfold keyI at e
  split at e
  · rename_i ds
    split at e
    · rename_i i is e1
      have hk : isKey ds = true := by
        unfold isKey keyI
        simp only [e1]
        rfl
      obtain ⟨a, xs, rfl, h1, h2⟩ := r.key_ hk
      rw [h2.ints e1] at h1
      cases e
      exact ⟨a, rfl, by rw [kV_inl]; exact h1⟩
    · cases e
  · cases e
theorem toKey_wp {y : D} {R : List Key → Store → Prop} (h : wp (toKey y) R S) : ∃ k, keyI y = some k ∧ R k S := by
  unfold toKey at h
  split at h
  · rename_i k e
    exact ⟨k, e, h⟩
  · exact h.elim
theorem dget_ok {x y : D} {v u : V} (w : WS K ρ S H) (rx : Rep K ρ H v x) (ry : Rep K ρ H u y) (h : wp (dgetD x y) (Post K ρ H Q) S) : ∃ a z, v = .ref a ∧ DGet H a u (some z) ∧ Q z H := by
  unfold dgetD at h
  rw [wp_bind] at h
  obtain ⟨a, lk, ws, kvs, rfl, g, rk, h⟩ := getT_wp w rx h
  rw [wp_bind] at h
  obtain ⟨k, ek, h⟩ := toKey_wp h
  obtain ⟨b, rfl, hb⟩ := keyI_rep ry ek
  dsimp only at h
  split at h
  · rename_i d ed
    obtain ⟨z, ez, rz⟩ := (rk.find k).1 d ed
    exact ⟨a, z, rfl, .inr ⟨ws, k, b, g.rd, rfl, hb, ez.symm⟩, Post.same w rz h⟩
  · exact h.elim
theorem din_ok {x y : D} {v u : V} {R : Bool → Store → Prop} (w : WS K ρ S H) (rx : Rep K ρ H v x) (ry : Rep K ρ H u y) (h : wp (dinD y x) R S) : ∃ a o, v = .ref a ∧ DGet H a u o ∧ R o.isSome S := by
  unfold dinD at h
  rw [wp_bind] at h
  obtain ⟨a, lk, ws, kvs, rfl, g, rk, h⟩ := getT_wp w rx h
  rw [wp_bind] at h
  obtain ⟨k, ek, h⟩ := toKey_wp h
  obtain ⟨b, rfl, hb⟩ := keyI_rep ry ek
  refine ⟨a, valV ws k, rfl, .inr ⟨ws, k, b, g.rd, rfl, hb, rfl⟩, ?_⟩
  have e : (valV ws k).isSome = (findT kvs k).isSome := by
    cases q : findT kvs k with
    | none => rw [(rk.find k).2 q]; rfl
    | some d =>
      obtain ⟨z, ez, _⟩ := (rk.find k).1 d q
      rw [ez]; rfl
  rw [e]
  exact h
theorem isT_wp {x : D} {v : V} {R : Unit → Store → Prop} (w : WS K ρ S H) (r : Rep K ρ H v x) (h : wp (isT x) R S) : (∃ a, v = .ref a ∧ IsD H a) ∧ R () S := by
  unfold isT at h
  rw [wp_bind] at h
  obtain ⟨a, lk, ws, kvs, rfl, g, rk, h⟩ := getT_wp w r h
  exact ⟨⟨a, rfl, .inr ⟨ws, g.rd⟩⟩, h⟩
theorem dget2_ok {x y z : D} {v u t : V} (w : WS K ρ S H) (rx : Rep K ρ H v x) (ry : Rep K ρ H u y) (rz : Rep K ρ H t z) (h : wp (dget2D x y z) (Post K ρ H Q) S) : ∃ a o, v = .ref a ∧ DGet H a u o ∧ Q (o.getD t) H := by
  unfold dget2D at h
  rw [wp_bind] at h
  obtain ⟨a, lk, ws, kvs, rfl, g, rk, h⟩ := getT_wp w rx h
  rw [wp_bind] at h
  obtain ⟨k, ek, h⟩ := toKey_wp h
  obtain ⟨b, rfl, hb⟩ := keyI_rep ry ek
  refine ⟨a, valV ws k, rfl, .inr ⟨ws, k, b, g.rd, rfl, hb, rfl⟩, ?_⟩
  simp only [wp_pure] at h
  cases q : findT kvs k with
  | none =>
    rw [(rk.find k).2 q]
    rw [q] at h
    exact Post.same w rz h
  | some d =>
    obtain ⟨z', ez, rz'⟩ := (rk.find k).1 d q
    rw [ez]
    rw [q] at h
    exact Post.same w rz' h
/-- a dict is changed -/
theorem dt_set {l : Nat} {a : Addr} {ws ws' : List (List Key × V)} {kvs' : List (List Key × D)} (w : WS K ρ S H) (h : ρ[l]? = some a) (h0 : H a = some (.dT ws)) (r : RKV K ρ H ws' kvs') :
    Step ρ H ρ (upd H a (.dT ws')) ∧ WS K ρ (S.set l (.dt false kvs')) (upd H a (.dT ws')) := by
  have st := Step.set w (u := .dT ws') h h0 (fun _ _ z => nomatch z)
  have r' : RKV K (ρ ++ []) (upd H a (.dT ws')) ws' kvs' := r.kp (st.kp w)
  rw [List.append_nil] at r'
  exact ⟨st, w.set h h0 (fun _ _ z => nomatch z) ⟨ws', upd_same, r'.kk, r'.vals⟩⟩
theorem dpop_ok {x y : D} {v u : V} (w : WS K ρ S H) (rx : Rep K ρ H v x) (ry : Rep K ρ H u y) (h : wp (dpopD x y) (Post K ρ H Q) S) :
    ∃ a ws k b z, v = .ref a ∧ H a = some (.dT ws) ∧ u = .ref b ∧ H b = some (.tup (k.map kV)) ∧ valV ws k = some z ∧ Q z (upd H a (.dT (dropK ws k))) := by
  unfold dpopD at h
  split at h
  · obtain ⟨a, rfl, h1⟩ := rx.ref_
    simp only [wp_bind, wp_getO] at h
    obtain ⟨o, e, h⟩ := h
    split at h
    · obtain ⟨ws, g, rk⟩ := w.dt h1 e
      have g : H a = some (.dT ws) := g
      rw [wp_bind] at h
      obtain ⟨k, ek, h⟩ := toKey_wp h
      obtain ⟨b, rfl, hb⟩ := keyI_rep ry ek
      split at h
      · rename_i d ed
        obtain ⟨z, ez, rz⟩ := (rk.find k).1 d ed
        simp only [wp_bind, wp_setO, wp_pure] at h
        obtain ⟨st, w'⟩ := dt_set w h1 g (rk.drop k)
        exact ⟨a, ws, k, b, z, rfl, g, rfl, hb, ez, h.2 ρ _ z st w' (rz.step w st)⟩
      · exact h.elim
    · exact h.elim
  · exact h.elim
theorem ddel_ok {x y : D} {v u : V} {R : Unit → Store → Prop} (w : WS K ρ S H) (rx : Rep K ρ H v x) (ry : Rep K ρ H u y) (h : wp (ddelD x y) R S) :
    ∃ a ws k b z H' S', v = .ref a ∧ H a = some (.dT ws) ∧ u = .ref b ∧ H b = some (.tup (k.map kV)) ∧ valV ws k = some z ∧ H' = upd H a (.dT (dropK ws k)) ∧ Step ρ H ρ H' ∧ WS K ρ S' H' ∧ R () S' := by
  unfold ddelD at h
  split at h
  · obtain ⟨a, rfl, h1⟩ := rx.ref_
    simp only [wp_bind, wp_getO] at h
    obtain ⟨o, e, h⟩ := h
    split at h
    · obtain ⟨ws, g, rk⟩ := w.dt h1 e
      have g : H a = some (.dT ws) := g
      rw [wp_bind] at h
      obtain ⟨k, ek, h⟩ := toKey_wp h
      obtain ⟨b, rfl, hb⟩ := keyI_rep ry ek
      simp only [wp_bind, wp_need, wp_setO] at h
      obtain ⟨hs, _, h⟩ := h
      obtain ⟨d, ed⟩ := Option.isSome_iff_exists.mp hs
      obtain ⟨z, ez, rz⟩ := (rk.find k).1 d ed
      obtain ⟨st, w'⟩ := dt_set w h1 g (rk.drop k)
      exact ⟨a, ws, k, b, z, _, _, rfl, g, rfl, hb, ez, rfl, st, w', h⟩
    · exact h.elim
  · exact h.elim
theorem dput_ok {x y z : D} {v u t : V} {R : Unit → Store → Prop} (w : WS K ρ S H) (rx : Rep K ρ H v x) (ry : Rep K ρ H u y) (rz : Rep K ρ H t z) (h : wp (dputD x y z) R S) :
    ∃ a H' S', v = .ref a ∧ DPut H a u t H' ∧ Step ρ H ρ H' ∧ WS K ρ S' H' ∧ R () S' := by
  unfold dputD at h
  split at h
  · obtain ⟨a, rfl, h1⟩ := rx.ref_
    simp only [wp_bind, wp_getO] at h
    obtain ⟨o, e, h⟩ := h
    split at h
    · obtain ⟨ws, g, rk⟩ := w.dt h1 e
      have g : H a = some (.dT ws) := g
      rw [wp_bind] at h
      obtain ⟨k, ek, h⟩ := toKey_wp h
      obtain ⟨b, rfl, hb⟩ := keyI_rep ry ek
      simp only [wp_bind, wp_need, wp_setO] at h
      obtain ⟨hl, _, h⟩ := h
      have hl := dec hl
      rw [← rk.length] at hl
      obtain ⟨st, w'⟩ := dt_set w h1 g (rk.put k (keyI_ne ek) rz)
      exact ⟨a, _, _, rfl, .inr ⟨ws, k, b, g, rfl, hb, hl, rfl⟩, st, w', h⟩
    · exact h.elim
  · exact h.elim
/-! ### sorting -/
theorem sort_fst {α β : Type} (le : β → β → Bool) : ∀ (xs : List α) (ks : List β), ((xs.zip ks).mergeSort (fun p q => le p.2 q.2)).map (·.1) = ((xs.zip ks).mergeSort (fun p q => le p.2 q.2)).map (·.1) := fun _ _ => rfl
theorem reps_get {xs : List V} {ds : List D} (h : xs.length = ds.length) (k : ∀ p ∈ xs.zip ds, Rep K ρ H p.1 p.2) : Reps K ρ H xs ds := by
  induction xs generalizing ds with
  | nil => cases ds with
    | nil => exact .nil
    | cons _ _ => simp at h
  | cons x xs ih => cases ds with
    | nil => simp at h
    | cons d ds => exact .cons (k (x, d) (by simp)) (ih (by simpa using h) fun p hp => k p (by simp [hp]))
theorem Reps.zip_mem {xs : List V} {ds : List D} (r : Reps K ρ H xs ds) : ∀ p ∈ xs.zip ds, Rep K ρ H p.1 p.2 := by
  induction xs generalizing ds with
  | nil => intro p hp; simp at hp
  | cons x xs ih => cases r with
    | cons h r =>
      intro p hp
      rw [List.zip_cons_cons] at hp
      rcases List.mem_cons.mp hp with rfl | hp
      · exact h
      · exact ih r p hp
theorem reps_maps : ∀ {l : List ((V × D) × PyData)}, (∀ p ∈ l, Rep K ρ H p.1.1 p.1.2) → Reps K ρ H (l.map fun p => p.1.1) (l.map fun p => p.1.2)
  | [], _ => .nil
  | p :: l, h => .cons (h p List.mem_cons_self) (reps_maps fun q hq => h q (List.mem_cons_of_mem _ hq))
theorem zip3a {α β γ : Type} : ∀ (xs : List α) (ds : List β) (ks : List γ), xs.length = ds.length → (((xs.zip ds).zip ks).map fun p => (p.1.1, p.2)) = xs.zip ks
  | [], [], _, _ => by simp
  | [], _ :: _, _, h => by simp at h
  | _ :: _, [], _, h => by simp at h
  | _ :: _, _ :: _, [], _ => by simp
  | x :: xs, d :: ds, k :: ks, h => by
    simp only [List.zip_cons_cons, List.map_cons]
    rw [zip3a xs ds ks (by simpa using h)]
theorem zip3b {α β γ : Type} : ∀ (xs : List α) (ds : List β) (ks : List γ), xs.length = ds.length → (((xs.zip ds).zip ks).map fun p => (p.1.2, p.2)) = ds.zip ks
  | [], [], _, _ => by simp
  | [], _ :: _, _, h => by simp at h
  | _ :: _, [], _, h => by simp at h
  | _ :: _, _ :: _, [], _ => by simp
  | x :: xs, d :: ds, k :: ks, h => by
    simp only [List.zip_cons_cons, List.map_cons]
    rw [zip3b xs ds ks (by simpa using h)]
/-- the sorted values stand for the sorted data -/
theorem Reps.sort {xs : List V} {ds : List D} {ks : List PyData} (r : Reps K ρ H xs ds) (hk : ks.length = xs.length) : Reps K ρ H (((xs.zip ks).mergeSort (PySem.W.dataLe true (·.2))).map (·.1)) (sortBy ds ks) := by
  unfold sortBy
  have hl := r.length
  have e1 : (((xs.zip ds).zip ks).map fun p => (p.1.1, p.2)) = xs.zip ks := zip3a _ _ _ hl
  have e2 : (((xs.zip ds).zip ks).map fun p => (p.1.2, p.2)) = ds.zip ks := zip3b _ _ _ hl
  have m1 := PySem.W.sort_maps (r := PySem.W.dataLe true (fun p : (V × D) × PyData => p.2)) (s := PySem.W.dataLe true (fun p : V × PyData => p.2)) (l := (xs.zip ds).zip ks) (fun p => (p.1.1, p.2)) (fun _ _ _ _ => rfl)
  have m2 := PySem.W.sort_maps (r := PySem.W.dataLe true (fun p : (V × D) × PyData => p.2)) (s := PySem.W.dataLe true (fun p : D × PyData => p.2)) (l := (xs.zip ds).zip ks) (fun p => (p.1.2, p.2)) (fun _ _ _ _ => rfl)
  rw [e1] at m1
  rw [e2] at m2
  rw [← m1, ← m2, List.map_map, List.map_map]
  refine reps_maps fun p hp => ?_
  have hp' : p ∈ (xs.zip ds).zip ks := (List.mergeSort_perm _ _).mem_iff.mp hp
  exact r.zip_mem p.1 (List.of_mem_zip hp').1
theorem ints_dp {xs : List V} {ns : List Int} : xs = ns.map V.int → DpAll K H xs (ns.map .int) := by
  intro e
  subst e
  induction ns with
  | nil => exact .nil
  | cons n ns ih => exact .cons (.int n) ih
theorem encI_dp {ds : List D} {ns : List Int} {v : V} (r : Rep K ρ H v (.tup ds)) (e : intsOf ds = some ns) : Dp K H v (encI ns) := by
  obtain ⟨a, xs, rfl, h1, h2⟩ := r.tup_
  exact .tup h1 (ints_dp (h2.ints e))
theorem pairI_dp {d : D} {p : List Int × List Int} {v : V} (r : Rep K ρ H v d) (e : pairI d = some p) : Dp K H v (encP p) := by
  unfold pairI at e
  split at e
  · split at e
    · rename_i e1 e2
      cases e
      obtain ⟨a, xs, rfl, h1, h2⟩ := r.tup_
      obtain ⟨v, u, rfl, r1, r2⟩ := h2.two_
      exact .tup h1 (.cons (encI_dp r1 e1) (.cons (encI_dp r2 e2) .nil))
    · cases e
  · cases e
theorem pairsI_dp : ∀ {ds : List D} {ps : List (List Int × List Int)} {xs : List V}, Reps K ρ H xs ds → pairsI ds = some ps → DpAll K H xs (ps.map encP)
  | [], ps, xs, r, e => by cases r; simp only [pairsI, Option.some.injEq] at e; subst e; exact .nil
  | d :: ds, ps, xs, r, e => by
    cases r with
    | cons h r =>
      simp only [pairsI] at e
      split at e
      · rename_i e1 e2
        cases e
        exact .cons (pairI_dp h e1) (pairsI_dp r e2)
      · cases e
theorem encI_depth (ns : List Int) : (encI ns).depth ≤ 30 := by
  unfold encI
  simp only [PyData.depth]
  rw [PySem.W.depth_ints]
  omega
theorem encP_depth (p : List Int × List Int) : (encP p).depth ≤ 60 := by
  unfold encP
  simp only [PyData.depth, PyData.depthAll]
  have h1 := encI_depth p.1
  have h2 := encI_depth p.2
  omega
theorem encI_alike (a b : List Int) : PySem.W.alike (encI a) (encI b) = true := by
  unfold encI
  simp only [PySem.W.alike]
  exact PySem.W.alike_ints a b
theorem encP_alike (a b : List Int × List Int) : PySem.W.alike (encP a) (encP b) = true := by
  unfold encP
  simp only [PySem.W.alike, PySem.W.alikeAll, encI_alike, Bool.and_self]
theorem sortP_ok {x : D} {v : V} (w : WS K ρ S H) (r : Rep K ρ H v x) (h : wp (sortPD x) (Post K ρ H Q) S) : rSortD K [v] [.bl true] H Q := by
  unfold sortPD at h
  rw [wp_bind] at h
  obtain ⟨a, xs, ds, rfl, hs, rs, h⟩ := getL_wp w r h
  split at h
  · rename_i ps e
    refine ⟨a, xs, ps.map encP, rfl, rfl, hs, pairsI_dp rs e, PySem.W.AllAlike.of encP_alike, PySem.W.Sortable.tuples fun b => ⟨_, _, rfl⟩, fun p hp => ?_, fun p hp => ?_⟩
    · obtain ⟨b, _, rfl⟩ := List.mem_map.mp hp
      exact encP_depth b
    · have hl : (ps.map encP).length = xs.length := (DpAll.length (pairsI_dp rs e)).symm
      exact Post.lst w (rs.sort hl) h hp
  · exact h.elim
end
end Dl
end

section
set_option Elab.async false
set_option linter.all false
set_option maxRecDepth 100000
set_option maxHeartbeats 2000000
/-! Dl: raw rules: the greatest of a list, with a default; a dict made by a comprehension, its keys tuples -/
namespace Dl
open PySem PySem.Spec PyProof.Rows L2
section
variable {X : Cx}
theorem alike_nums (ns : List Int) : PySem.W.AlikeAll (ns.map PyData.int) := by
  refine ⟨fun x hx y hy => ?_, fun x hx => ?_⟩
  · obtain ⟨i, _, rfl⟩ := List.mem_map.mp hx
    obtain ⟨j, _, rfl⟩ := List.mem_map.mp hy
    rfl
  · obtain ⟨i, _, rfl⟩ := List.mem_map.mp hx
    exact fun z => nomatch z
def rMaxDf (K : PySem.W.Frag) : List V → List V → Hp → VK → Prop := fun vs zs H Q => ∃ (a : Addr) (ns : List Int) (z : V), vs = [V.ref a] ∧ zs = [z] ∧ SqL K H a (ns.map V.int) ∧ (ns = [] → Q z H) ∧ ∀ n ms, ns = n :: ms → Q (.int (maxI n ms)) H
theorem cr_maxDf (hc : X.calm = true) (hu : X.A.units + 65 < cLine) : CallRK X (.builtin "max") [Str.ofString "default"] (rMaxDf X.K) := by
  intro pins s σ H vs zs us ws Q I rv0 rz h
  obtain ⟨a, ns, z, rfl, rfl, hs, q0, q1⟩ := h
  obtain rfl := Vals.ref1 rv0
  obtain ⟨w1, rfl, e1⟩ := vals1 rz
  obtain ⟨its, rv, hl, _⟩ := I.list hs
  obtain ⟨as, hr⟩ := Dp.readsAll I (ns.map PyData.int) _ its (ints_dp rfl) rv
  refine PySem.W.max_list_default (I.ok.hd hc) hl.isList hr (alike_nums ns) (by rw [PySem.W.depth_ints]; omega) (fun h0 h' tk hk => ?_) fun y ys i v h' tk bs hx _ rd hk => ?_
  · exact ⟨z, H, I.kept hk, e1, q0 (by simpa using h0)⟩
  · cases ns with
    | nil => cases hx
    | cons n ms =>
      cases hx
      rw [PySem.W.maxD_ints] at rd
      cases rd
      exact ⟨.int (maxI n ms), H, I.kept hk, ⟨_, rfl⟩, q1 n ms rfl⟩
/-! ### {k: v for target in iter}, the keys tuples -/
/-- one member is put to the dict that is being made -/
theorem put_new {pn : List (Addr × Obj)} {σ : L2.St} {H : Hp} {st : Shared} {E : Value → Shared → Prop} {d b : Addr} {ws : List (List Key × V)} {k : List Key} {z : V} {r : Value} {Q : Unit → Shared → Prop} (hu : X.A.units + 1 < cLine)
    (I : Inv X pn σ H st) (e : H d = some (.dT ws)) (eb : H b = some (.tup (k.map kV))) (hl : ws.length < sizeLine) (rz : RelV z r) (h : ∀ st', Inv X pn σ (upd H d (.dT (putK ws k z))) st' → Q () st') :
    wpAny (model X.prog X.w) X.A (dictSet d (.ref b) r) Q E st := by
  obtain ⟨_, nm, ys, rel, dd⟩ := dt_of I.hok e
  have h1 : ys.length ≤ sizeLine := by rw [← Paired.length rel]; omega
  have h2 : (putK ws k z).length ≤ sizeLine := Nat.le_trans (length_putK ws k z) hl
  have room : (tupleKind (mixKind X.prog X.w)).room X.A := show X.A.units < cLine by omega
  refine wpAny_dictSet_heap (hsz := h1) room (key_of I.hok eb) dd fun hp dd' sb => h _ ?_
  · obtain ⟨q, es, ep, hq, g2, g3, g4, _, g5⟩ := dd'
    refine d_write I (by rw [e]; trivial) sb ⟨q, hq⟩ ⟨h2, nm, _, (rel.put k eb rz).keeps (fun c xs ec => ?_), q, es, ep, hq, g2, g3, g4, g5⟩
    rw [upd_ne (ne_of ec e (fun w => nomatch w))]
    exact ec
/-- what a turn does with the key y and the value z: D is the dict -/
def PutT (D : Addr) (Nx : Hp → Prop) (y z : V) (H : Hp) : Prop := ∃ ws k b, y = .ref b ∧ H D = some (.dT ws) ∧ H b = some (.tup (k.map kV)) ∧ ws.length < sizeLine ∧ Nx (upd H D (.dT (putK ws k z)))
/-- one turn, from the item x on -/
def TurnT (g : L2.TG) (tt : TT) (tk tv : TE) (vs : List Nat) (σ : L2.St) (D : Addr) (Nx : Hp → Prop) (x : V) (H : Hp) : Prop :=
  g x (wipe σ vs) H fun σ2 H2 => wipe σ2 vs = wipe σ vs ∧ tt σ2 H2 fun b H3 => if b = true then tk σ2 H3 fun y H4 => tv σ2 H4 fun z H5 => PutT D Nx y z H5 else Nx H3
/-- the turns: W i m is what holds ahead of the item i, m falls -/
def LoopT (J : It) (turn : (Hp → Prop) → V → Hp → Prop) (D : Addr) (Qd : Hp → Prop) (H1 : Hp) : Prop := ∃ W : Nat → Nat → Hp → Prop, (∃ m, W 0 m (upd H1 D (.dT []))) ∧
  ∀ i m H, W i m H → (J.stop i H ∧ Qd H) ∨ (J.go i H ∧ ∃ Nx : Hp → Prop, (∀ H', Nx H' → ∃ m', m' < m ∧ W (i + 1) m' H') ∧ ∀ x H', J.yld i H x H' → turn Nx x H')
def tDT (wi : TI) (g : L2.TG) (tt : TT) (tk tv : TE) (vs : List Nat) : TE := fun σ H Q => wi σ H fun J H1 => ∀ D, H1 D = none → LoopT J (TurnT g tt tk tv vs σ D) D (fun H' => Q (.ref D) H') H1
/-- the block of a comprehension over X -/
abbrev Blk (X : Cx) (st : Shared) (H : Hp) (scope : Scope) (cs : List (Str × Addr)) (C : Addr) (fp : List Addr) : Cx := X.blk st H scope (compEnvC scope cs C X.env) fp
theorem dt_core {pn : List (Addr × Obj)} {st : Shared} {σ : L2.St} {H : Hp} {Q : VK} {kx vx tg iter : Expr} {ifs : List Expr} {scope : Scope} {own : List (Str × Nat)} {p1 p2 : Pos} {wi : TI} {g : L2.TG} {tt : TT} {tk tv : TE} {use : Option (Value → Sem Unit)} {Qf : Value → Shared → Prop}
    (calm : X.calm = true) (nd : X.N.Nodup) (hu : X.A.units + 1 < cLine) (I : Inv X pn σ H st) (pi : PI X tg iter wi) (bo : BlkOk X.N X.env.scope scope own)
    (pg : ∀ st H C cs fp, PG (Blk X st H scope cs C fp) tg g) (pt : ∀ st H C cs fp, PTs (Blk X st H scope cs C fp) ifs tt) (pk : ∀ st H C cs fp, PE (Blk X st H scope cs C fp) kx tk) (pv : ∀ st H C cs fp, PE (Blk X st H scope cs C fp) vx tv)
    (fold : ∀ x, foldedSetIterable iter X.env x = pure x) (h : tDT wi g tt tk tv (own.map (·.2)) σ H Q)
    (out : ∀ D C st' m H', Inv X pn σ H' st' → Q (.ref D) H' → st'.heap.Ns C m → FpOk X pn H' C → compPost (model X.prog X.w) X.A X.xe use Qf (.ref D) C (.ok .next) st') :
    wpAny (model X.prog X.w) X.A (comprehension (.DictComp kx vx [⟨tg, iter, ifs, 0⟩] scope p1) scope X.env p2 newDict false (eval iter X.env) use) Qf X.xe st := by
  have free : ∀ y ∈ scope.names, y.2 = .free → ∃ c, X.env.cells.lookup y.1 = some c := by
    intro y hy e
    exact (bo.free y hy e).elim (fun k => I.ok.has _ (.inl k)) fun k => I.ok.has _ (.inr k)
  refine wpAny_comprehension_free (use := use) rfl fold (closure_ok free) bo.kind (fun y hy e => by rw [bo.uniq y hy, e]) ?_
  refine thn (pi.run pn st σ H _ I h) fun xv sa hx => thn hx fun itv sb hb => ?_
  obtain ⟨it, fp, tn, J, H2, rfl, I2, T, tn2, fp2, q⟩ := hb
  refine wpAny_newObj_type ?_
  refine newEnv_comp ?_
  generalize eD : sb.heap.objs.size = D
  obtain ⟨W, ⟨m0, W0⟩, turn⟩ := q D (I2.hok.fresh (Nat.le_of_eq eD))
  generalize ec : ({ sb with heap := sb.heap.push { cls := .type "dict", data := .dict #[] } } : Shared) = sc
  have hpc : sc.heap = sb.heap.push { cls := .type "dict", data := .dict #[] } := by rw [← ec]
  have I3 : Inv X pn σ (upd H2 D (.dT [])) sc := by
    subst ec eD
    exact I2.laid (t' := sb.toks) (fun b o e => Heap.get?_push_of_some _ e) (Nat.le_refl _) (dt_empty sb.heap I2.big)
  have fp3 : ∀ b ∈ fp, FpOk X pn (upd H2 D (.dT [])) b ∧ b < sc.heap.objs.size := by
    intro b hb
    obtain ⟨o, e, _⟩ := T.obj _ _ tn2 b hb
    have lt := Heap.lt_size e
    obtain ⟨f, g⟩ := fp2 b hb
    refine ⟨⟨?_, g⟩, by rw [hpc, Heap.size_push]; exact Nat.lt_succ_of_lt lt⟩
    rw [upd_ne (by rw [← eD]; exact Nat.ne_of_lt lt)]
    exact f
  have tn3 : tn 0 sc.heap := T.keep _ _ _ tn2 fun b _ o e => by rw [hpc]; exact Heap.get?_push_of_some _ e
  have I4 := block_start I3 bo nd fp3
  generalize ecs : cellsFrom (sc.heap.objs.size + 1) scope.names (cloFrom X.env.cells scope.names []) = cs at *
  have g1 := pg sc (upd H2 D (.dT [])) sc.heap.objs.size cs fp
  have g2 := pt sc (upd H2 D (.dT [])) sc.heap.objs.size cs fp
  have g3 := pk sc (upd H2 D (.dT [])) sc.heap.objs.size cs fp
  have g4 := pv sc (upd H2 D (.dT [])) sc.heap.objs.size cs fp
  unfold Blk at g1 g2 g3 g4
  have none_fp : ∀ b ∈ fp, upd H2 D (.dT []) b = none := fun b hb => (fp3 b hb).1.1
  show codeAny _ _ (.compStart (.DictComp kx vx [⟨tg, iter, ifs, 0⟩] scope p1) 0 (.ref it) (.ref D) (compEnvC scope cs sc.heap.objs.size X.env)) (compPost _ _ X.xe use Qf (.ref D) sc.heap.objs.size) { sc with heap := pushCells (sc.heap.push { cls := .type "dict", data := .dict #[] }) scope.names }
  have loc : (compEnvC scope cs sc.heap.objs.size X.env).locals = sc.heap.objs.size := rfl
  generalize compEnvC scope cs sc.heap.objs.size X.env = ce at I4 g1 g2 g3 g4 loc ⊢
  generalize upd H2 D (.dT []) = H3 at I3 I4 g1 g2 g3 g4 W0 none_fp fp3
  have tn4 : tn 0 (pushCells (sc.heap.push { cls := .type "dict", data := .dict #[] }) scope.names) := T.keep _ _ _ tn3 fun b _ o e => pushCells_keeps _ _ _ _ (Heap.get?_push_of_some _ e)
  generalize hse : ({ sc with heap := pushCells (sc.heap.push { cls := .type "dict", data := .dict #[] }) scope.names } : Shared) = se at I4 ⊢
  have tn5 : tn 0 se.heap := by rw [← hse]; exact tn4
  have still : ∀ {σ' : L2.St} {H' : Hp} {s' : Shared}, Inv (X.blk sc H3 scope ce fp) [] σ' H' s' → (∀ b ∈ fp, H' b = none) → ∀ b ∈ fp, FpOk (X.blk sc H3 scope ce fp) [] H' b := by
    intro σ' H' s' I' hn b hb
    obtain ⟨x1, x2⟩ := I'.ok.exf b hb
    exact ⟨hn b hb, x1, I'.ok.exfs b hb, .inl hb, fun x c e => x2 x c e, fun p hp => nomatch (show p ∈ ([] : List (Addr × Obj)) from hp)⟩
  have all : codeAny (model X.prog X.w) X.A (.compLoop (.DictComp kx vx [⟨tg, iter, ifs, 0⟩] scope p1) 0 (.ref it) (.ref D) ce) (compPost (model X.prog X.w) X.A X.xe use Qf (.ref D) sc.heap.objs.size) se := by
    refine compLoop_anyD (fun n s' => ∃ i H', Inv (X.blk sc H3 scope ce fp) [] (wipe σ (own.map (·.2))) H' s' ∧ tn i s'.heap ∧ (∀ b ∈ fp, H' b = none) ∧ W i n H') (fun n sf hI => ?_) m0 ⟨0, H3, I4, tn5, none_fp, W0⟩
    obtain ⟨i, H5, I5, tni, n5, w5⟩ := hI
    rcases turn i n H5 w5 with ⟨stop, fin⟩ | ⟨go, Nx, hNx, step⟩
    · refine thnF (T.done (X.blk sc H3 scope ce fp) rfl rfl rfl calm i [] sf _ H5 (fun _ _ => False) I5 (still I5 n5) tni stop) fun r sg hr => ?_
      obtain ⟨rfl, I6⟩ := hr
      have I7 : Inv X pn σ H5 sg := I3.call' (ch := fp) I6.os I6.base I6.hok I6.bare fun b hb => by
        obtain ⟨_, z1, z2, z3, z4, z5⟩ := (fp3 b hb).1
        exact ⟨z3, z1, z4, z5⟩
      have free5 : H5 sc.heap.objs.size = none := by
        rw [← loc]
        exact I6.free
      obtain ⟨mm, hm, _⟩ := I6.loc
      have hm : sg.heap.Ns ce.locals mm := hm
      rw [loc] at hm
      exact out D _ sg mm H5 I7 fin hm (I3.fpOk (Nat.le_refl _) free5)
    · refine thnF (T.item (X.blk sc H3 scope ce fp) rfl rfl rfl calm i [] sf _ H5 (fun _ _ => False) I5 (still I5 n5) tni go) fun r sg hr => ?_
      obtain ⟨u, rfl, h6⟩ := hr
      refine thnF h6 fun _ sh hh => ?_
      obtain ⟨x, H7, I7, rx, yl, tnj, n7⟩ := hh
      refine thnF (g1.run _ sh _ H7 x u _ (I7.pinned (still I7 n7) (T.obj _ _ tnj)) rx (step x H7 yl)) fun _ si ho => ?_
      obtain ⟨σ8, H8, I8, wi8, q8⟩ := ho
      refine thnF (g2.run _ si σ8 H8 _ I8 q8) fun b sj hj => ?_
      obtain ⟨H9, I9, turn9⟩ := hj
      have fin : ∀ {s' : Shared} {H' : Hp}, Inv (X.blk sc H3 scope ce fp) ([] ++ pinsAt fp sh.heap) σ8 H' s' → Nx H' → ∃ m, m < n ∧ ∃ i H', Inv (X.blk sc H3 scope ce fp) [] (wipe σ (own.map (·.2))) H' s' ∧ tn i s'.heap ∧ (∀ b ∈ fp, H' b = none) ∧ W i m H' := by
        intro s' H' I' nx
        obtain ⟨m', lt, w'⟩ := hNx H' nx
        have pinned : ∀ b ∈ fp, ∀ o, sh.heap.get? b = some o → s'.heap.get? b = some o ∧ H' b = none := by
          intro b hb o e
          have z := I'.pin (b, o) (List.mem_append_right _ (List.mem_append_right _ (mem_pinsAt hb e)))
          exact ⟨z.1, z.2.1⟩
        refine ⟨m', lt, i + 1, H', ?_, T.keep _ _ _ tnj fun b hb o e => (pinned b hb o e).1, fun b hb => ?_, w'⟩
        · refine (I'.unpinned (pins := [])).weak (by rw [← wi8, wipe_length]) fun j v e => ?_
          rw [← wi8] at e
          exact (wipe_some e).1
        · obtain ⟨o, e, _⟩ := T.obj _ _ tnj b hb
          exact (pinned b hb o e).2
      cases b with
      | false =>
        simp only [Bool.false_eq_true, if_false] at turn9 ⊢
        exact fin I9 turn9
      | true =>
        simp only [if_true] at turn9 ⊢
        refine thnF (g3.run _ sj σ8 H9 _ I9 turn9) fun ky sk hk => ?_
        obtain ⟨yk, H10, I10, r10, q10⟩ := hk
        refine thnF (g4.run _ sk σ8 H10 _ I10 q10) fun kz sl hl => ?_
        obtain ⟨yz, H11, I11, r11, ws, kk, b', rfl, eD', eb', lt', nx⟩ := hl
        obtain rfl : ky = Value.ref b' := r10
        exact put_new (X := X.blk sc H3 scope ce fp) hu I11 eD' eb' lt' r11 fun sm Im => fin Im nx
  exact codeAny_compStart_dict all (T.self X.A 0 _ _ _ tn5 all)
theorem pe_dT {kx vx tg iter : Expr} {ifs : List Expr} {scope : Scope} {own : List (Str × Nat)} {p1 : Pos} {wi : TI} {g : L2.TG} {tt : TT} {tk tv : TE} (calm : X.calm = true) (nd : X.N.Nodup) (hu : X.A.units + 1 < cLine) (pi : PI X tg iter wi) (bo : BlkOk X.N X.env.scope scope own)
    (pg : ∀ st H C cs fp, PG (Blk X st H scope cs C fp) tg g) (pt : ∀ st H C cs fp, PTs (Blk X st H scope cs C fp) ifs tt) (pk : ∀ st H C cs fp, PE (Blk X st H scope cs C fp) kx tk) (pv : ∀ st H C cs fp, PE (Blk X st H scope cs C fp) vx tv)
    (fold : ∀ x, foldedSetIterable iter X.env x = pure x) : PE X (.DictComp kx vx [⟨tg, iter, ifs, 0⟩] scope p1) (tDT wi g tt tk tv (own.map (·.2))) := by
  constructor
  intro pins st σ H Q I h
  rw [arm_eval_DictComp]
  refine dt_core calm nd hu I pi bo pg pt pk pv fold h fun D C st' m H' I' q ns f => ⟨m, ns, fun hq sb => ?_⟩
  obtain ⟨z0, z1, z2, z3, z4, z5⟩ := f
  exact ⟨.ref D, H', I'.turned (t' := st'.toks) (fun b o hb e => (sb.2 b hb).trans e) z0 z1 z3 z4 z5, rfl, q⟩
theorem ps_setDT {i : Nat} {y : Str} {py spos : Pos} {kx vx tg iter : Expr} {ifs : List Expr} {scope : Scope} {own : List (Str × Nat)} {p1 : Pos} {wi : TI} {g : L2.TG} {tt : TT} {tk tv : TE} (calm : X.calm = true) (nd : X.N.Nodup) (hu : X.A.units + 1 < cLine) (hy : X.N[i]? = some y) (hyl : X.env.scope.names.lookup y = some .local)
    (hsw : swapsWith (.DictComp kx vx [⟨tg, iter, ifs, 0⟩] scope p1) (some (.Name y py)) spos.line X.env = pure true) (pi : PI X tg iter wi) (bo : BlkOk X.N X.env.scope scope own)
    (pg : ∀ st H C cs fp, PG (Blk X st H scope cs C fp) tg g) (pt : ∀ st H C cs fp, PTs (Blk X st H scope cs C fp) ifs tt) (pk : ∀ st H C cs fp, PE (Blk X st H scope cs C fp) kx tk) (pv : ∀ st H C cs fp, PE (Blk X st H scope cs C fp) vx tv)
    (fold : ∀ x, foldedSetIterable iter X.env x = pure x) : PS X (.Assign [.Name y py] (.DictComp kx vx [⟨tg, iter, ifs, 0⟩] scope p1) spos) (tAsg (tDT wi g tt tk tv (own.map (·.2))) (gName i)) := by
  constructor
  intro pins st σ H D I h
  rw [exec_Assign_Name_used _ _ _ _ hsw]
  refine wpAny_bind (wpAny_standAt (wpAny_bind ?_))
  show wpAny _ X.A (do let _ ← comprehension (.DictComp kx vx [⟨tg, iter, ifs, 0⟩] scope p1) scope X.env (firstIterPos [⟨tg, iter, ifs, 0⟩] p1) newDict false (eval iter X.env) (some (assign (.Name y py) X.env))) _ _ st
  have h : tDT wi g tt tk tv (own.map (·.2)) σ H (fun x H1 => gName i x σ H1 D.nx) := h
  refine wpAny_bind (thn (dt_core (use := some (assign (.Name y py) X.env)) (Qf := fun _ s' => SP X pins D .next s') calm nd hu I pi bo pg pt pk pv fold h fun Dd C st' m H' I' q ns f => ?_) fun _ s' hq => wpAny_pure (wpAny_pure hq))
  show wpAny _ _ (assign (.Name y py) X.env (.ref Dd)) _ _ _
  obtain ⟨z0, z1, z2, z3, z4, z5⟩ := f
  refine wpAny_assign_Name (store_ok2 (v := V.ref Dd) I' nd hy (.inl hyl) rfl (fun s2 I2 ⟨a, sb, ha⟩ => ?_) (.inr hyl))
  have ne : C ≠ a := ha.elim (fun z => z ▸ z1) fun z e => z4 y a z e.symm
  exact ⟨m, ns.sameBut sb ne, fun h3 sb3 => ⟨_, H', I2.turned (t' := s2.toks) (fun b o hb e => (sb3.2 b hb).trans e) z0 z1 z3 z4 z5, q⟩⟩
theorem sw_trueD {kx vx : Expr} {gs : List Comprehension} {scope : Scope} {pos py : Pos} {y : Str} {l : Nat} {env : PySem.Env} (hk : env.scope.kind = .function) (hy : env.scope.names.lookup y = some .local) (hl : (py.line == pos.line) = true)
    (ha : (scope.names.any fun (n, k) => n == y && (k == .local || k == .cell)) = false) : swapsWith (.DictComp kx vx gs scope pos) (some (.Name y py)) l env = pure true := by
  have h1 : env.kindOf y = some .local := hy
  have h2 : env.blockKind = .function := by unfold Env.blockKind; rw [hk]; rfl
  unfold swapsWith
  simp only [h2, h1, ha, Expr.pos, hl]
  rfl
end
end Dl
end

section
set_option Elab.async false
set_option linter.all false
set_option maxRecDepth 100000
set_option maxHeartbeats 1000000
/-! Dl: the language's terms against the text, the checker -/
namespace Dl
open PySem PySem.Spec PyProof.Rows L2
/-- what a module's name is -/
inductive GI where
  | free | fn (i : Nat) | cst (g : Nat) | bt (id : String) | other | cls (i : Nat) | mth (C m : Str) (i : Nat) | noat (C f : Str) | fnv (x : Str) (i : Nat)
  deriving DecidableEq
/-- where one stands, statically -/
structure Cst where
  N : List Str
  sc : Scope
  fn : Str → Bool
  G : List (Str × GI)
  /-- may a lambda be made here; the frames that calls must leave -/
  lam : Option Str
  rm : Nat
def Cst.look (c : Cst) (x : Str) : Option NameKind := c.sc.names.lookup x
def Cst.vis (c : Cst) (x : Str) : Bool := decide (c.look x = some .local) || (decide (c.look x = some .cell) || decide (c.look x = some .free))
def Cst.sto (c : Cst) (x : Str) : Bool := decide (c.look x = some .local) || (decide (c.look x = some .cell) && c.fn x)
def Cst.glo (c : Cst) (x : Str) : Bool := decide (c.look x = some .globalImplicit)
def Cst.slot (c : Cst) (i : Nat) (x : Str) : Bool := decide (c.N[i]? = some x)
def Cst.is (c : Cst) (x : Str) (g : GI) : Bool := c.glo x && decide (c.G.lookup x = some g)
def Cst.blk (c : Cst) (scope : Scope) : Cst := { c with sc := relS scope c.sc, fn := fun x => scope.names.lookup x == some .cell, lam := none }
def nmOk (x : Str) : Bool := (x == ("__debug__" : Str)) == false && ((x == ("__classdict__" : Str)) == false && decide (x ≠ "__name__"))
def plain : Expr → Bool | .Starred _ _ => false | _ => true
def noSet : Expr → Bool | .Set _ _ _ => false | _ => true
def noComp : Expr → Bool | .ListComp _ _ _ _ => false | .SetComp _ _ _ _ => false | .DictComp _ _ _ _ _ => false | _ => true
def noTup : Expr → Bool | .Tuple _ _ _ => false | _ => true
def noSuper : Expr → Bool | .Call _ _ _ _ => false | _ => true
def noSlice : Expr → Bool | .Slice _ _ _ _ => false | _ => true
/-- a test by its value's truth -/
def byTruth : Expr → Bool | .BoolOp _ _ _ => false | .UnaryOp _ _ _ => false | .Compare _ _ _ _ => false | .IfExp _ _ _ _ => false | .Constant _ _ _ => false | .NamedExpr _ _ _ => false | .Tuple _ _ _ => false | _ => true
def Bi.name : Bi → Str
  | .len => "len" | .sum => "sum" | .abs => "abs" | .int => "int" | .max => "max" | .min => "min"
  | .tuple => "tuple" | .list => "list" | .all => "all" | .any => "any" | .gcd => "gcd" | .str => "str"
def Bi.gi : Bi → GI
  | .gcd => .bt "math.gcd" | _ => .free
def Me.name : Me → Str
  | .append => "append" | .pop => "pop" | .popAt => "pop" | .reverse => "reverse" | .remove => "remove"
def Ty.tx (t : Ty) : Str := Str.ofString t.name
def tysOk (c : Cst) : List Ty → List Expr → Bool
  | [], [] => true
  | t :: ts, .Name y _ :: es => decide (y = t.tx) && (c.is y .free && (nmOk y && tysOk c ts es))
  | _, _ => false
mutual
def TG.slots : TG → List Nat
  | .nm i => [i]
  | .tp ts => ts.slots
  | .ixs _ _ => []
def TGs.slots : TGs → List Nat
  | .nil => []
  | .cons t ts => t.slots ++ ts.slots
end
mutual
def TG.noIx : TG → Bool
  | .nm _ => true
  | .tp ts => ts.noIx
  | .ixs _ _ => false
def TGs.noIx : TGs → Bool
  | .nil => true
  | .cons t ts => t.noIx && ts.noIx
end
/-- the keys of a class's methods, of names that it has not, of functions as values -/
def keyM (C m : Str) : Str := C ++ ("." : Str) ++ m
def keyF (C f : Str) : Str := C ++ (":" : Str) ++ f
def keyV (x : Str) : Str := ("=" : Str) ++ x
def Cst.has (c : Cst) (x : Str) (g : GI) : Bool := decide (c.G.lookup x = some g)
def Sm.name : Sm → Str
  | .join => "join" | .split => "split" | .count => "count" | .tindex => "index"
def callvOk (c : Cst) (l : List (Str × Nat)) : Bool := l.all fun p => c.has (keyV p.1) (.fnv p.1 p.2)
def ownP (c : Cst) (own : List Nat) : List (Str × Nat) := own.map fun i => (c.N.getD i "", i)
mutual
def chk (c : Cst) : IE → Expr → Bool
  | .var i, e => match e with | .Name x _ => c.slot i x && (c.vis x && nmOk x) | _ => false
  | .int z, e => match e with | .Constant (.int i) _ _ => decide (i = z) | _ => false
  | .bl b, e => match e with | .Constant (.bool b') _ _ => decide (b = b') | _ => false
  | .non, e => match e with | .Constant .none _ _ => true | _ => false
  | .str x, e => match e with | .Constant (.str y) _ _ => decide (x = y) | _ => false
  | .glo g, e => match e with | .Name x _ => c.is x (.cst g) && nmOk x | _ => false
  | .tup es, e => match e with | .Tuple l _ _ => chks c es l | _ => false
  | .lst es, e => match e with | .List l _ => chks c es l | _ => false
  | .op o a b, e => match e with | .BinOp e1 o' e2 _ => decide (o = o') && (chk c a e1 && chk c b e2) | _ => false
  | .neg a, e => match e with | .UnaryOp .USub e1 _ => chk c a e1 | _ => false
  | .not a, e => match e with | .UnaryOp .Not e1 _ => chk c a e1 | _ => false
  | .and a b, e => match e with
    | .BoolOp .And [e1, e2] _ => chk c a e1 && chk c b e2
    | .BoolOp .And (e1 :: e2 :: e3 :: r) p => chk c a e1 && chk c b (.BoolOp .And (e2 :: e3 :: r) p)
    | _ => false
  | .or a b, e => match e with
    | .BoolOp .Or [e1, e2] _ => chk c a e1 && chk c b e2
    | .BoolOp .Or (e1 :: e2 :: e3 :: r) p => chk c a e1 && chk c b (.BoolOp .Or (e2 :: e3 :: r) p)
    | _ => false
  | .cmp o a b, e => match e with | .Compare e1 [o'] [e2] _ => decide (o = o') && (!behindInMarks o e2 && (chk c a e1 && chk c b e2)) | _ => false
  | .chain o o2 a b d, e => match e with | .Compare e1 [o', o2'] [e2, e3] _ => decide (o = o') && (decide (o2 = o2') && (!lastMarks [o, o2] [e2, e3] && (chk c a e1 && (chk c b e2 && chk c d e3)))) | _ => false
  | .ite t a b, e => match e with | .IfExp e1 e2 e3 _ => chk c t e1 && (chk c a e2 && chk c b e3) | _ => false
  | .ix a b, e => match e with | .Subscript e1 e2 _ => noSlice e2 && (chk c a e1 && chk c b e2) | _ => false
  | .sl a lo hi, e => match e with | .Subscript e1 (.Slice l h none _) _ => chk c a e1 && (chko c lo l && chko c hi h) | _ => false
  | .rev a, e => match e with | .Subscript e1 (.Slice none none (some (.UnaryOp .USub (.Constant (.int 1) _ _) _)) _) _ => chk c a e1 | _ => false
  | .call f es, e => match e with | .Call (.Name x _) (e1 :: l) [] _ => c.is x (.fn f) && (nmOk x && chks c es (e1 :: l)) | _ => false
  | .bi b es, e => match e with | .Call (.Name x _) (e1 :: l) [] _ => decide (x = b.name) && (c.is x b.gi && chks c es (e1 :: l)) | _ => false
  | .me m o es, e => match e with | .Call (.Attribute e1 nm apos) l [] cpos => decide (nm = m.name) && ((apos.endLine == cpos.line) && (noSuper e1 && (decide (l.length < 29) && (chk c o e1 && chks c es l)))) | _ => false
  | .isi a t, e => match e with | .Call (.Name x _) [e1, .Name y _] [] _ => decide (x = "isinstance") && (c.is x .free && (decide (y = t.tx) && (c.is y .free && (plain e1 && chk c a e1)))) | _ => false
  | .isis a ts, e => match e with | .Call (.Name x _) [e1, .Tuple l _ _] [] _ => decide (x = "isinstance") && (c.is x .free && (tysOk c ts l && (decide (ts ≠ [] ∧ ts.length < 100) && (plain e1 && chk c a e1)))) | _ => false
  | .comp t own it cond elt, e => match e with
    | .ListComp e1 [⟨tg, iter, ifs, as⟩] scope _ => decide (as = 0) && (noSet iter && (blkC c.N c.sc scope (ownP c own) && (t.noIx && (t.slots.all (own.contains ·) && (chkI c tg it iter && (chkT (c.blk scope) t tg && (chkc (c.blk scope) cond ifs && chk (c.blk scope) elt e1)))))))
    | _ => false
  | .tupr a, e => match e with | .Call (.Name x _) [.Call (.Name y _) [e1] [] _] [] _ => decide (x = "tuple") && (c.is x .free && (decide (y = "range") && (c.is y .free && (plain e1 && chk c a e1)))) | _ => false
  | .lstr a, e => match e with | .Call (.Name x _) [.Call (.Name y _) [e1] [] _] [] _ => decide (x = "list") && (c.is x .free && (decide (y = "range") && (c.is y .free && (plain e1 && chk c a e1)))) | _ => false
  | .dnew, e => match e with | .Dict [] [] _ => true | _ => false
  | .dget a b, e => match e with | .Subscript e1 e2 _ => noSlice e2 && (chk c a e1 && chk c b e2) | _ => false
  | .din a b, e => match e with | .Compare e1 [.In] [e2] _ => !behindInMarks .In e2 && (chk c a e1 && chk c b e2) | _ => false
  | .dget2 a b d, e => match e with | .Call (.Attribute e1 nm apos) [e2, e3] [] cpos => decide (nm = "get") && ((apos.endLine == cpos.line) && (noSuper e1 && (plain e2 && (plain e3 && (chk c a e1 && (chk c b e2 && chk c d e3)))))) | _ => false
  | .dpop a b, e => match e with | .Call (.Attribute e1 nm apos) [e2] [] cpos => decide (nm = "pop") && ((apos.endLine == cpos.line) && (noSuper e1 && (plain e2 && (chk c a e1 && chk c b e2)))) | _ => false
  | .dcomp i t own cond elt, e => match e with
    | .ListComp e1 [⟨tg, .Name x px, ifs, as⟩] scope _ => decide (as = 0) && ((c.slot i x && (c.vis x && nmOk x)) && (blkC c.N c.sc scope (ownP c own) && (t.noIx && (t.slots.all (own.contains ·) && (chkT (c.blk scope) t tg && (chkc (c.blk scope) cond ifs && chk (c.blk scope) elt e1))))))
    | _ => false
  | .sortp a, e => match e with | .Call (.Name x _) [e1] [⟨some kn, .Constant (.bool true) _ _, _⟩] _ => decide (x = "sorted") && (c.is x .free && (decide (kn = "reverse") && (plain e1 && chk c a e1))) | _ => false
  | .dkeys a, e => match e with | .Call (.Name x _) [e1] [] _ => decide (x = "list") && (c.is x .free && (plain e1 && chk c a e1)) | _ => false
  | .dlen a, e => match e with | .Call (.Name x _) [e1] [] _ => decide (x = "len") && (c.is x .free && (plain e1 && chk c a e1)) | _ => false
  | .dof a, e => match e with | .Call (.Name x _) [e1] [] _ => decide (x = "dict") && (c.is x .free && (plain e1 && chk c a e1)) | _ => false
  | .fld C f a, e => match e with | .Attribute e1 nm _ => decide (nm = f) && (noSuper e1 && (c.has (keyF C f) (.noat C f) && chk c a e1)) | _ => false
  | .new C fi es, e => match e with | .Call (.Name x _) l [] _ => decide (x = C) && (decide (1 ≤ c.rm) && (c.is x (.cls fi) && (nmOk x && chks c es l))) | _ => false
  | .mcall C m fi o es, e => match e with | .Call (.Attribute e1 nm apos) l [] cpos => decide (nm = m) && ((apos.endLine == cpos.line) && (noSuper e1 && (decide (l.length < 29) && (c.has (keyM C m) (.mth C m fi) && (chk c o e1 && chks c es l))))) | _ => false
  | .m1 k a b, e => match e with | .Call (.Attribute e1 nm apos) [e2] [] cpos => decide (nm = k.name) && ((apos.endLine == cpos.line) && (noSuper e1 && (plain e2 && (chk c a e1 && chk c b e2)))) | _ => false
  | .fst es, e => match e with | .JoinedStr (e1 :: e2 :: l) _ => chkf c es (e1 :: e2 :: l) | _ => false
  | .fnv x, e => match e with | .Name y _ => decide (y = x) && (c.glo y && (nmOk y && decide ((c.G.lookup (keyV x)).any (fun g => match g with | .fnv z _ => decide (z = x) | _ => false) = true))) | _ => false
  | .callv i l es, e => match e with | .Call (.Name y _) (e1 :: r) [] _ => (c.slot i y && (c.vis y && nmOk y)) && (callvOk c l && chks c es (e1 :: r)) | _ => false
  | .maxl a, e => match e with | .Call (.Name x _) [e1] [] _ => decide (x = "max") && (c.is x .free && (plain e1 && chk c a e1)) | _ => false
  | .maxd a b, e => match e with | .Call (.Name x _) [e1] [⟨some kn, e2, _⟩] _ => decide (x = "max") && (c.is x .free && (decide (kn = "default") && (plain e1 && (chk c a e1 && chk c b e2)))) | _ => false
  | .dmk t own it k v, e => match e with
    | .DictComp e1 e2 [⟨tg, iter, [], as⟩] scope _ => decide (as = 0) && (noSet iter && (blkC c.N c.sc scope (ownP c own) && (t.noIx && (t.slots.all (own.contains ·) && (chkI c tg it iter && (chkT (c.blk scope) t tg && (chk (c.blk scope) k e1 && chk (c.blk scope) v e2)))))))
    | _ => false
def chks (c : Cst) : IEs → List Expr → Bool
  | .nil, l => match l with | [] => true | _ => false
  | .cons e es, l => match l with | e1 :: r => plain e1 && (chk c e e1 && chks c es r) | _ => false
def chkf (c : Cst) : IEs → List Expr → Bool
  | .nil, l => match l with | [] => true | _ => false
  | .cons e es, l => match l with
    | .FormattedValue e1 cv none _ :: r => decide (cv = -1) && (chk c e e1 && chkf c es r)
    | .Constant k j p :: r => chk c e (.Constant k j p) && ((match e with | .str _ => true | _ => false) && chkf c es r)
    | _ => false
def chko (c : Cst) : IO → Option Expr → Bool
  | .no, o => match o with | none => true | _ => false
  | .so e, o => match o with | some e1 => chk c e e1 | _ => false
def chkc (c : Cst) : IC → List Expr → Bool
  | .no, o => match o with | [] => true | _ => false
  | .so e, o => match o with | [e1] => chk c e e1 | _ => false
def chkI (c : Cst) (tg : Expr) : II → Expr → Bool
  | .seq e, e1 => noSet e1 && chk c e e1
  | .rng1 a, e => match e with | .Call (.Name x _) [e1] [] _ => decide (x = "range") && (c.is x .free && (plain e1 && chk c a e1)) | _ => false
  | .rng2 a b, e => match e with | .Call (.Name x _) [e1, e2] [] _ => decide (x = "range") && (c.is x .free && (plain e1 && (plain e2 && (chk c a e1 && chk c b e2)))) | _ => false
  | .rngd a b, e => match e with | .Call (.Name x _) [e1, e2, .UnaryOp .USub (.Constant (.int i) _ _) _] [] _ => decide (x = "range") && (c.is x .free && (decide (i = 1) && (plain e1 && (plain e2 && (chk c a e1 && chk c b e2))))) | _ => false
  | .zip a b, e => match e with | .Call (.Name x _) [e1, e2] [] _ => decide (x = "zip") && (c.is x .free && (plain e1 && (plain e2 && (!noTup tg && (chk c a e1 && chk c b e2))))) | _ => false
def chkT (c : Cst) : TG → Expr → Bool
  | .nm i, e => match e with | .Name x _ => c.slot i x && (c.sto x && nmOk x) | _ => false
  | .tp ts, e => match e with | .Tuple l _ _ => chkTs c ts l | _ => false
  | .ixs o i, e => match e with | .Subscript e1 e2 _ => noSlice e2 && (chk c o e1 && chk c i e2) | _ => false
def chkTs (c : Cst) : TGs → List Expr → Bool
  | .nil, l => match l with | [] => true | _ => false
  | .cons t ts, l => match l with | e1 :: r => plain e1 && (chkT c t e1 && chkTs c ts r) | _ => false
end
/-! ### where one stands -/
def spD (K : PySem.W.Frag) (m : List D → M D) : Sp := fun vs H Q _ => ∃ ρ S ds, WS K ρ S H ∧ Reps K ρ H vs ds ∧ wp (m ds) (Post K ρ H Q) S
def GOk (X : Cx) (gl : Nat → D) (cf : Nat → List D → M D) (rm : Nat) (x : Str) : GI → Prop
  | .free => X.mg x = none
  | .bt id => X.mg x = some (.builtin id)
  | .cst g => ∃ u v, X.mg x = some u ∧ RelV v u ∧ ∀ ρ H, Rep X.K ρ H v (gl g)
  | .fn i => ∃ f fd ps k, X.mg x = some (.ref f) ∧ PySem.W.keepIn X.K (.ref f) = true ∧ Binds X.K fd ps [] ∧ Room (k + rm) X.A ∧ FnOk X.prog X.w X.K X.mg X.base CX0 k f fd ps (spD X.K (cf i))
  | .other => True
  | .cls i => X.mg x = some (.ref (He.ga X.K x)) ∧ ∃ f fd ps k, Mk X.K (He.ga X.K x) f ∧ Binds X.K fd ps [] ∧ Room (k + rm) X.A ∧ FnOk X.prog X.w X.K X.mg X.base CX0 k f fd ps (spD X.K (cf i))
  | .mth C m i => Cls X.K (He.ga X.K C) ∧ ∃ f fd ps k, Meth X.K (He.ga X.K C) m f ∧ Binds X.K fd ps [] ∧ Room (k + rm) X.A ∧ FnOk X.prog X.w X.K X.mg X.base CX0 k f fd ps (spD X.K (cf i))
  | .noat C f => Cls X.K (He.ga X.K C) ∧ NoAttr X.K (He.ga X.K C) f
  | .fnv z i => X.mg z = some (.ref (He.ga X.K z)) ∧ PySem.W.keepIn X.K (.ref (He.ga X.K z)) = true ∧ ∃ fd ps k, Binds X.K fd ps [] ∧ Room (k + rm) X.A ∧ FnOk X.prog X.w X.K X.mg X.base CX0 k (He.ga X.K z) fd ps (spD X.K (cf i))
structure Ok (gl : Nat → D) (cf : Nat → List D → M D) (c : Cst) (X : Cx) : Prop where
  N : X.N = c.N
  nd : X.N.Nodup
  sc : X.env.scope = c.sc
  fn : ∀ x, c.fn x = true → X.fn x = true
  calm : X.calm = true
  xe : X.xe = fun _ _ => False
  un : X.A.units + 65 < cLine
  G : ∀ x g, c.G.lookup x = some g → GOk X gl cf c.rm x g
  lam : ∀ nm, c.lam = some nm → nm ∈ lamNames ∧ ∃ cc P, X.env.code = .ref cc ∧ tabAd X.K nm = some P ∧ LamX.TabB X.base X.mg cc P ∧ X.env.qual ++ "<lambda>" = lamQ nm ∧ Room 3 X.A
section
variable {gl : Nat → D} {cf : Nat → List D → M D} {c : Cst} {X : Cx}
theorem Ok.slot (ok : Ok gl cf c X) {i : Nat} {x : Str} (h : c.slot i x = true) : X.N[i]? = some x := by rw [ok.N]; exact of_decide_eq_true h
theorem Ok.vis (ok : Ok gl cf c X) {x : Str} (h : c.vis x = true) : Vis X.env.scope x := by
  unfold Vis
  rw [ok.sc]
  unfold Cst.vis at h
  rcases Bool.or_eq_true_iff.mp h with h | h
  · exact .inl (of_decide_eq_true h)
  · rcases Bool.or_eq_true_iff.mp h with h | h
    · exact .inr (.inl (of_decide_eq_true h))
    · exact .inr (.inr (of_decide_eq_true h))
theorem Ok.loc (ok : Ok gl cf c X) {x : Str} (h : c.sto x = true) : L2.Loc X.env.scope x ∧ (X.fn x = true ∨ X.env.scope.names.lookup x = some .local) := by
  unfold L2.Loc
  rw [ok.sc]
  unfold Cst.sto at h
  rcases Bool.or_eq_true_iff.mp h with h | h
  · exact ⟨.inl (of_decide_eq_true h), .inr (of_decide_eq_true h)⟩
  · obtain ⟨h1, h2⟩ := and2 h
    exact ⟨.inr (of_decide_eq_true h1), .inl (ok.fn x h2)⟩
theorem Ok.is_ (ok : Ok gl cf c X) {x : Str} {g : GI} (h : c.is x g = true) : Gl X x ∧ GOk X gl cf c.rm x g := by
  obtain ⟨h1, h2⟩ := and2 h
  refine ⟨?_, ok.G x g (of_decide_eq_true h2)⟩
  show X.env.scope.names.lookup x = some .globalImplicit
  rw [ok.sc]
  exact of_decide_eq_true h1
theorem nmOk_ {x : Str} (h : nmOk x = true) : (x == ("__debug__" : Str)) = false ∧ (x == ("__classdict__" : Str)) = false ∧ x ≠ "__name__" := by
  obtain ⟨h1, h2⟩ := and2 h
  obtain ⟨h2, h3⟩ := and2 h2
  exact ⟨eq_of_beq h1, eq_of_beq h2, of_decide_eq_true h3⟩
theorem Ok.blk (ok : Ok gl cf c X) (scope : Scope) (s : Shared) (H : Hp) (C : Addr) (cl : List (Str × Addr)) (fp : List Addr) : Ok gl cf (c.blk scope) (X.blk s H scope (compEnvC scope cl C X.env) fp) where
  N := ok.N
  nd := ok.nd
  sc := by
    show relS scope X.env.scope = relS scope c.sc
    rw [ok.sc]
  fn := fun x h => h
  calm := ok.calm
  xe := rfl
  un := ok.un
  G := fun x g h => by
    have := ok.G x g h
    cases g with
    | free => exact this
    | bt id => exact this
    | cst g => exact this
    | fn i => exact this
    | other => exact this
    | cls i => exact this
    | mth C m i => exact this
    | noat C f => exact this
    | fnv z i => exact this
  lam := fun _ h => by cases h
end
/-! ### small facts of the text -/
section
theorem star_plain {e : Expr} {es : List Expr} {env : Env} (h : plain e = true) : starEach (e :: es) env = (false, eval e env) :: starEach es env := by
  cases e <;> first | rfl | cases h
theorem back_any {pos : Pos} {env : Env} : ∀ {es : List Expr}, es.all plain = true → (backTo pos (starEach es env)).any (·.1) = false
  | [], _ => rfl
  | e :: es, h => by
    rw [List.all_cons] at h
    obtain ⟨h1, h2⟩ := and2 h
    rw [star_plain h1]
    have := back_any (pos := pos) (env := env) h2
    unfold backTo at this ⊢
    rw [List.map_cons, List.any_cons, this]
    rfl
theorem back_all {pos : Pos} {env : Env} : ∀ {es : List Expr}, es.all plain = true → (backTo pos (starEach es env)).all (fun x => !x.1) = true
  | [], _ => rfl
  | e :: es, h => by
    rw [List.all_cons] at h
    obtain ⟨h1, h2⟩ := and2 h
    rw [star_plain h1]
    have := back_all (pos := pos) (env := env) h2
    unfold backTo at this ⊢
    rw [List.map_cons, List.all_cons, this]
    rfl
theorem few_ok {pos : Pos} {env : Env} {es : List Expr} (h : es.all plain = true) (hl : es.length < 29) : ((backTo pos (starEach es env)).all (fun x => !x.1) && (backToKw pos (keywordEach [] env)).all (fun x => x.1.isSome)
      && decide (es.length + ([] : List Keyword).length + (if ([] : List Keyword).isEmpty then 0 else 1) < 30)) = true := by
  rw [back_all h]
  show (true && true && decide (es.length + 0 + 0 < 30)) = true
  simp; omega
theorem asg_each {e : Expr} {es : List Expr} {env : Env} (h : plain e = true) : assignEach (e :: es) env = (false, assign e env) :: assignEach es env := by
  cases e <;> first | rfl | cases h
theorem asg_len {env : Env} : ∀ {es : List Expr}, es.all plain = true → (assignEach es env).length = es.length
  | [], _ => rfl
  | e :: es, h => by
    rw [List.all_cons] at h
    obtain ⟨h1, h2⟩ := and2 h
    rw [asg_each h1, List.length_cons, List.length_cons, asg_len h2]
theorem asg_find {env : Env} : ∀ {es : List Expr}, es.all plain = true → (assignEach es env).findIdx? (·.1) = none
  | [], _ => rfl
  | e :: es, h => by
    rw [List.all_cons] at h
    obtain ⟨h1, h2⟩ := and2 h
    rw [asg_each h1, List.findIdx?_cons, asg_find h2]
    rfl
theorem folded_ok {e : Expr} {env : Env} (h : noSet e = true) : ∀ x, foldedSetIterable e env x = pure x := by
  intro x
  cases e <;> first | rfl | cases h
theorem plainIx_ok {e : Expr} (h : noSlice e = true) : PlainIx e := by
  intro o i
  cases e <;> first | rfl | cases h
theorem super_ok {e : Expr} {m : Str} {env : Env} {w : Sem Value} (h : noSuper e = true) : attributeBase e m env w = w := by
  cases e <;> first | rfl | cases h
theorem truth_plain {e : Expr} {env : Env} (h : byTruth e = true) : ∀ whole, isTrue e env whole = (do let v ← whole; standAt e.pos; holding [v] (truthy v)) := by
  intro w
  cases e <;> first | rfl | cases h
theorem swap_none {e : Expr} {t : Option Expr} {l : Nat} {env : Env} (h : noComp e = true) : swapsWith e t l env = pure false := by
  cases e <;> first | rfl | cases h
theorem swapped_none {tg e : Expr} {env : Env} (h : noTup e = true ∨ noTup tg = true) (h2 : ∀ es p, tg ≠ .List es p) : swappedStores [tg] e env = pure none := by
  cases tg <;> cases e <;> first | exact absurd rfl (h2 _ _) | rfl | (rcases h with h | h <;> cases h)
end
end Dl
end

section
set_option Elab.async false
set_option linter.all false
set_option maxRecDepth 100000
set_option maxHeartbeats 1000000
/-! Dl: the meaning of the language is the machine's: rules for expressions -/
namespace Dl
open PySem PySem.Spec PyProof.Rows L2
section
variable {gl : Nat → D} {cf : Nat → List D → M D} {c : Cst} {X : Cx}
/-! ### readings for tests, arguments, targets, sources -/
/-- an assignment of a datum -/
def TGd (K : PySem.W.Frag) (sl : List Nat) (m : D → Sl → M Sl) : L2.TG := fun v σ H Q => ∃ ρ S env d, WS K ρ S H ∧ EnvR K ρ H σ env ∧ Rep K ρ H v d ∧
  wp (m d env) (fun env' S' => ∀ ρ' H' σ', Step ρ H ρ' H' → WS K ρ' S' H' → EnvR K ρ' H' σ' env' → (∀ own : List Nat, (∀ i ∈ sl, i ∈ own) → wipe σ' own = wipe σ own) → Q σ' H') S
def TGds (K : PySem.W.Frag) (sl : List Nat) (m : List D → Sl → M Sl) : L2.TGs := fun vs σ H Q => ∃ ρ S env ds, WS K ρ S H ∧ EnvR K ρ H σ env ∧ Reps K ρ H vs ds ∧
  wp (m ds env) (fun env' S' => ∀ ρ' H' σ', Step ρ H ρ' H' → WS K ρ' S' H' → EnvR K ρ' H' σ' env' → (∀ own : List Nat, (∀ i ∈ sl, i ∈ own) → wipe σ' own = wipe σ own) → Q σ' H') S
def GH (S : Store) : Option (Nat × List D) → Prop
  | none => True
  | some (l, ds) => S[l]? = some (.lst ds)
theorem grd1_wp {g : Option (Nat × List D)} {Q : Unit → Store → Prop} {S : Store} (h : wp (grd1 g) Q S) : GH S g ∧ Q () S := by
  unfold grd1 at h
  split at h
  · exact ⟨trivial, h⟩
  · rename_i l ds
    unfold wp at h
    by_cases e : S[l]? = some (.lst ds)
    · simp only [e, if_true] at h
      exact ⟨e, h⟩
    · simp only [e, if_false] at h
theorem grd_wp {s : Src} {Q : Unit → Store → Prop} {S : Store} (h : wp s.grd Q S) : (GH S s.guard ∧ GH S s.guard2) ∧ Q () S := by
  unfold Src.grd at h
  rw [wp_bind] at h
  obtain ⟨h1, h⟩ := grd1_wp h
  obtain ⟨h2, h⟩ := grd1_wp h
  exact ⟨⟨h1, h2⟩, h⟩
/-- the iterator J yields the items -/
def SrcOk (K : PySem.W.Frag) (ρ0 : List Addr) (H0 : Hp) (J : It) (s : Src) : Prop := ∀ (i : Nat) (ρ : List Addr) (S : Store) (H : Hp), Step ρ0 H0 ρ H → WS K ρ S H → GH S s.guard ∧ GH S s.guard2 →
  (∀ d, s.items[i]? = some d → J.go i H ∧ ∀ x H', J.yld i H x H' → Step ρ H ρ H' ∧ WS K ρ S H' ∧ Rep K ρ H' x d) ∧ (s.items.length ≤ i → J.stop i H)
def TIs (K : PySem.W.Frag) (m : Sl → M Src) : TI := fun σ H R => ∃ ρ S env, WS K ρ S H ∧ EnvR K ρ H σ env ∧
  wp (m env) (fun s S' => ∀ ρ' H' J, Step ρ H ρ' H' → WS K ρ' S' H' → SrcOk K ρ' H' J s → R J H') S

/-! ### names, constants -/
theorem r_var (ok : Ok gl cf c X) {i : Nat} {x : Str} {pos : Pos} (h : (c.slot i x && (c.vis x && nmOk x)) = true) : PE X (.Name x pos) (TD X.K (ev gl cf (.var i))) := by
  obtain ⟨h1, h2⟩ := and2 h
  obtain ⟨h2, h3⟩ := and2 h2
  obtain ⟨n1, n2, n3⟩ := nmOk_ h3
  refine PE.of (pe_var (ok.slot h1) (ok.vis h2) n1 n2) fun σ H Q ⟨ρ, S, env, w, e, q⟩ => ?_
  simp only [ev] at q
  split at q
  · rename_i d hd
    obtain ⟨v, e1, r⟩ := e.at_ i d hd
    exact ⟨v, e1, Post.same w r q⟩
  · exact q.elim
theorem r_glo (ok : Ok gl cf c X) {g : Nat} {x : Str} {pos : Pos} (h : (c.is x (.cst g) && nmOk x) = true) : PE X (.Name x pos) (TD X.K (ev gl cf (.glo g))) := by
  obtain ⟨h1, h3⟩ := and2 h
  obtain ⟨n1, n2, n3⟩ := nmOk_ h3
  obtain ⟨hg, u, v, hm, r, rep⟩ := ok.is_ h1
  refine PE.of (pe_glob hg hm r n1) fun σ H Q ⟨ρ, S, env, w, e, q⟩ => ?_
  simp only [ev] at q
  exact Post.same w (rep ρ H) q
theorem r_int {z : Int} {k : Nat} {pos : Pos} : PE X (.Constant (.int z) k pos) (TD X.K (ev gl cf (.int z))) :=
  PE.of pe_int fun σ H Q ⟨ρ, S, env, w, e, q⟩ => Post.int w q
theorem r_bl {z : Bool} {k : Nat} {pos : Pos} : PE X (.Constant (.bool z) k pos) (TD X.K (ev gl cf (.bl z))) :=
  PE.of pe_bl fun σ H Q ⟨ρ, S, env, w, e, q⟩ => Post.bl w q
theorem r_non {k : Nat} {pos : Pos} : PE X (.Constant .none k pos) (TD X.K (ev gl cf .non)) :=
  PE.of pe_non fun σ H Q ⟨ρ, S, env, w, e, q⟩ => Post.non w q
theorem r_str {z : Str} {k : Nat} {pos : Pos} : PE X (.Constant (.str z) k pos) (TD X.K (ev gl cf (.str z))) :=
  PE.of pe_str fun σ H Q ⟨ρ, S, env, w, e, q⟩ => Post.str w q
/-! ### arguments -/
theorem r_nil : PA X [] (TDs X.K (evs gl cf .nil)) := PA.of pa_nil fun σ H Q ⟨ρ, S, env, w, e, q⟩ => q ρ H [] .refl w .nil
theorem r_cons {e : IE} {es : IEs} {e1 : Expr} {r : List Expr} (hp : plain e1 = true) (h1 : PE X e1 (TD X.K (ev gl cf e))) (h2 : PA X r (TDs X.K (evs gl cf es))) : PA X (e1 :: r) (TDs X.K (evs gl cf (.cons e es))) := by
  refine PA.of (pa_cons h1 h2 (star_plain hp)) fun σ H Q h => ?_
  have h : TDs X.K (fun env => do let d ← ev gl cf e env; let ds ← evs gl cf es env; pure (d :: ds)) σ H Q := h
  refine TD.thenS h fun ρ S env d v H' w en rd q => ?_
  rw [wp_bind] at q
  refine ⟨ρ, S, env, w, en, wp_mono q fun ds S' p ρ' H'' vs st w' rs => ?_⟩
  exact p ρ' H'' _ st w' (.cons (rd.step w st) rs)
theorem r_tup {es : IEs} {l : List Expr} {k : Nat} {pos : Pos} (h : PA X l (TDs X.K (evs gl cf es))) : PE X (.Tuple l k pos) (TD X.K (ev gl cf (.tup es))) := by
  refine PE.of (pe_tupX h) fun σ H Q h => ?_
  have h : TD X.K (fun env => do let ds ← evs gl cf es env; do need (lens ds.length); pure (D.tup ds)) σ H Q := h
  refine TDs.then_ h fun ρ S env d v H' w en rd q => ?_
  simp only [wp_bind, wp_need, wp_pure] at q
  exact ⟨by rw [rd.length]; exact of_decide_eq_true q.1, _, Post.tup w rd q.2⟩
theorem r_lst {es : IEs} {l : List Expr} {pos : Pos} (h : PA X l (TDs X.K (evs gl cf es))) : PE X (.List l pos) (TD X.K (ev gl cf (.lst es))) := by
  refine PE.of (pe_lst h) fun σ H Q h => ?_
  have h : TD X.K (fun env => do let ds ← evs gl cf es env; do need (lens ds.length); newO (.lst ds)) σ H Q := h
  refine TDs.then_ h fun ρ S env d v H' w en rd q => ?_
  simp only [wp_bind, wp_need, wp_newO] at q
  exact ⟨by rw [rd.length]; exact of_decide_eq_true q.1, fun p hp => Post.lst w rd q.2 hp⟩
/-! ### operators -/
section
variable {a b : IE} {e1 e2 : Expr} {pos : Pos}
theorem r_op {o : Operator} (h1 : PE X e1 (TD X.K (ev gl cf a))) (h2 : PE X e2 (TD X.K (ev gl cf b))) : PE X (.BinOp e1 o e2 pos) (TD X.K (ev gl cf (.op o a b))) :=
  PE.of (pe_op (bop_ok o) h1 h2) fun σ H Q h => TD.op h
theorem r_neg (h1 : PE X e1 (TD X.K (ev gl cf a))) : PE X (.UnaryOp .USub e1 pos) (TD X.K (ev gl cf (.neg a))) := by
  refine PE.of (pe_un un_neg h1) fun σ H Q h => ?_
  have h : TD X.K (fun env => do let x ← ev gl cf a env; (match x with | .int i => pure (D.int (-i)) | _ => fail)) σ H Q := h
  refine TD.then_ (m := ev gl cf a) (f := fun x _ => (match x with | .int i => pure (D.int (-i)) | _ => fail)) h fun ρ S env d v H' w en rd q => ?_
  split at q
  · cases rd.int_
    exact ⟨_, rfl, Post.int w q⟩
  · exact q.elim
theorem r_cmp (ok : Ok gl cf c X) {o : CmpOp} (hb : (!behindInMarks o e2) = true) (h1 : PE X e1 (TD X.K (ev gl cf a))) (h2 : PE X e2 (TD X.K (ev gl cf b))) : PE X (.Compare e1 [o] [e2] pos) (TD X.K (ev gl cf (.cmp o a b))) :=
  PE.of (pe_cmpR (cop_ok (by have := ok.un; omega) o) h1 h2 (by simpa using hb)) fun σ H Q h => TD.op (f := fun x y => do let r ← cop o x y; pure (.bl r)) h
theorem t_cmp (ok : Ok gl cf c X) {o : CmpOp} (hb : (!behindInMarks o e2) = true) (h1 : PE X e1 (TD X.K (ev gl cf a))) (h2 : PE X e2 (TD X.K (ev gl cf b))) : PT X (.Compare e1 [o] [e2] pos) (TB X.K (tst gl cf (.cmp o a b))) := by
  refine PT.of (pt_cmpR (cop_ok (by have := ok.un; omega) o) h1 h2 (by simpa using hb)) fun σ H Q h => ?_
  obtain ⟨ρ, S, env, w, e, h⟩ := h
  refine TD.op (f := fun x y => do let r ← cop o x y; pure (.bl r)) ⟨ρ, S, env, w, e, ?_⟩
  simp only [tst, wp_bind, wp_pure] at h ⊢
  refine wp_mono h fun x S1 h => wp_mono h fun y S2 h => wp_mono h fun r S3 h => ?_
  intro ρ' H' v st w' rv
  exact ⟨r, rv.bl_, h ρ' H' st w'⟩
theorem chain_step (ok : Ok gl cf c X) {o : CmpOp} {x y : D} {v u : V} {ρ : List Addr} {S : Store} {H : Hp} (w : WS X.K ρ S H) (rx : Rep X.K ρ H v x) (ry : Rep X.K ρ H u y) {R : Bool → Store → Prop} (h : wp (cop o x y) R S)
    {Q : VK} (k : ∀ r S' ρ' H', Step ρ H ρ' H' → WS X.K ρ' S' H' → R r S' → Q (.bl r) H') : rC X.K o v u H Q := by
  refine ⟨ρ, S, x, y, w, rx, ry, ?_⟩
  simp only [wp_bind, wp_pure]
  refine wp_mono h fun r S' h ρ' H' v st w' rv => ?_
  cases rv.bl_
  exact k r S' ρ' H' st w' h
theorem r_chain (ok : Ok gl cf c X) {o o2 : CmpOp} {d : IE} {e3 : Expr} (hb : (!lastMarks [o, o2] [e2, e3]) = true) (h1 : PE X e1 (TD X.K (ev gl cf a))) (h2 : PE X e2 (TD X.K (ev gl cf b))) (h3 : PE X e3 (TD X.K (ev gl cf d))) :
    PE X (.Compare e1 [o, o2] [e2, e3] pos) (TD X.K (ev gl cf (.chain o o2 a b d))) := by
  refine PE.of (pe_chain (cop_ok (by have := ok.un; omega) o) (cop_ok (by have := ok.un; omega) o2) h1 h2 h3 (by simpa using hb)) fun σ H Q h => ?_
  obtain ⟨ρ, S, env, w, e, h⟩ := h
  simp only [ev, wp_bind] at h
  refine ⟨ρ, S, env, w, e, wp_mono h fun x S1 h ρ1 H1 v st1 w1 rv => ⟨ρ1, S1, env, w1, e.step w st1, wp_mono h fun y S2 h ρ2 H2 u st2 w2 ru => ?_⟩⟩
  refine chain_step ok w2 (rv.step w1 st2) ru h fun r S3 ρ3 H3 st3 w3 h => ⟨r, rfl, ?_⟩
  have e3 := ((e.step w st1).step w1 st2).step w2 st3
  cases r with
  | true =>
    simp only [if_true, wp_bind] at h ⊢
    refine ⟨ρ3, S3, env, w3, e3, wp_mono h fun z S4 h ρ4 H4 u' st4 w4 rz => ?_⟩
    exact ⟨ρ4, S4, y, z, w4, (ru.step w2 st3).step w3 st4, rz, by
      rw [wp_bind]
      exact wp_mono h fun r' S5 p => p.step (((st1.trans st2).trans st3).trans st4)⟩
  | false =>
    rw [if_neg Bool.false_ne_true]
    exact h ρ3 H3 _ ((st1.trans st2).trans st3) w3 (.bl _)
theorem t_chain (ok : Ok gl cf c X) {o o2 : CmpOp} {d : IE} {e3 : Expr} (hb : (!lastMarks [o, o2] [e2, e3]) = true) (h1 : PE X e1 (TD X.K (ev gl cf a))) (h2 : PE X e2 (TD X.K (ev gl cf b))) (h3 : PE X e3 (TD X.K (ev gl cf d))) :
    PT X (.Compare e1 [o, o2] [e2, e3] pos) (TB X.K (tst gl cf (.chain o o2 a b d))) := by
  refine PT.of (pt_chain (cop_ok (by have := ok.un; omega) o) (cop_ok (by have := ok.un; omega) o2) h1 h2 h3 (by simpa using hb)) fun σ H Q h => ?_
  obtain ⟨ρ, S, env, w, e, h⟩ := h
  simp only [tst, wp_bind] at h
  refine ⟨ρ, S, env, w, e, wp_mono h fun x S1 h ρ1 H1 v st1 w1 rv => ⟨ρ1, S1, env, w1, e.step w st1, wp_mono h fun y S2 h ρ2 H2 u st2 w2 ru => ?_⟩⟩
  refine chain_step ok w2 (rv.step w1 st2) ru h fun r S3 ρ3 H3 st3 w3 h => ⟨r, rfl, ?_⟩
  have e3 := ((e.step w st1).step w1 st2).step w2 st3
  cases r with
  | true =>
    simp only [if_true, wp_bind] at h ⊢
    refine ⟨ρ3, S3, env, w3, e3, wp_mono h fun z S4 h ρ4 H4 u' st4 w4 rz => ?_⟩
    refine chain_step ok w4 ((ru.step w2 st3).step w3 st4) rz h fun r' S5 ρ5 H5 st5 w5 h => ⟨r', rfl, ?_⟩
    exact h ρ5 H5 ((((st1.trans st2).trans st3).trans st4).trans st5) w5
  | false =>
    rw [if_neg Bool.false_ne_true]
    exact ⟨_, rfl, h ρ3 H3 ((st1.trans st2).trans st3) w3⟩
/-! ### truth, and, or, not -/
theorem t_truth {m : Sl → M D} {e : Expr} (hb : byTruth e = true) (h : PE X e (TD X.K m)) : PT X e (TB X.K fun env => do let d ← m env; truth d) := by
  refine PT.of (pt_truth h (truth_plain hb)) fun σ H Q h => ?_
  refine TD.thenB (m := m) (f := fun d _ => truth d) h fun ρ S env d v H' w en rd q => ?_
  obtain ⟨k, t, q⟩ := truth_ok w rd q
  exact ⟨k, t, q ρ H' .refl w⟩
theorem r_not (h1 : PE X e1 (TD X.K (ev gl cf a))) : PE X (.UnaryOp .Not e1 pos) (TD X.K (ev gl cf (.not a))) := by
  refine PE.of (pe_notT h1) fun σ H Q h => ?_
  have h : TD X.K (fun env => do let x ← ev gl cf a env; do let b ← truth x; pure (D.bl (!b))) σ H Q := h
  refine TD.then_ (m := ev gl cf a) (f := fun x _ => do let b ← truth x; pure (D.bl (!b))) h fun ρ S env d v H' w en rd q => ?_
  rw [wp_bind] at q
  obtain ⟨k, t, q⟩ := truth_ok w rd q
  exact ⟨k, t, Post.bl w q⟩
theorem t_not (h : PT X e1 (TB X.K (tst gl cf a))) : PT X (.UnaryOp .Not e1 pos) (TB X.K (tst gl cf (.not a))) := by
  refine PT.of (pt_not h) fun σ H Q h => ?_
  have h : TB X.K (fun env => do let b ← tst gl cf a env; pure (!b)) σ H Q := h
  exact TB.thenB (m := tst gl cf a) (f := fun b _ => pure (!b)) h fun ρ S env d H' w en q => q ρ H' .refl w
theorem t_and (h1 : PT X e1 (TB X.K (tst gl cf a))) {r : List Expr} (h2 : PW X (.BoolOp .And (e2 :: r) pos) (TB X.K (tst gl cf b))) : PW X (.BoolOp .And (e1 :: e2 :: r) pos) (TB X.K (tst gl cf (.and a b))) := by
  refine PW.of (pw_and h1 h2) fun σ H Q h => ?_
  have h : TB X.K (fun env => do let x ← tst gl cf a env; (if x = true then tst gl cf b env else pure false)) σ H Q := h
  refine TB.thenB (m := tst gl cf a) (f := fun x env => (if x = true then tst gl cf b env else pure false)) h fun ρ S env d H' w en q => ?_
  cases d with
  | true => rw [if_pos rfl] at q ⊢; exact ⟨ρ, S, env, w, en, q⟩
  | false => rw [if_neg Bool.false_ne_true] at q ⊢; exact q ρ H' .refl w
theorem t_or (h1 : PT X e1 (TB X.K (tst gl cf a))) {r : List Expr} (h2 : PW X (.BoolOp .Or (e2 :: r) pos) (TB X.K (tst gl cf b))) : PW X (.BoolOp .Or (e1 :: e2 :: r) pos) (TB X.K (tst gl cf (.or a b))) := by
  refine PW.of (pw_or h1 h2) fun σ H Q h => ?_
  have h : TB X.K (fun env => do let x ← tst gl cf a env; (if x = true then pure true else tst gl cf b env)) σ H Q := h
  refine TB.thenB (m := tst gl cf a) (f := fun x env => (if x = true then pure true else tst gl cf b env)) h fun ρ S env d H' w en q => ?_
  cases d with
  | true => rw [if_pos rfl] at q ⊢; exact q ρ H' .refl w
  | false => rw [if_neg Bool.false_ne_true] at q ⊢; exact ⟨ρ, S, env, w, en, q⟩
theorem r_and (h1 : PE X e1 (TD X.K (ev gl cf a))) {r : List Expr} (h2 : PE X (.BoolOp .And (e2 :: r) pos) (TD X.K (ev gl cf b))) : PE X (.BoolOp .And (e1 :: e2 :: r) pos) (TD X.K (ev gl cf (.and a b))) := by
  refine PE.of (pe_andT h1 h2) fun σ H Q h => ?_
  have h : TD X.K (fun env => do let x ← ev gl cf a env; do let k ← truth x; (if k = true then ev gl cf b env else pure x)) σ H Q := h
  refine TD.then_ (m := ev gl cf a) (f := fun x env => do let k ← truth x; (if k = true then ev gl cf b env else pure x)) h fun ρ S env d v H' w en rd q => ?_
  rw [wp_bind] at q
  obtain ⟨k, t, q⟩ := truth_ok w rd q
  refine ⟨k, t, ?_⟩
  cases k with
  | true => rw [if_pos rfl] at q ⊢; exact ⟨ρ, S, env, w, en, q⟩
  | false => rw [if_neg Bool.false_ne_true] at q ⊢; exact Post.same w rd q
theorem r_or (h1 : PE X e1 (TD X.K (ev gl cf a))) {r : List Expr} (h2 : PE X (.BoolOp .Or (e2 :: r) pos) (TD X.K (ev gl cf b))) : PE X (.BoolOp .Or (e1 :: e2 :: r) pos) (TD X.K (ev gl cf (.or a b))) := by
  refine PE.of (pe_orT h1 h2) fun σ H Q h => ?_
  have h : TD X.K (fun env => do let x ← ev gl cf a env; do let k ← truth x; (if k = true then pure x else ev gl cf b env)) σ H Q := h
  refine TD.then_ (m := ev gl cf a) (f := fun x env => do let k ← truth x; (if k = true then pure x else ev gl cf b env)) h fun ρ S env d v H' w en rd q => ?_
  rw [wp_bind] at q
  obtain ⟨k, t, q⟩ := truth_ok w rd q
  refine ⟨k, t, ?_⟩
  cases k with
  | true => rw [if_pos rfl] at q ⊢; exact Post.same w rd q
  | false => rw [if_neg Bool.false_ne_true] at q ⊢; exact ⟨ρ, S, env, w, en, q⟩
end

/-! ### conditional, subscripts -/
section
variable {a b d : IE} {e1 e2 e3 : Expr} {pos : Pos}
theorem r_ite (h1 : PT X e1 (TB X.K (tst gl cf d))) (h2 : PE X e2 (TD X.K (ev gl cf a))) (h3 : PE X e3 (TD X.K (ev gl cf b))) : PE X (.IfExp e1 e2 e3 pos) (TD X.K (ev gl cf (.ite d a b))) := by
  refine PE.of (pe_ifExp h1 h2 h3) fun σ H Q h => ?_
  have h : TD X.K (fun env => do let x ← tst gl cf d env; (if x = true then ev gl cf a env else ev gl cf b env)) σ H Q := h
  refine TB.then_ (m := tst gl cf d) (f := fun x env => (if x = true then ev gl cf a env else ev gl cf b env)) h fun ρ S env d H' w en q => ?_
  cases d with
  | true => rw [if_pos rfl] at q ⊢; exact ⟨ρ, S, env, w, en, q⟩
  | false => rw [if_neg Bool.false_ne_true] at q ⊢; exact ⟨ρ, S, env, w, en, q⟩
theorem r_ix (hs : noSlice e2 = true) (h1 : PE X e1 (TD X.K (ev gl cf a))) (h2 : PE X e2 (TD X.K (ev gl cf b))) : PE X (.Subscript e1 e2 pos) (TD X.K (ev gl cf (.ix a b))) :=
  PE.of (pe_ix ixD_ok h1 h2 (plainIx_ok hs)) fun σ H Q h => TD.op h
def TOd (K : PySem.W.Frag) (m : Sl → M (Option Int)) : TO := fun σ H Q => ∃ ρ S env, WS K ρ S H ∧ EnvR K ρ H σ env ∧ wp (m env) (fun o S' => ∀ ρ' H', Step ρ H ρ' H' → WS K ρ' S' H' → Q o H') S
theorem PO.of {e : Option Expr} {t t' : TO} (h : PO X e t) (k : ∀ σ H Q, t' σ H Q → t σ H Q) : PO X e t' := ⟨fun pins s σ H Q I hw => h.run pins s σ H Q I (k σ H Q hw)⟩
theorem r_no : PO X none (TOd X.K (evo gl cf .no)) := PO.of po_none fun σ H Q ⟨ρ, S, env, w, en, h⟩ => h ρ H .refl w
theorem r_so (h1 : PE X e1 (TD X.K (ev gl cf a))) : PO X (some e1) (TOd X.K (evo gl cf (.so a))) := by
  refine PO.of (po_some h1) fun σ H Q ⟨ρ, S, env, w, en, h⟩ => ⟨ρ, S, env, w, en, ?_⟩
  simp only [evo, wp_bind] at h
  refine wp_mono h fun d S' q ρ' H' v st w' rv => ?_
  unfold asInt at q
  split at q
  · cases rv.int_
    exact ⟨_, rfl, q ρ' H' st w'⟩
  · exact q.elim
theorem r_sl {lo hi : IO} {l h : Option Expr} {p2 : Pos} (h1 : PE X e1 (TD X.K (ev gl cf a))) (h2 : PO X l (TOd X.K (evo gl cf lo))) (h3 : PO X h (TOd X.K (evo gl cf hi))) : PE X (.Subscript e1 (.Slice l h none p2) pos) (TD X.K (ev gl cf (.sl a lo hi))) := by
  refine PE.of (pe_slice slD_ok h1 h2 h3) fun σ H Q ⟨ρ, S, env, w, en, h⟩ => ?_
  simp only [ev, wp_bind] at h
  refine ⟨ρ, S, env, w, en, wp_mono h fun d S1 h ρ1 H1 v st1 w1 rv => ⟨ρ1, S1, env, w1, en.step w st1, wp_mono h fun l' S2 h ρ2 H2 st2 w2 => ⟨ρ2, S2, env, w2, (en.step w st1).step w1 st2, wp_mono h fun h' S3 h ρ3 H3 st3 w3 => ?_⟩⟩⟩
  exact ⟨ρ3, S3, d, w3, (rv.step w1 st2).step w2 st3, wp_mono h fun d' S4 p => p.step ((st1.trans st2).trans st3)⟩
theorem r_rev {k : Nat} {p1 p2 p3 : Pos} (h1 : PE X e1 (TD X.K (ev gl cf a))) : PE X (.Subscript e1 (.Slice none none (some (.UnaryOp .USub (.Constant (.int 1) k p1) p2)) p3) pos) (TD X.K (ev gl cf (.rev a))) :=
  PE.of (rev_ok h1) fun σ H Q h => TD.un (f := revD) h
end
/-! ### calls -/
section
variable {es : IEs} {e1 : Expr} {l : List Expr} {x : Str} {p pos : Pos}
theorem r_call (ok : Ok gl cf c X) {f : Nat} (h : (c.is x (.fn f) && nmOk x) = true) (hp : (e1 :: l).all plain = true) (ha : PA X (e1 :: l) (TDs X.K (evs gl cf es))) : PE X (.Call (.Name x p) (e1 :: l) [] pos) (TD X.K (ev gl cf (.call f es))) := by
  obtain ⟨h1, h3⟩ := and2 h
  obtain ⟨n1, n2, n3⟩ := nmOk_ h3
  obtain ⟨hg, fa, fd, ps, k, hm, hk, hb, hr, F⟩ := ok.is_ h1
  rw [List.all_cons] at hp
  obtain ⟨p1, p2⟩ := and2 hp
  refine PE.of (pe_call (E := E0) F (hr.mono (Nat.le_add_right _ _)) hg hm hk hb .nil pass0 ha n1 (star_plain p1) (back_any p2)) fun σ H Q h => ?_
  have h : TD X.K (fun env => do let ds ← evs gl cf es env; cf f ds) σ H Q := h
  refine TDs.then_ (m := evs gl cf es) (f := fun ds _ => cf f ds) h fun ρ S env d v H' w en rd q => ?_
  show spD X.K (cf f) (v ++ []) H' Q E0
  rw [List.append_nil]
  exact ⟨ρ, S, d, w, rd, q⟩
theorem bi_boot (b : Bi) (h : b ≠ .gcd) : bootBuiltins b.name = some b.val := by cases b <;> first | exact absurd rfl h | decide +kernel
theorem bi_nm (b : Bi) : b.name ≠ "__name__" ∧ (b.name == ("__debug__" : Str)) = false := by cases b <;> exact ⟨by decide +kernel, by decide +kernel⟩
theorem r_bi (ok : Ok gl cf c X) {b : Bi} (h : c.is b.name b.gi = true) (hp : (e1 :: l).all plain = true) (ha : PA X (e1 :: l) (TDs X.K (evs gl cf es))) : PE X (.Call (.Name b.name p) (e1 :: l) [] pos) (TD X.K (ev gl cf (.bi b es))) := by
  obtain ⟨hg, hm⟩ := ok.is_ h
  rw [List.all_cons] at hp
  obtain ⟨p1, p2⟩ := and2 hp
  obtain ⟨n1, n2⟩ := bi_nm b
  have hc := bi_ok ok.calm b
  have main : PE X (.Call (.Name b.name p) (e1 :: l) [] pos) (tCB (rDs X.K (biRun b)) (TDs X.K (evs gl cf es))) := by
    cases b with
    | gcd => exact pe_callBfun hc hg hm ha n2 (star_plain p1) (back_any p2)
    | len => exact pe_callB hc hg hm (bi_boot .len (by decide)) ha n1 n2 (star_plain p1) (back_any p2)
    | sum => exact pe_callB hc hg hm (bi_boot .sum (by decide)) ha n1 n2 (star_plain p1) (back_any p2)
    | abs => exact pe_callB hc hg hm (bi_boot .abs (by decide)) ha n1 n2 (star_plain p1) (back_any p2)
    | max => exact pe_callB hc hg hm (bi_boot .max (by decide)) ha n1 n2 (star_plain p1) (back_any p2)
    | min => exact pe_callB hc hg hm (bi_boot .min (by decide)) ha n1 n2 (star_plain p1) (back_any p2)
    | all => exact pe_callB hc hg hm (bi_boot .all (by decide)) ha n1 n2 (star_plain p1) (back_any p2)
    | any => exact pe_callB hc hg hm (bi_boot .any (by decide)) ha n1 n2 (star_plain p1) (back_any p2)
    | int => exact pe_callTy hc hg hm (bi_boot .int (by decide)) ha n1 n2 (star_plain p1) (back_any p2)
    | tuple => exact pe_callTy hc hg hm (bi_boot .tuple (by decide)) ha n1 n2 (star_plain p1) (back_any p2)
    | list => exact pe_callTy hc hg hm (bi_boot .list (by decide)) ha n1 n2 (star_plain p1) (back_any p2)
    | str => exact pe_callTy hc hg hm (bi_boot .str (by decide)) ha n1 n2 (star_plain p1) (back_any p2)
  exact PE.of main fun σ H Q h => TDs.cb (f := biRun b) h
/-! ### methods of lists -/
theorem isL_wp {K : PySem.W.Frag} {ρ : List Addr} {S : Store} {H : Hp} {d : D} {v : V} {R : Unit → Store → Prop} (w : WS K ρ S H) (r : Rep K ρ H v d) (h : wp (isL d) R S) : tyV K "list" v H ∧ R () S := by
  unfold isL at h
  split at h
  · obtain ⟨a, rfl, h1⟩ := r.ref_
    simp only [wp_bind, wp_getO] at h
    obtain ⟨o1, e1, h⟩ := h
    split at h
    · obtain ⟨xs, g1, r1⟩ := w.lst h1 e1
      exact ⟨.inl ⟨rfl, xs, SqL.of g1⟩, h⟩
    · exact h.elim
  · exact h.elim
theorem me_core {o : IE} {m : Me} {σ : L2.St} {H : Hp} {Q : VK} (h : TD X.K (ev gl cf (.me m o es)) σ H Q) : tBM X.K "list" (rDm X.K (meRun m)) (TD X.K (ev gl cf o)) (TDs X.K (evs gl cf es)) σ H Q := by
  have h : TD X.K (fun env => do let x ← ev gl cf o env; (do isL x; let ds ← evs gl cf es env; meRun m x ds)) σ H Q := h
  refine TD.then_ (m := ev gl cf o) (f := fun x env => do isL x; let ds ← evs gl cf es env; meRun m x ds) h fun ρ S env d v H' w en rd q => ?_
  rw [wp_bind] at q
  obtain ⟨ty, q⟩ := isL_wp w rd q
  rw [wp_bind] at q
  refine ⟨ty, ρ, S, env, w, en, wp_mono q fun ds S1 q ρ1 H1 vs st1 w1 rs => ?_⟩
  exact ⟨ρ1, S1, d, ds, w1, rd.step w st1, rs, wp_mono q fun d' S2 p => p.step st1⟩
theorem r_me0 (hu : X.A.units + 65 < cLine) {o : IE} {m : Me} {e : Expr} {apos : Pos} (hl : (apos.endLine == pos.line) = true) (hs : noSuper e = true) (h1 : PE X e (TD X.K (ev gl cf o))) (he : PA X [] (TDs X.K (evs gl cf es))) (hm : (m = .pop ∨ m = .reverse)) :
    PE X (.Call (.Attribute e m.name apos) [] [] pos) (TD X.K (ev gl cf (.me m o .nil))) := by
  have core : PE X (.Call (.Attribute e m.name apos) [] [] pos) (tBM0 X.K "list" (rDm X.K (meRun m)) (TD X.K (ev gl cf o))) := by
    rcases hm with rfl | rfl
    · exact pe_bm0 PySem.F.plainAttrs_list PySem.F.slot_list_pop PySem.F.type_list_pop (me_ok hu .pop) h1 (super_ok hs) hl
    · exact pe_bm0 PySem.F.plainAttrs_list PySem.F.slot_list_reverse PySem.F.type_list_reverse (me_ok hu .reverse) h1 (super_ok hs) hl
  refine PE.of core fun σ H Q h => ?_
  have h : TD X.K (fun env => do let x ← ev gl cf o env; (do isL x; let ds ← evs gl cf .nil env; meRun m x ds)) σ H Q := h
  refine TD.then_ (m := ev gl cf o) (f := fun x env => do isL x; let ds ← evs gl cf .nil env; meRun m x ds) h fun ρ S env d v H' w en rd q => ?_
  rw [wp_bind] at q
  obtain ⟨ty, q⟩ := isL_wp w rd q
  exact ⟨ty, ρ, S, d, [], w, rd, .nil, q⟩
theorem r_me (hu : X.A.units + 65 < cLine) {o : IE} {m : Me} {e : Expr} {apos : Pos} (hl : (apos.endLine == pos.line) = true) (hs : noSuper e = true) (hf : (e1 :: l).length < 29) (hp : (e1 :: l).all plain = true) (h1 : PE X e (TD X.K (ev gl cf o))) (ha : PA X (e1 :: l) (TDs X.K (evs gl cf es)))
    (hm : (m = .append ∨ m = .popAt ∨ m = .remove)) : PE X (.Call (.Attribute e m.name apos) (e1 :: l) [] pos) (TD X.K (ev gl cf (.me m o es))) := by
  rw [List.all_cons] at hp
  have hp' : (e1 :: l).all plain = true := by rw [List.all_cons]; exact hp
  obtain ⟨p1, p2⟩ := and2 hp
  have core : PE X (.Call (.Attribute e m.name apos) (e1 :: l) [] pos) (tBM X.K "list" (rDm X.K (meRun m)) (TD X.K (ev gl cf o)) (TDs X.K (evs gl cf es))) := by
    rcases hm with rfl | rfl | rfl
    · exact pe_bm PySem.F.plainAttrs_list PySem.F.slot_list_append PySem.F.type_list_append (me_ok hu .append) h1 ha (super_ok hs) (few_ok hp' hf) hl (star_plain p1) (back_any p2)
    · exact pe_bm PySem.F.plainAttrs_list PySem.F.slot_list_pop PySem.F.type_list_pop (me_ok hu .popAt) h1 ha (super_ok hs) (few_ok hp' hf) hl (star_plain p1) (back_any p2)
    · exact pe_bm PySem.F.plainAttrs_list PySem.F.slot_list_remove PySem.F.type_list_remove (me_ok hu .remove) h1 ha (super_ok hs) (few_ok hp' hf) hl (star_plain p1) (back_any p2)
  exact PE.of core fun σ H Q h => me_core h
/-! ### isinstance -/
theorem ty_boot (t : Ty) : bootBuiltins t.tx = some (.type t.name) ∧ t.tx ≠ "__name__" ∧ (t.tx == ("__debug__" : Str)) = false := by cases t <;> exact ⟨by decide +kernel, by decide +kernel, by decide +kernel⟩
theorem r_ty (ok : Ok gl cf c X) {t : Ty} (h : c.is t.tx .free = true) : PE X (.Name t.tx p) (tC (.ty t.name)) := by
  obtain ⟨hg, hm⟩ := ok.is_ h
  obtain ⟨b1, b2, b3⟩ := ty_boot t
  exact pe_bltn hg hm b1 rfl b2 b3
theorem r_isi (ok : Ok gl cf c X) {a : IE} {t : Ty} {p2 : Pos} (h : c.is "isinstance" .free = true) (ht : c.is t.tx .free = true) (hp : plain e1 = true) (h1 : PE X e1 (TD X.K (ev gl cf a))) :
    PE X (.Call (.Name "isinstance" p) [e1, .Name t.tx p2] [] pos) (TD X.K (ev gl cf (.isi a t))) := by
  obtain ⟨hg, hm⟩ := ok.is_ h
  refine PE.of (pe_callB (isi1_ok t) hg hm (by decide +kernel) (pa_cons h1 (pa_cons (r_ty ok ht) pa_nil rfl) (star_plain hp)) (by decide +kernel) (by decide +kernel) (star_plain hp) rfl) fun σ H Q h => ?_
  have h : TD X.K (fun env => do let x ← ev gl cf a env; isiRun x [t]) σ H Q := h
  exact TD.then_ (m := ev gl cf a) (f := fun x _ => isiRun x [t]) h fun ρ S env d v H' w en rd q => ⟨v, ρ, S, d, rfl, w, rd, q⟩
theorem r_tys (ok : Ok gl cf c X) : ∀ {ts : List Ty} {l : List Expr}, tysOk c ts l = true → l.all plain = true ∧ ∃ t, PA X l t ∧ ∀ σ H Q, Q (ts.map fun t => V.ty t.name) H → t σ H Q
  | [], [], _ => ⟨rfl, _, pa_nil, fun σ H Q q => q⟩
  | [], _ :: _, h => by cases h
  | _ :: _, [], h => by cases h
  | t :: ts, e :: es, h => by
    cases e with
    | Name y py =>
      simp only [tysOk] at h
      obtain ⟨h1, h2⟩ := and2 h
      obtain ⟨h2, h3⟩ := and2 h2
      obtain ⟨h3, h4⟩ := and2 h3
      have e1 := of_decide_eq_true h1
      subst e1
      obtain ⟨p1, t', a1, k⟩ := r_tys ok h4
      exact ⟨by rw [List.all_cons, p1]; rfl, _, pa_cons (r_ty ok h2) a1 rfl, fun σ H Q q => k σ H _ q⟩
    | _ => cases h
theorem r_isis (ok : Ok gl cf c X) {a : IE} {ts : List Ty} {p2 : Pos} {k : Nat} (h : c.is "isinstance" .free = true) (ht : tysOk c ts l = true) (hne : ts ≠ [] ∧ ts.length < 100) (hp : plain e1 = true) (h1 : PE X e1 (TD X.K (ev gl cf a))) :
    PE X (.Call (.Name "isinstance" p) [e1, .Tuple l k p2] [] pos) (TD X.K (ev gl cf (.isis a ts))) := by
  obtain ⟨hg, hm⟩ := ok.is_ h
  obtain ⟨p1, t', a1, kk⟩ := r_tys ok ht
  refine PE.of (pe_callB (isiN_ok ts hne.1) hg hm (by decide +kernel) (pa_cons h1 (pa_cons (pe_tup a1) pa_nil rfl) (star_plain hp)) (by decide +kernel) (by decide +kernel) (star_plain hp) rfl) fun σ H Q h => ?_
  have h : TD X.K (fun env => do let x ← ev gl cf a env; isiRun x ts) σ H Q := h
  refine TD.then_ (m := ev gl cf a) (f := fun x _ => isiRun x ts) h fun ρ S env d v H' w en rd q => ?_
  refine kk σ H' _ ⟨?_, fun tp htp => ?_⟩
  · rw [List.length_map, sizeLine_eq]
    have := hne.2
    omega
  · exact ⟨v, tp, ρ, S, d, rfl, upd_same, w.tup htp, by have := rd.step w (Step.tup (u := .tup (ts.map fun t => V.ty t.name)) htp); exact this, wp_mono q fun d' S' p => p.step (Step.tup htp)⟩
theorem rgR {K : PySem.W.Frag} {ρ : List Addr} {H : Hp} (b : Int) : Reps K ρ H (rgV 0 b) (rngItems 0 b) := by
  unfold rgV rngItems
  generalize (b - 0).toNat = n
  have : ∀ l : List Nat, Reps K ρ H (l.map fun i => V.int (0 + (i : Nat))) (l.map fun (k : Nat) => D.int (0 + k)) := fun l => by
    induction l with
    | nil => exact .nil
    | cons a l ih => exact .cons (.int _) ih
  exact this _
theorem isX_rng {i : Int} (h : 1 ≤ i) : isX (rngItems 0 i) = false := by
  unfold rngItems
  obtain ⟨n, hn⟩ : ∃ n : Nat, (i - 0).toNat = n + 1 := ⟨i.toNat - 1, by omega⟩
  rw [hn, List.range_succ_eq_map]
  rfl
theorem rngOk_ {i : Int} (h : rngOk i = true) : RgOk 0 i := by
  obtain ⟨h1, h2⟩ := and2 h
  obtain ⟨a, b⟩ := and2 h1
  have a := dec a; have b := dec b; have h2 := dec h2
  exact ⟨by decide, by decide, a, b, by omega⟩
theorem r_tupr (ok : Ok gl cf c X) {a : IE} {p2 p3 : Pos} (h : c.is "tuple" .free = true) (h' : c.is "range" .free = true) (hp : plain e1 = true) (h1 : PE X e1 (TD X.K (ev gl cf a))) :
    PE X (.Call (.Name "tuple" p) [.Call (.Name "range" p2) [e1] [] p3] [] pos) (TD X.K (ev gl cf (.tupr a))) := by
  obtain ⟨hg, hm⟩ := ok.is_ h
  obtain ⟨hg2, hm2⟩ := ok.is_ h'
  refine PE.of (pe_tupRg ok.calm hg hm (prg_1 hg2 hm2 h1 (star_plain hp)) rfl) fun σ H Q h => ?_
  have h : TD X.K (fun env => do let x ← ev gl cf a env; (match x with | .int i => (do need (rngOk i && decide (1 ≤ i)); pure (.tup (rngItems 0 i))) | _ => fail)) σ H Q := h
  refine TD.then_ (m := ev gl cf a) (f := fun x _ => (match x with | .int i => (do need (rngOk i && decide (1 ≤ i)); pure (.tup (rngItems 0 i))) | _ => fail)) h fun ρ S env d v H' w en rd q => ?_
  split at q
  · cases rd.int_
    simp only [wp_bind, wp_need, wp_pure] at q
    exact ⟨_, rfl, rngOk_ (and2 q.1).1, fun p hp => Post.tup0 w (rgR _) (isX_rng (dec (and2 q.1).2)) q.2 hp⟩
  · exact q.elim
theorem r_lstr (ok : Ok gl cf c X) {a : IE} {p2 p3 : Pos} (h : c.is "list" .free = true) (h' : c.is "range" .free = true) (hp : plain e1 = true) (h1 : PE X e1 (TD X.K (ev gl cf a))) :
    PE X (.Call (.Name "list" p) [.Call (.Name "range" p2) [e1] [] p3] [] pos) (TD X.K (ev gl cf (.lstr a))) := by
  obtain ⟨hg, hm⟩ := ok.is_ h
  obtain ⟨hg2, hm2⟩ := ok.is_ h'
  refine PE.of (pe_listRg ok.calm hg hm (prg_1 hg2 hm2 h1 (star_plain hp)) rfl) fun σ H Q h => ?_
  have h : TD X.K (fun env => do let x ← ev gl cf a env; (match x with | .int i => (do need (rngOk i); newO (.lst (rngItems 0 i))) | _ => fail)) σ H Q := h
  refine TD.then_ (m := ev gl cf a) (f := fun x _ => (match x with | .int i => (do need (rngOk i); newO (.lst (rngItems 0 i))) | _ => fail)) h fun ρ S env d v H' w en rd q => ?_
  split at q
  · cases rd.int_
    simp only [wp_bind, wp_need, wp_newO] at q
    exact ⟨_, rfl, rngOk_ q.1, fun p hp => Post.lst w (rgR _) q.2 hp⟩
  · exact q.elim
end
end
end Dl
end

section
set_option Elab.async false
set_option linter.all false
set_option maxRecDepth 100000
set_option maxHeartbeats 1000000
/-! Dl: targets and sources -/
namespace Dl
open PySem PySem.Spec PyProof.Rows L2
section
variable {gl : Nat → D} {cf : Nat → List D → M D} {c : Cst} {X : Cx}
/-! ### targets -/
theorem wipe_set_out {σ : L2.St} {i : Nat} {x : Option V} : ∀ {vs : List Nat}, i ∉ vs → wipe (σ.set i x) vs = (wipe σ vs).set i x
  | [], _ => rfl
  | v :: vs, h => by
    simp only [List.mem_cons, not_or] at h
    unfold L2.wipe
    rw [wipe_set_out h.2, List.set_comm _ _ h.1]
theorem wipe_set {σ : L2.St} {i : Nat} {x : Option V} : ∀ {vs : List Nat}, i ∈ vs → wipe (σ.set i x) vs = wipe σ vs
  | v :: vs, h => by
    unfold L2.wipe
    by_cases hm : i ∈ vs
    · rw [wipe_set hm]
    · have e : i = v := by
        rcases List.mem_cons.mp h with e | h
        · exact e
        · exact absurd h hm
      subst e
      rw [wipe_set_out hm, List.set_set]
theorem wipe_wipe_mem {σ : L2.St} : ∀ (us vs : List Nat), (∀ i ∈ us, i ∈ vs) → wipe (wipe σ us) vs = wipe σ vs
  | [], _, _ => rfl
  | u :: us, vs, h => by
    show wipe ((wipe σ us).set u none) vs = wipe σ vs
    rw [wipe_set (h u List.mem_cons_self), wipe_wipe_mem us vs fun i hi => h i (List.mem_cons_of_mem _ hi)]
theorem wipe_wipe {σ : L2.St} (vs : List Nat) : wipe (wipe σ vs) vs = wipe σ vs := wipe_wipe_mem vs vs fun _ h => h
theorem g_nm (ok : Ok gl cf c X) {i : Nat} {x : Str} {pos : Pos} (h : (c.slot i x && (c.sto x && nmOk x)) = true) : PG X (.Name x pos) (TGd X.K [i] (asg gl cf (.nm i))) := by
  obtain ⟨h1, h2⟩ := and2 h
  obtain ⟨h2, h3⟩ := and2 h2
  obtain ⟨l1, l2⟩ := ok.loc h2
  have g := pg_name (pos := pos) ok.nd (ok.slot h1) l1 l2
  refine ⟨fun pins s σ H v u Q I r hw => g.run pins s σ H v u Q I r ?_⟩
  obtain ⟨ρ, S, env, d, w, en, rd, q⟩ := hw
  simp only [asg, wp_bind, wp_need, wp_pure] at q
  exact q.2 ρ H _ .refl w (en.set rd) fun own ho => wipe_set (ho i (by simp))
theorem g_nil : PGs X [] (TGds X.K [] (asgs gl cf .nil)) := by
  refine ⟨fun pins s σ H vs us Q I r hw => pgs_nil.run pins s σ H vs us Q I r ?_⟩
  obtain ⟨ρ, S, env, ds, w, en, rd, q⟩ := hw
  cases rd with
  | nil =>
    simp only [asgs, wp_pure] at q
    exact ⟨rfl, q ρ H σ .refl w en fun _ _ => rfl⟩
  | cons _ _ => simp only [asgs, wp_fail] at q
theorem g_cons {t : TG} {ts : TGs} {s1 s2 : List Nat} {e : Expr} {es : List Expr} (hp : plain e = true) (h1 : PG X e (TGd X.K s1 (asg gl cf t))) (h2 : PGs X es (TGds X.K s2 (asgs gl cf ts))) : PGs X (e :: es) (TGds X.K (s1 ++ s2) (asgs gl cf (.cons t ts))) := by
  have g := pgs_cons h1 h2 (by rw [asg_each hp]; rfl)
  refine ⟨fun pins s σ H vs us Q I r hw => g.run pins s σ H vs us Q I r ?_⟩
  obtain ⟨ρ, S, env, ds, w, en, rd, q⟩ := hw
  cases rd with
  | nil => simp only [asgs, wp_fail] at q
  | cons r1 r2 =>
    simp only [asgs, wp_bind] at q
    refine ⟨_, _, rfl, ρ, S, env, _, w, en, r1, wp_mono q fun env1 S1 q ρ1 H1 σ1 st1 w1 en1 k1 => ?_⟩
    refine ⟨ρ1, S1, env1, _, w1, en1, r2.step w st1, wp_mono q fun env2 S2 q ρ2 H2 σ2 st2 w2 en2 k2 => ?_⟩
    exact q ρ2 H2 σ2 (st1.trans st2) w2 en2 fun own ho => (k2 own fun i hi => ho i (List.mem_append_right _ hi)).trans (k1 own fun i hi => ho i (List.mem_append_left _ hi))
theorem g_tp (ok : Ok gl cf c X) {ts : TGs} {sl : List Nat} {l : List Expr} {k : Nat} {pos : Pos} (hp : l.all plain = true) (hl : l.length = ts.len) (h : PGs X l (TGds X.K sl (asgs gl cf ts))) : PG X (.Tuple l k pos) (TGd X.K sl (asg gl cf (.tp ts))) := by
  refine ⟨fun pins s σ H v u Q I r hw => ?_⟩
  obtain ⟨ρ, S, env, d, w, en, rd, q⟩ := hw
  simp only [asg, wp_bind, unpk] at q
  obtain ⟨a, xs, ds, rfl, hq, rs, q⟩ := getS_wp w rd q
  simp only [wp_bind, wp_need, wp_pure] at q
  obtain ⟨hn, q⟩ := q
  have hn := dec hn
  have hlen : xs.length = l.length := by rw [rs.length, hn, hl]
  rcases hq with hq | hq
  · exact (pg_lst (pos := pos) ok.calm h (asg_len hp) (asg_find hp)).run pins s σ H _ u Q I r ⟨a, xs, rfl, hq, hlen, ρ, S, env, ds, w, en, rs, q⟩
  · exact (pg_tup (pos := pos) ok.calm h (asg_len hp) (asg_find hp)).run pins s σ H _ u Q I r ⟨a, xs, rfl, hq, hlen, ρ, S, env, ds, w, en, rs, q⟩
theorem sub_assign {e1 e2 : Expr} {pos : Pos} {env : Env} (hs : noSlice e2 = true) : ∀ v, assign (.Subscript e1 e2 pos) env v = (do
      let ov ← holding [v] (eval e1 env)
      let iv ← holding [v, ov] (eval e2 env)
      standAt pos
      holding [v, ov, iv] (setItem ov iv v)
      release [v, ov, iv] []) := by
  intro v
  cases e2 <;> first | rfl | cases hs
theorem g_ixs {o i : IE} {e1 e2 : Expr} {pos : Pos} (hs : noSlice e2 = true) (h1 : PE X e1 (TD X.K (ev gl cf o))) (h2 : PE X e2 (TD X.K (ev gl cf i))) : PG X (.Subscript e1 e2 pos) (TGd X.K [] (asg gl cf (.ixs o i))) := by
  have g := pg_sub (pos := pos) h1 h2 set_ok (sub_assign hs)
  refine ⟨fun pins s σ H v u Q I r hw => g.run pins s σ H v u Q I r ?_⟩
  obtain ⟨ρ, S, env, d, w, en, rd, q⟩ := hw
  simp only [asg, wp_bind, wp_pure] at q
  refine ⟨ρ, S, env, w, en, wp_mono q fun x S1 q ρ1 H1 v1 st1 w1 r1 => ⟨ρ1, S1, env, w1, en.step w st1, wp_mono q fun y S2 q ρ2 H2 v2 st2 w2 r2 => ?_⟩⟩
  refine ⟨ρ2, S2, x, y, d, w2, r1.step w1 st2, r2, (rd.step w st1).step w1 st2, wp_mono q fun _ S3 q ρ3 H3 st3 w3 => ?_⟩
  exact q ρ3 H3 σ ((st1.trans st2).trans st3) w3 (((en.step w st1).step w1 st2).step w2 st3) fun _ _ => rfl
/-! ### sources -/
theorem Step.slot {ρ ρ' : List Addr} {H H' : Hp} (st : Step ρ H ρ' H') {l : Nat} {a : Addr} (h : ρ[l]? = some a) : ρ'[l]? = some a := by
  obtain ⟨τ, rfl⟩ := st.pre
  rw [List.getElem?_append_left (List.getElem?_eq_some_iff.mp h).1]
  exact h
section
variable {K : PySem.W.Frag} {ρ0 : List Addr} {S0 : Store} {H0 : Hp}
theorem src_tup (w0 : WS K ρ0 S0 H0) {a : Addr} {xs : List V} {ds : List D} (h : SqT K H0 a xs) (r : Reps K ρ0 H0 xs ds) : SrcOk K ρ0 H0 (Itt K a) ⟨ds, none, none⟩ := by
  intro i ρ S H st w _
  have sq := (st.kp w0).sqt h
  have rs := r.step w0 st
  refine ⟨fun d hd => ?_, fun hi => ⟨xs, sq, by rw [rs.length]; exact hi⟩⟩
  obtain ⟨v, e1, r1⟩ := rs.get hd
  refine ⟨⟨xs, v, sq, e1⟩, fun x H' y => ?_⟩
  obtain ⟨rfl, y⟩ := y
  have := y xs sq
  rw [e1] at this; cases this
  exact ⟨.refl, w, r1⟩
theorem src_ro (w0 : WS K ρ0 S0 H0) {a : Addr} {xs : List V} {ds : List D} (h : SqF K H0 a xs) (r : Reps K ρ0 H0 xs ds) : SrcOk K ρ0 H0 (Itl K a) ⟨ds, none, none⟩ := by
  intro i ρ S H st w _
  have sq := ((st.kp w0).sqf h).sql
  have rs := r.step w0 st
  refine ⟨fun d hd => ?_, fun hi => ⟨xs, sq, by rw [rs.length]; exact hi⟩⟩
  obtain ⟨v, e1, r1⟩ := rs.get hd
  refine ⟨⟨xs, v, sq, e1⟩, fun x H' y => ?_⟩
  obtain ⟨rfl, y⟩ := y
  have := y xs sq
  rw [e1] at this; cases this
  exact ⟨.refl, w, r1⟩
theorem src_lst {l : Nat} {a : Addr} {ds : List D} (h : ρ0[l]? = some a) : SrcOk K ρ0 H0 (Itl K a) ⟨ds, some (l, ds), none⟩ := by
  intro i ρ S H st w g
  obtain ⟨xs, hx, rs⟩ := w.lst (st.slot h) g.1
  have sq : SqL K H a xs := SqL.of hx
  refine ⟨fun d hd => ?_, fun hi => ⟨xs, sq, by rw [rs.length]; exact hi⟩⟩
  obtain ⟨v, e1, r1⟩ := rs.get hd
  refine ⟨⟨xs, v, sq, e1⟩, fun x H' y => ?_⟩
  obtain ⟨rfl, y⟩ := y
  have := y xs sq
  rw [e1] at this; cases this
  exact ⟨.refl, w, r1⟩
theorem src_rng {lo hi : Int} : SrcOk K ρ0 H0 (Itr lo (hi - lo).toNat) ⟨rngItems lo hi, none, none⟩ := by
  intro i ρ S H st w g
  refine ⟨fun d hd => ?_, fun h => ?_⟩
  · unfold rngItems at hd
    rw [List.getElem?_map] at hd
    cases e : (List.range (hi - lo).toNat)[i]? with
    | none => rw [e] at hd; cases hd
    | some k =>
      rw [e] at hd
      cases hd
      obtain ⟨h1, h2⟩ := List.getElem?_eq_some_iff.mp e
      rw [List.length_range] at h1
      rw [List.getElem_range] at h2
      subst h2
      refine ⟨h1, fun x H' y => ?_⟩
      obtain ⟨rfl, rfl⟩ := y
      exact ⟨.refl, w, .int _⟩
  · unfold rngItems at h
    rw [List.length_map, List.length_range] at h
    exact h
/-- what one side of a zip is -/
inductive Side (K : PySem.W.Frag) (ρ0 : List Addr) (S0 : Store) (H0 : Hp) (v : V) (s : Src) : Prop where
  | t {a : Addr} {xs : List V} {ds : List D} (e : v = .ref a) (hs : s = ⟨ds, none, none⟩) (h : SqT K H0 a xs) (r : Reps K ρ0 H0 xs ds)
  | f {a : Addr} {xs : List V} {ds : List D} (e : v = .ref a) (hs : s = ⟨ds, none, none⟩) (h : SqF K H0 a xs) (r : Reps K ρ0 H0 xs ds)
  | l {a : Addr} {l : Nat} {ds : List D} (e : v = .ref a) (hs : s = ⟨ds, some (l, ds), none⟩) (h : ρ0[l]? = some a) (h2 : S0[l]? = some (.lst ds))
theorem seqSrc_wp (w : WS K ρ0 S0 H0) {d : D} {v : V} (r : Rep K ρ0 H0 v d) {R : Src → Store → Prop} (h : wp (seqSrc d) R S0) : ∃ s, Side K ρ0 S0 H0 v s ∧ R s S0 := by
  unfold seqSrc at h
  split at h
  · obtain ⟨a, xs, rfl, hx, r1⟩ := r.tup_
    exact ⟨_, .t rfl rfl hx r1, h⟩
  · obtain ⟨a, xs, rfl, hx, r1⟩ := r.ro_
    exact ⟨_, .f rfl rfl hx r1, h⟩
  · obtain ⟨a, rfl, h1⟩ := r.ref_
    simp only [wp_bind, wp_getO] at h
    obtain ⟨o, e, h⟩ := h
    split at h
    · exact ⟨_, .l rfl rfl h1 e, h⟩
    · exact h.elim
  · exact h.elim
end
theorem i_seq {a : IE} {tg e : Expr} (h1 : PE X e (TD X.K (ev gl cf a))) : PI X tg e (TIs X.K (evi gl cf (.seq a))) := by
  refine ⟨fun pins s σ H R I h => ?_⟩
  obtain ⟨ρ, S, env, w, en, h⟩ := h
  simp only [evi, wp_bind] at h
  have hd : TD X.K (ev gl cf a) σ H (fun v H' => ∃ ρ' S' J, WS X.K ρ' S' H' ∧ R J H' ∧ ∃ a, v = .ref a ∧ ((J = Itt X.K a ∧ ∃ xs, SqT X.K H' a xs) ∨ (J = Itl X.K a ∧ ∃ xs, SqL X.K H' a xs))) := by
    refine ⟨ρ, S, env, w, en, wp_mono h fun d S1 h ρ1 H1 v st1 w1 rv => ?_⟩
    obtain ⟨sr, sd, q⟩ := seqSrc_wp w1 rv h
    cases sd with
    | t e hs hx r =>
      subst e hs
      exact ⟨ρ1, S1, _, w1, q ρ1 H1 _ st1 w1 (src_tup w1 hx r), _, rfl, .inl ⟨rfl, _, hx⟩⟩
    | f e hs hx r =>
      subst e hs
      exact ⟨ρ1, S1, _, w1, q ρ1 H1 _ st1 w1 (src_ro w1 hx r), _, rfl, .inr ⟨rfl, _, hx.sql⟩⟩
    | l e hs hx h2 =>
      subst e hs
      obtain ⟨xs, hx2, _⟩ := w1.lst hx h2
      exact ⟨ρ1, S1, _, w1, q ρ1 H1 _ st1 w1 (src_lst hx), _, rfl, .inr ⟨rfl, xs, SqL.of hx2⟩⟩
  refine thn (h1.run pins s σ H _ I hd) fun v s1 ⟨x, H1, I1, r1, q1⟩ => ?_
  obtain ⟨ρ1, S1, J, w1, q, a, rfl, hJ⟩ := q1
  cases r1
  have fp : ∀ b ∈ [s1.heap.objs.size], FpOk X pins H1 b := fun b hb => by
    have e : b = s1.heap.objs.size := by simpa using hb
    subst e
    exact I1.fpOk (Nat.le_refl _) (I1.hok.fresh (Nat.le_refl _))
  rcases hJ with ⟨rfl, xs, hq⟩ | ⟨rfl, xs, hq⟩
  · obtain ⟨its, rv, p, hz⟩ := I1.tuple hq
    refine wpAny_pyIter_tuple (show s1.heap.IsTuple a its.toArray from p) ?_
    exact ⟨s1.heap.objs.size, [s1.heap.objs.size], _, _, H1, rfl, I1.kept (t' := s1.toks) fun b o e => Heap.get?_push_of_some _ e, turn_tuple a _, ⟨_, Heap.get?_push_size _ rfl, rfl, rfl⟩, fp, q⟩
  · obtain ⟨its, rv, p, hz⟩ := I1.list hq
    refine wpAny_pyIter_list p.isList ?_
    exact ⟨s1.heap.objs.size, [s1.heap.objs.size], _, _, H1, rfl, I1.kept (t' := s1.toks) fun b o e => Heap.get?_push_of_some _ e, turn_list a _, ⟨_, Heap.get?_push_size _ rfl, rfl, rfl⟩, fp, q⟩
theorem small62_ {i : Int} (h : small62 i = true) : -(2 ^ 62) ≤ i ∧ i < 2 ^ 62 := by
  obtain ⟨a, b⟩ := and2 h
  exact ⟨dec a, dec b⟩
theorem i_rng1 (ok : Ok gl cf c X) {a : IE} {tg e1 : Expr} {p pos : Pos} (h : c.is "range" .free = true) (hp : plain e1 = true) (h1 : PE X e1 (TD X.K (ev gl cf a))) : PI X tg (.Call (.Name "range" p) [e1] [] pos) (TIs X.K (evi gl cf (.rng1 a))) := by
  obtain ⟨hg, hm⟩ := ok.is_ h
  have g := pi_range1 (tg := tg) (p := p) (pos := pos) hg hm (pa_cons h1 pa_nil (star_plain hp)) (by rw [star_plain hp]; rfl)
  refine ⟨fun pins s σ H R I h => g.run pins s σ H R I ?_⟩
  obtain ⟨ρ, S, env, w, en, h⟩ := h
  simp only [evi, wp_bind] at h
  refine ⟨ρ, S, env, w, en, wp_mono h fun d S1 h ρ1 H1 v st1 w1 rv => ?_⟩
  cases d with
  | int j =>
    cases rv.int_
    simp only [rngSrc, wp_bind, wp_need, wp_pure] at h
    obtain ⟨hb, h⟩ := h
    obtain ⟨b1, b2⟩ := and2 hb
    obtain ⟨c1, c2⟩ := small62_ b2
    refine ⟨j, rfl, c1, c2, ?_⟩
    have := h ρ1 H1 _ st1 w1 src_rng
    rw [Int.sub_zero] at this
    exact this
  | _ => exact h.elim
theorem i_rng2 (ok : Ok gl cf c X) {a b : IE} {tg e1 e2 : Expr} {p pos : Pos} (h : c.is "range" .free = true) (hp : plain e1 = true) (hp2 : plain e2 = true) (h1 : PE X e1 (TD X.K (ev gl cf a))) (h2 : PE X e2 (TD X.K (ev gl cf b))) :
    PI X tg (.Call (.Name "range" p) [e1, e2] [] pos) (TIs X.K (evi gl cf (.rng2 a b))) := by
  obtain ⟨hg, hm⟩ := ok.is_ h
  have s2 : starEach [e2] X.env = [(false, eval e2 X.env)] := by rw [star_plain hp2]; rfl
  have g := pi_range2 (tg := tg) (p := p) (pos := pos) hg hm (pa_cons h1 (pa_cons h2 pa_nil (star_plain hp2)) (star_plain hp)) (by rw [star_plain hp, s2]) s2
  refine ⟨fun pins s σ H R I h => g.run pins s σ H R I ?_⟩
  obtain ⟨ρ, S, env, w, en, h⟩ := h
  simp only [evi, wp_bind] at h
  refine ⟨ρ, S, env, w, en, wp_mono h fun d S1 h ρ1 H1 v st1 w1 rv => ⟨ρ1, S1, env, w1, en.step w st1, wp_mono h fun d2 S2 h ρ2 H2 v2 st2 w2 rv2 => ?_⟩⟩
  unfold rngSrc at h
  split at h
  · cases rv.int_
    cases rv2.int_
    simp only [wp_bind, wp_need, wp_pure] at h
    obtain ⟨hb, h⟩ := h
    obtain ⟨b1, b2⟩ := and2 hb
    obtain ⟨c1, c2⟩ := small62_ b1
    obtain ⟨c3, c4⟩ := small62_ b2
    exact ⟨_, _, rfl, ⟨c1, c2, c3, c4⟩, h ρ2 H2 _ (st1.trans st2) w2 src_rng⟩
  · exact h.elim

/-! ### zip -/
section
variable {K : PySem.W.Frag} {ρ0 : List Addr} {S0 : Store} {H0 : Hp}
theorem seqSrc_wp2 (w : WS K ρ0 S0 H0) {d : D} {v : V} (r : Rep K ρ0 H0 v d) {R : Src → Store → Prop} (h : wp (seqSrc d) R S0) :
    ∃ a s, v = .ref a ∧ s.guard2 = none ∧ R s S0 ∧ ((isTup d = true ∧ s.guard = none ∧ ∃ xs, SqT K H0 a xs ∧ Reps K ρ0 H0 xs s.items) ∨
      (isTup d = false ∧ (∃ xs, SqL K H0 a xs) ∧ ∀ ρ S H, Step ρ0 H0 ρ H → WS K ρ S H → GH S s.guard → ∃ xs, SqL K H a xs ∧ Reps K ρ H xs s.items)) := by
  unfold seqSrc at h
  split at h
  · obtain ⟨a, xs, rfl, hx, r1⟩ := r.tup_
    exact ⟨a, _, rfl, rfl, h, .inl ⟨rfl, rfl, xs, hx, r1⟩⟩
  · obtain ⟨a, xs, rfl, hx, r1⟩ := r.ro_
    exact ⟨a, _, rfl, rfl, h, .inr ⟨rfl, ⟨xs, hx.sql⟩, fun ρ S H st w' _ => ⟨xs, ((st.kp w).sqf hx).sql, r1.step w st⟩⟩⟩
  · obtain ⟨a, rfl, h1⟩ := r.ref_
    simp only [wp_bind, wp_getO] at h
    obtain ⟨o, e, h⟩ := h
    split at h
    · obtain ⟨xs, hx, _⟩ := w.lst h1 e
      refine ⟨a, _, rfl, rfl, h, .inr ⟨rfl, ⟨xs, SqL.of hx⟩, fun ρ S H st w' g => ?_⟩⟩
      obtain ⟨ys, hy, ry⟩ := w'.lst (st.slot h1) g
      exact ⟨ys, SqL.of hy, ry⟩
    · exact h.elim
  · exact h.elim
theorem zipX {xs ys : List D} (h : ((xs.zip ys).all fun p => !isX [p.1, p.2]) = true) {i : Nat} {x y : D} (ex : xs[i]? = some x) (ey : ys[i]? = some y) : isX [x, y] = false := by
  have := List.all_eq_true.mp h (x, y) (List.mem_of_getElem? (i := i) (List.getElem?_zip_eq_some.mpr ⟨ex, ey⟩))
  simpa using this
theorem zip_get {α β γ : Type} {xs : List α} {ys : List β} {f : α × β → γ} {i : Nat} {z : γ} (h : ((xs.zip ys).map f)[i]? = some z) : ∃ x y, xs[i]? = some x ∧ ys[i]? = some y ∧ z = f (x, y) := by
  rw [List.getElem?_map] at h
  cases e : (xs.zip ys)[i]? with
  | none => rw [e] at h; cases h
  | some p =>
    rw [e] at h
    cases h
    obtain ⟨x, y⟩ := p
    obtain ⟨h1, h2⟩ := List.getElem?_zip_eq_some.mp e
    exact ⟨x, y, h1, h2, rfl⟩
end
theorem i_zip (ok : Ok gl cf c X) {a b : IE} {elts : List Expr} {kk : Nat} {tpos : Pos} {e1 e2 : Expr} {p pos : Pos} (h : c.is "zip" .free = true) (hp : plain e1 = true) (hp2 : plain e2 = true) (h1 : PE X e1 (TD X.K (ev gl cf a))) (h2 : PE X e2 (TD X.K (ev gl cf b))) :
    PI X (.Tuple elts kk tpos) (.Call (.Name "zip" p) [e1, e2] [] pos) (TIs X.K (evi gl cf (.zip a b))) := by
  obtain ⟨hg, hm⟩ := ok.is_ h
  have g := RZ.pi_zipA (p := p) (pos := pos) (tpos := tpos) (elts := elts) (kk := kk) hg hm (pa_cons h1 (pa_cons h2 pa_nil (star_plain hp2)) (star_plain hp)) (star_plain hp) (back_any (by simp [hp2]))
  refine ⟨fun pins s σ H R I h => g.run pins s σ H R I ?_⟩
  obtain ⟨ρ, S, env, w, en, h⟩ := h
  simp only [evi, wp_bind] at h
  refine ⟨ρ, S, env, w, en, wp_mono h fun d S1 h ρ1 H1 v st1 w1 rv => ⟨ρ1, S1, env, w1, en.step w st1, wp_mono h fun d2 S2 h ρ2 H2 v2 st2 w2 rv2 => ?_⟩⟩
  unfold zipSrc at h
  simp only [wp_bind, wp_need] at h
  obtain ⟨ht, h⟩ := h
  have ht : isTup d = isTup d2 := by simpa using ht
  obtain ⟨a1, s1, rfl, g1, h, k1⟩ := seqSrc_wp2 w2 (rv.step w1 st2) h
  obtain ⟨a2, s2, rfl, g2, h, k2⟩ := seqSrc_wp2 w2 rv2 h
  simp only [wp_bind, wp_need, wp_pure] at h
  obtain ⟨hX, h⟩ := h
  have st := st1.trans st2
  rcases k1 with ⟨t1, q1, xs, hx, rx⟩ | ⟨t1, ⟨xs, hx⟩, k1⟩
  · rcases k2 with ⟨t2, q2, ys, hy, ry⟩ | ⟨t2, k2⟩
    · refine ⟨a1, a2, xs, ys, rfl, .inr ⟨hx, hy, h ρ2 H2 _ st w2 ?_⟩⟩
      intro i ρ3 S3 H3 st3 w3 _
      have sx := (st3.kp w2).sqt hx
      have sy := (st3.kp w2).sqt hy
      have rx3 := rx.step w2 st3
      have ry3 := ry.step w2 st3
      refine ⟨fun z hz => ?_, fun hi => ⟨xs, ys, sx, sy, ?_⟩⟩
      · obtain ⟨x, y, ex, ey, rfl⟩ := zip_get hz
        obtain ⟨vx, fx, qx⟩ := rx3.get ex
        obtain ⟨vy, fy, qy⟩ := ry3.get ey
        refine ⟨⟨xs, ys, vx, vy, sx, sy, fx, fy⟩, fun u H' yl => ?_⟩
        obtain ⟨T, x', y', rfl, nT, rfl, fx', fy'⟩ := yl
        have ex' := fx' xs sx
        have ey' := fy' ys sy
        rw [fx] at ex'; cases ex'
        rw [fy] at ey'; cases ey'
        have stT : Step ρ3 H3 ρ3 (upd H3 T (.tup [vx, vy])) := .tup nT
        exact ⟨stT, w3.tup nT, .tup (SqT.of upd_same) (fun _ => upd_same) (fun hx => by rw [zipX hX ex ey] at hx; cases hx) (.cons (qx.step w3 stT) (.cons (qy.step w3 stT) .nil))⟩
      · rw [List.length_map, List.length_zip] at hi
        rw [rx3.length, ry3.length]
        omega
    · rw [t1, t2] at ht; cases ht
  · rcases k2 with ⟨t2, q2, ys, hy, ry⟩ | ⟨t2, ⟨ys, hy⟩, k2⟩
    · rw [t1, t2] at ht; cases ht
    · refine ⟨a1, a2, xs, ys, rfl, .inl ⟨hx, hy, h ρ2 H2 _ st w2 ?_⟩⟩
      intro i ρ3 S3 H3 st3 w3 gd
      obtain ⟨xs3, sx, rx3⟩ := k1 ρ3 S3 H3 st3 w3 gd.1
      obtain ⟨ys3, sy, ry3⟩ := k2 ρ3 S3 H3 st3 w3 gd.2
      refine ⟨fun z hz => ?_, fun hi => ⟨xs3, ys3, sx, sy, ?_⟩⟩
      · obtain ⟨x, y, ex, ey, rfl⟩ := zip_get hz
        obtain ⟨vx, fx, qx⟩ := rx3.get ex
        obtain ⟨vy, fy, qy⟩ := ry3.get ey
        refine ⟨⟨xs3, ys3, vx, vy, sx, sy, fx, fy⟩, fun u H' yl => ?_⟩
        obtain ⟨T, x', y', rfl, nT, rfl, fx', fy'⟩ := yl
        have ex' := fx' xs3 sx
        have ey' := fy' ys3 sy
        rw [fx] at ex'; cases ex'
        rw [fy] at ey'; cases ey'
        have stT : Step ρ3 H3 ρ3 (upd H3 T (.tup [vx, vy])) := .tup nT
        exact ⟨stT, w3.tup nT, .tup (SqT.of upd_same) (fun _ => upd_same) (fun hx => by rw [zipX hX ex ey] at hx; cases hx) (.cons (qx.step w3 stT) (.cons (qy.step w3 stT) .nil))⟩
      · rw [List.length_map, List.length_zip] at hi
        rw [rx3.length, ry3.length]
        omega
/-! ### comprehensions -/
theorem WS.adopt {K : PySem.W.Frag} {ρ : List Addr} {S : Store} {H : Hp} (w : WS K ρ S H) {p : Addr} {xs : List V} {ds : List D} (hp : H p = some (.lst xs)) (hn : p ∉ ρ) (r : Reps K ρ H xs ds) : WS K (ρ ++ [p]) (S ++ [.lst ds]) H := by
  refine ⟨List.nodup_append.mpr ⟨w.nd, List.nodup_cons.mpr ⟨by simp, List.nodup_nil⟩, fun a ha b hb e => ?_⟩, by rw [List.length_append, List.length_append, w.len]; rfl, fun i a o' h1 h2 => ?_, w.tab, w.one⟩
  · rw [List.mem_singleton.mp hb] at e
    subst e
    exact hn ha
  · by_cases hi : i < ρ.length
    · rw [List.getElem?_append_left hi] at h1
      rw [List.getElem?_append_left (by rw [← w.len]; exact hi)] at h2
      exact (w.ob i a o' h1 h2).kp Kp.refl rfl
    · have e1 : i = ρ.length := by
        have := (List.getElem?_eq_some_iff.mp h1).1
        rw [List.length_append, List.length_singleton] at this
        omega
      subst e1
      rw [List.getElem?_append_right (Nat.le_refl _), Nat.sub_self] at h1
      rw [w.len, List.getElem?_append_right (Nat.le_refl _), Nat.sub_self] at h2
      simp at h1 h2
      subst h1 h2
      exact ⟨xs, hp, r.kp Kp.refl⟩
def TCs (K : PySem.W.Frag) (m : Sl → M Bool) : TT := TB K m
theorem c_no : PTs X [] (TB X.K (evc gl cf .no)) := ⟨fun pins s σ H Q I hw => by
  obtain ⟨ρ, S, env, w, en, q⟩ := hw
  exact pts_nil.run pins s σ H Q I (q ρ H .refl w)⟩
theorem c_so {a : IE} {e1 : Expr} (h1 : PT X e1 (TB X.K (tst gl cf a))) : PTs X [e1] (TB X.K (evc gl cf (.so a))) := pts_one h1
theorem drop_cons {α : Type} {l : List α} {i : Nat} {d : α} {r : List α} (h : l.drop i = d :: r) : l[i]? = some d ∧ l.drop (i + 1) = r := by
  have e : l[i]? = some d := by rw [← List.head?_drop, h]; rfl
  refine ⟨e, ?_⟩
  rw [← List.tail_drop, h]
  rfl
theorem comp_core {t : TG} {own : List Nat} {cond : IC} {elt : IE} {sl : List Nat} (hsl : ∀ i ∈ sl, i ∈ own) {σ : L2.St} {env : Sl} {s : Src} {ρ1 : List Addr} {S1 : Store} {H1 : Hp} {J : It} {R : List Dl.D → Store → Prop} {D : Addr} {Qd : Hp → Prop}
    (w1 : WS X.K ρ1 S1 H1) (en1 : EnvR X.K ρ1 H1 σ env) (src : SrcOk X.K ρ1 H1 J s) (hD : H1 D = none)
    (h : wp (compL s (fun d => do
      let env1 ← asg gl cf t d (wipeE env own)
      if ← evc gl cf cond env1 then
        let y ← ev gl cf elt env1
        pure (some y)
      else pure none) s.items []) R S1)
    (fin : ∀ ρ2 S2 H2 xs acc, WS X.K ρ2 S2 H2 → Step ρ1 H1 ρ2 H2 → D ∉ ρ2 → H2 D = some (.lst xs) → Reps X.K ρ2 H2 xs acc → R acc S2 → Qd H2) :
    ∃ W : Nat → Nat → Hp → Prop, (∃ m, W 0 m (upd H1 D (.lst []))) ∧ ∀ i m H, W i m H →
      (J.stop i H ∧ Qd H) ∨ (J.go i H ∧ ∃ Nx : Hp → Prop, (∀ H', Nx H' → ∃ m', m' < m ∧ W (i + 1) m' H') ∧ ∀ x H', J.yld i H x H' → TGd X.K sl (asg gl cf t) x (wipe σ own) H' fun σ2 H2 => wipe σ2 own = wipe σ own ∧ TB X.K (evc gl cf cond) σ2 H2 fun b H3 =>
        if b = true then TD X.K (ev gl cf elt) σ2 H3 fun y H4 => ∃ acc, H4 D = some (.lst acc) ∧ acc.length < sizeLine ∧ Nx (upd H4 D (.lst (acc ++ [y]))) else Nx H3) := by
  have hDρ : D ∉ ρ1 := w1.fresh hD
  have stD : Step ρ1 H1 ρ1 (upd H1 D (.lst [])) := .tup hD
  refine ⟨fun i m H' => ∃ ρ' S' xs acc, WS X.K ρ' S' H' ∧ Step ρ1 H1 ρ' H' ∧ D ∉ ρ' ∧ H' D = some (.lst xs) ∧ Reps X.K ρ' H' xs acc ∧ m = s.items.length - i ∧
    wp (compL s (fun d => do
      let env1 ← asg gl cf t d (wipeE env own)
      if ← evc gl cf cond env1 then
        let y ← ev gl cf elt env1
        pure (some y)
      else pure none) (s.items.drop i) acc) R S', ⟨_, ρ1, S1, [], [], w1.tup hD, stD, hDρ, upd_same, .nil, rfl, ?_⟩, ?_⟩
  · rw [List.drop_zero]
    exact h
  rintro i m H2 ⟨ρ2, S2, xs, acc, w2, st2, hn2, hx2, r2, rfl, h⟩
  cases hd : s.items.drop i with
  | nil =>
    rw [hd] at h
    simp only [compL, wp_bind, wp_pure] at h
    obtain ⟨gd, h⟩ := grd_wp h
    exact .inl ⟨(src i ρ2 S2 H2 st2 w2 gd).2 (List.drop_eq_nil_iff.mp hd), fin ρ2 S2 H2 xs acc w2 st2 hn2 hx2 r2 h⟩
  | cons d ds =>
    rw [hd] at h
    obtain ⟨hid, hdr⟩ := drop_cons hd
    have hil : i < s.items.length := (List.getElem?_eq_some_iff.mp hid).1
    simp only [compL, wp_bind] at h
    obtain ⟨gd, h⟩ := grd_wp h
    obtain ⟨go, yl⟩ := (src i ρ2 S2 H2 st2 w2 gd).1 d hid
    refine .inr ⟨go, fun H' => ∃ ρ' S' xs acc, WS X.K ρ' S' H' ∧ Step ρ1 H1 ρ' H' ∧ D ∉ ρ' ∧ H' D = some (.lst xs) ∧ Reps X.K ρ' H' xs acc ∧
      wp (compL s (fun d => do
        let env1 ← asg gl cf t d (wipeE env own)
        if ← evc gl cf cond env1 then
          let y ← ev gl cf elt env1
          pure (some y)
        else pure none) (s.items.drop (i + 1)) acc) R S', fun H' hN => ?_, fun x H3 hy => ?_⟩
    · obtain ⟨ρ', S', xs', acc', a1, a2, a3, a4, a5, a6⟩ := hN
      exact ⟨s.items.length - (i + 1), by omega, ρ', S', xs', acc', a1, a2, a3, a4, a5, rfl, a6⟩
    · rw [hdr]
      obtain ⟨sty, wy, rx⟩ := yl x H3 hy
      have hD3 : H3 D = some (.lst xs) := sty.lst hn2 hx2
      refine ⟨ρ2, S2, wipeE env own, d, wy, ((en1.step w1 st2).step w2 sty).wipe own, rx, wp_mono h fun env1 S3 h ρ3 H4 σ3 st4 w4 en4 wp4 => ?_⟩
      have k4 : Step ρ1 H1 ρ3 H4 := (st2.trans sty).trans st4
      have hn4 : D ∉ ρ3 := fun hm => by
        rcases st4.new D hm with h' | h'
        · exact hn2 h'
        · rw [hD3] at h'; cases h'
      have hD4 : H4 D = some (.lst xs) := st4.lst hn2 hD3
      have wi : wipe σ3 own = wipe σ own := by
        rw [wp4 own hsl]
        exact wipe_wipe own
      refine ⟨wi, ρ3, S3, env1, w4, en4, wp_mono h fun b S4 h ρ4 H5 st5 w5 => ?_⟩
      have hD5 : H5 D = some (.lst xs) := st5.lst hn4 hD4
      have hn5 : D ∉ ρ4 := fun hm => by
        rcases st5.new D hm with h' | h'
        · exact hn4 h'
        · rw [hD4] at h'; cases h'
      have r5 : Reps X.K ρ4 H5 xs acc := ((r2.step w2 sty).step wy st4).step w4 st5
      cases b with
      | true =>
        simp only [if_true, wp_bind, wp_pure] at h ⊢
        refine ⟨ρ4, S4, env1, w5, en4.step w4 st5, wp_mono h fun y S5 h ρ5 H6 v st6 w6 ry => ?_⟩
        have hD6 : H6 D = some (.lst xs) := st6.lst hn5 hD5
        have hn6 : D ∉ ρ5 := fun hm => by
          rcases st6.new D hm with h' | h'
          · exact hn5 h'
          · rw [hD5] at h'; cases h'
        have r6 : Reps X.K ρ5 H6 xs acc := r5.step w5 st6
        simp only [wp_bind, wp_need] at h
        obtain ⟨hl, h⟩ := h
        have hl := dec hl
        rw [← r6.length] at hl
        refine ⟨xs, hD6, hl, ρ5, S5, xs ++ [v], acc ++ [y], ?_, ?_, hn6, upd_same, ?_, h⟩
        · refine ⟨w6.nd, w6.len, fun j a o h1 h2 => ?_, fun nm hn P hP => tabM (w6.tab nm hn P hP) hD6 trivial, w6.one⟩
          have hne : a ≠ D := fun e => hn6 (by rw [← e]; exact List.mem_of_getElem? h1)
          have kp : Kp H6 (upd H6 D (.lst (xs ++ [v]))) := ⟨fun a' xs' e => by rw [upd_ne (fun z => by rw [z, hD6] at e; cases e)]; exact e, fun a' o' u' _ e => by rw [upd_ne (fun z => by rw [z, hD6] at e; cases e)]; exact e⟩
          have q := (w6.ob j a o h1 h2).kp (τ := []) kp (upd_ne hne)
          rw [List.append_nil] at q
          exact q
        · have k6 := (k4.trans st5).trans st6
          refine ⟨k6.pre, k6.new, fun a o ha e n => ?_, fun a o u e => ?_, fun a ps e => ?_⟩
          · rw [upd_ne (fun z => by rw [z, hD] at e; cases e)]
            exact k6.keep a o ha e n
          · rw [upd_ne (fun z => by rw [z, hD] at e; cases e)]
            exact k6.fz a o u e
          · rw [upd_ne (fun z => by rw [z, hD] at e; cases e)]
            exact k6.tb a ps e
        · have kp : Kp H6 (upd H6 D (.lst (xs ++ [v]))) := ⟨fun a' xs' e => by rw [upd_ne (fun z => by rw [z, hD6] at e; cases e)]; exact e, fun a' o' u' _ e => by rw [upd_ne (fun z => by rw [z, hD6] at e; cases e)]; exact e⟩
          have q := (r6.append (.cons ry .nil)).kp (τ := []) kp
          rw [List.append_nil] at q
          exact q
      | false =>
        simp only [Bool.false_eq_true, if_false, wp_pure] at h ⊢
        exact ⟨ρ4, S4, xs, acc, w5, k4.trans st5, hn5, hD5, r5, h⟩
/-- the list that stands there at the end is the store's newest -/
theorem Step.adopt {ρ ρ1 ρ2 : List Addr} {H H1 H2 : Hp} {D : Addr} (st1 : Step ρ H ρ1 H1) (st2 : Step ρ1 H1 ρ2 H2) (hD : H1 D = none) (hDρ : D ∉ ρ1) : Step ρ H (ρ2 ++ [D]) H2 := by
  have st := st1.trans st2
  obtain ⟨τ, e⟩ := st.pre
  refine ⟨⟨τ ++ [D], by rw [e, List.append_assoc]⟩, fun a ha => ?_, st.keep, st.fz, st.tb⟩
  rcases List.mem_append.mp ha with ha | ha
  · exact st.new a ha
  · rw [List.mem_singleton.mp ha]
    refine .inr ?_
    cases q : H D with
    | none => rfl
    | some u =>
      have hDr : D ∉ ρ := fun hm => hDρ (by obtain ⟨τ1, e1⟩ := st1.pre; rw [e1]; exact List.mem_append_left _ hm)
      obtain ⟨u', hu⟩ := st1.stays hDr q
      rw [hu] at hD
      cases hD
theorem r_comp (ok : Ok gl cf c X) {t : TG} {own : List Nat} {it : II} {cond : IC} {elt : IE} {tg iter : Expr} {ownp : List (Str × Nat)} {sl : List Nat} (ho : ownp.map (·.2) = own) (hsl : ∀ i ∈ sl, i ∈ own) (hi : PI X tg iter (TIs X.K (evi gl cf it)))
    {σ : L2.St} {H : Hp} {Q : VK} (h : TD X.K (ev gl cf (.comp t own it cond elt)) σ H Q) :
    tLc (TIs X.K (evi gl cf it)) (TGd X.K sl (asg gl cf t)) (TB X.K (evc gl cf cond)) (TD X.K (ev gl cf elt)) (ownp.map (·.2)) σ H Q := by
  rw [ho]
  obtain ⟨ρ, S, env, w, en, h⟩ := h
  simp only [ev, wp_bind, wp_newO] at h
  refine ⟨ρ, S, env, w, en, wp_mono h fun s S1 h ρ1 H1 J st1 w1 src => fun D hD => ?_⟩
  have hDρ : D ∉ ρ1 := w1.fresh hD
  exact comp_core hsl w1 (en.step w st1) src hD h fun ρ2 S2 H2 xs acc w2 st2 hn2 hx2 r2 q => q _ H2 _ (Step.adopt st1 st2 hD hDρ) (w2.adopt hx2 hn2 r2) (Rep.new w2)
end
end Dl
end

section
set_option Elab.async false
set_option linter.all false
set_option maxRecDepth 100000
set_option maxHeartbeats 1000000
/-! Dl: the meaning of the language is the machine's: rules for dicts and sorting -/
namespace Dl
open PySem PySem.Spec PyProof.Rows L2
section
variable {K : PySem.W.Frag} {σ : L2.St} {H : Hp}
theorem TD.two {ma mb : Sl → M D} {f : D → D → M D} {Q : VK} {R : V → V → Hp → Prop} (h : TD K (fun env => do let x ← ma env; let y ← mb env; f x y) σ H Q)
    (k : ∀ ρ S x y v u H', WS K ρ S H' → Rep K ρ H' v x → Rep K ρ H' u y → wp (f x y) (Post K ρ H' Q) S → R v u H') : TD K ma σ H fun v H1 => TD K mb σ H1 fun u H2 => R v u H2 := by
  refine TD.then_ (m := ma) (f := fun x env => do let y ← mb env; f x y) h fun ρ S env x v H' w e r h => ?_
  rw [wp_bind] at h
  refine ⟨ρ, S, env, w, e, wp_mono h fun y S' q ρ' H'' u st w' r' => ?_⟩
  exact k ρ' S' x y v u H'' w' (r.step w st) r' (wp_mono q fun d' S'' p => p.step st)
theorem TB.two {ma mb : Sl → M D} {f : D → D → M Bool} {Q : Bool → Hp → Prop} {R : V → V → Hp → Prop} (h : TB K (fun env => do let x ← ma env; let y ← mb env; f x y) σ H Q)
    (k : ∀ ρ S x y v u H', WS K ρ S H' → Rep K ρ H' v x → Rep K ρ H' u y → wp (f x y) (PostB K ρ H' Q) S → R v u H') : TD K ma σ H fun v H1 => TD K mb σ H1 fun u H2 => R v u H2 := by
  refine TD.thenB (m := ma) (f := fun x env => do let y ← mb env; f x y) h fun ρ S env x v H' w e r h => ?_
  rw [wp_bind] at h
  refine ⟨ρ, S, env, w, e, wp_mono h fun y S' q ρ' H'' u st w' r' => ?_⟩
  exact k ρ' S' x y v u H'' w' (r.step w st) r' (wp_mono q fun d' S'' p => p.step st)
end
section
variable {gl : Nat → D} {cf : Nat → List D → M D} {c : Cst} {X : Cx} {a b d : IE} {e1 e2 e3 : Expr} {pos apos cpos : Pos}
theorem r_dnew : PE X (.Dict [] [] pos) (TD X.K (ev gl cf .dnew)) := by
  refine PE.of pe_dnewT fun σ H Q ⟨ρ, S, env, w, en, q⟩ p hp => ?_
  simp only [ev, wp_newO] at q
  exact q _ _ _ (.alloc hp) (w.alloc hp ⟨[], (show upd H p (.dT []) p = some (.dT []) from upd_same), ⟨rfl, fun _ h => by simp at h⟩, .nil⟩) (Rep.new w)
theorem r_dget (ok : Ok gl cf c X) (hs : noSlice e2 = true) (h1 : PE X e1 (TD X.K (ev gl cf a))) (h2 : PE X e2 (TD X.K (ev gl cf b))) : PE X (.Subscript e1 e2 pos) (TD X.K (ev gl cf (.dget a b))) := by
  refine PE.of (pe_dget (by have := ok.un; omega) h1 h2 (plainIx_ok hs)) fun σ H Q h => ?_
  exact TD.two (f := dgetD) h fun ρ S x y v u H' w rx ry q => dget_ok w rx ry q
theorem r_din (ok : Ok gl cf c X) (hb : (!behindInMarks .In e2) = true) (h1 : PE X e1 (TD X.K (ev gl cf a))) (h2 : PE X e2 (TD X.K (ev gl cf b))) : PE X (.Compare e1 [.In] [e2] pos) (TD X.K (ev gl cf (.din a b))) := by
  refine PE.of (pe_cmp (pc_din (by have := ok.un; omega) h1 h2) (by simpa using hb)) fun σ H Q h => ?_
  refine TD.two (f := fun y x => do let r ← dinD y x; pure (.bl r)) h fun ρ S y x u v H' w ry rx q => ?_
  rw [wp_bind] at q
  obtain ⟨a, o, e, g, q⟩ := din_ok w rx ry q
  exact ⟨a, o, e, g, Post.bl w q⟩
theorem t_din (ok : Ok gl cf c X) (hb : (!behindInMarks .In e2) = true) (h1 : PE X e1 (TD X.K (ev gl cf a))) (h2 : PE X e2 (TD X.K (ev gl cf b))) : PT X (.Compare e1 [.In] [e2] pos) (TB X.K (tst gl cf (.din a b))) := by
  refine PT.of (pt_cmp (pc_din (by have := ok.un; omega) h1 h2) (by simpa using hb)) fun σ H Q h => ?_
  have h : TB X.K (fun env => do let y ← ev gl cf a env; let x ← ev gl cf b env; dinD y x) σ H Q := by
    obtain ⟨ρ, S, env, w, en, q⟩ := h
    simp only [tst] at q
    exact ⟨ρ, S, env, w, en, q⟩
  refine TB.two (f := fun y x => dinD y x) h fun ρ S y x u v H' w ry rx q => ?_
  obtain ⟨a, o, e, g, q⟩ := din_ok w rx ry q
  exact ⟨a, o, e, g, _, rfl, q ρ H' .refl w⟩
theorem r_dget2 (ok : Ok gl cf c X) (hl : (apos.endLine == cpos.line) = true) (hs : noSuper e1 = true) (p2 : plain e2 = true) (p3 : plain e3 = true) (h1 : PE X e1 (TD X.K (ev gl cf a))) (h2 : PE X e2 (TD X.K (ev gl cf b))) (h3 : PE X e3 (TD X.K (ev gl cf d))) :
    PE X (.Call (.Attribute e1 "get" apos) [e2, e3] [] cpos) (TD X.K (ev gl cf (.dget2 a b d))) := by
  have hp : [e2, e3].all plain = true := by simp [p2, p3]
  have m : M2 X e1 "get" apos e2 e3 cpos := ⟨super_ok hs, few_ok hp (by simp), hl, by rw [star_plain p2, star_plain p3]; rfl⟩
  refine PE.of (pe_dget2 (by have := ok.un; omega) h1 h2 h3 m) fun σ H Q h => ?_
  have h : TD X.K (fun env => do let x ← ev gl cf a env; (do isT x; let y ← ev gl cf b env; let z ← ev gl cf d env; dget2D x y z)) σ H Q := h
  refine TD.then_ (m := ev gl cf a) (f := fun x env => do isT x; let y ← ev gl cf b env; let z ← ev gl cf d env; dget2D x y z) h fun ρ S env x v H' w en rx q => ?_
  rw [wp_bind] at q
  obtain ⟨⟨a1, rfl, isd⟩, q⟩ := isT_wp w rx q
  simp only [wp_bind] at q
  refine ⟨a1, rfl, isd, ρ, S, env, w, en, wp_mono q fun y S1 q ρ1 H1 u st1 w1 ry => ⟨ρ1, S1, env, w1, en.step w st1, wp_mono q fun z S2 q ρ2 H2 t st2 w2 rz => ?_⟩⟩
  have st := st1.trans st2
  obtain ⟨a2, o, e, g, q⟩ := dget2_ok (Q := Q) w2 (rx.step w st) (ry.step w1 st2) rz (wp_mono q fun d' S' p => p.step st)
  cases e
  exact ⟨o, g, q⟩
theorem r_dpop (ok : Ok gl cf c X) (hl : (apos.endLine == cpos.line) = true) (hs : noSuper e1 = true) (p2 : plain e2 = true) (h1 : PE X e1 (TD X.K (ev gl cf a))) (h2 : PE X e2 (TD X.K (ev gl cf b))) :
    PE X (.Call (.Attribute e1 "pop" apos) [e2] [] cpos) (TD X.K (ev gl cf (.dpop a b))) := by
  have hp : [e2].all plain = true := by simp [p2]
  have m : M1 X e1 "pop" apos e2 cpos := ⟨super_ok hs, few_ok hp (by simp), hl, by rw [star_plain p2]; rfl⟩
  refine PE.of (pe_dpopT (by have := ok.un; omega) h1 h2 m) fun σ H Q h => ?_
  have h : TD X.K (fun env => do let x ← ev gl cf a env; (do isT x; let y ← ev gl cf b env; dpopD x y)) σ H Q := h
  refine TD.then_ (m := ev gl cf a) (f := fun x env => do isT x; let y ← ev gl cf b env; dpopD x y) h fun ρ S env x v H' w en rx q => ?_
  rw [wp_bind] at q
  obtain ⟨⟨a1, rfl, isd⟩, q⟩ := isT_wp w rx q
  simp only [wp_bind] at q
  refine ⟨a1, rfl, isd, ρ, S, env, w, en, wp_mono q fun y S1 q ρ1 H1 u st1 w1 ry => ?_⟩
  obtain ⟨a2, ws, k, b', z, e, g, eu, hb, ez, q⟩ := dpop_ok (Q := Q) w1 (rx.step w st1) ry (wp_mono q fun d' S' p => p.step st1)
  cases e
  exact ⟨ws, k, b', z, g, eu, hb, ez, q⟩
/-! ### sorted(xs, reverse=True) -/
theorem r_sortp (ok : Ok gl cf c X) {p cp kp : Pos} {k0 : Nat} (h : c.is "sorted" .free = true) (hp : plain e1 = true) (h1 : PE X e1 (TD X.K (ev gl cf a))) :
    PE X (.Call (.Name "sorted" p) [e1] [⟨some "reverse", .Constant (.bool true) k0 cp, kp⟩] pos) (TD X.K (ev gl cf (.sortp a))) := by
  obtain ⟨hg, hm⟩ := ok.is_ h
  have hks : (backToKw pos (keywordEach [(⟨some "reverse", .Constant (.bool true) k0 cp, kp⟩ : Keyword)] X.env)).filterMap (·.1) = [Str.ofString "reverse"] := by rfl
  refine PE.of (pe_callBK (x := "sorted") (cr_sortD ok.un) hg hm (by decide +kernel) (pa_cons h1 pa_nil (star_plain hp)) (pk_cons (pe_bl (b := true)) pk_nil) (by decide +kernel) (by decide +kernel) (by rw [star_plain hp]; rfl) (by rw [star_plain hp]; rfl) rfl rfl hks) fun σ H Q h => ?_
  have h : TD X.K (fun env => do let x ← ev gl cf a env; sortPD x) σ H Q := h
  exact TD.then_ (m := ev gl cf a) (f := fun x _ => sortPD x) h fun ρ S env x v H' w en rx q => sortP_ok w rx q
/-! ### the greatest -/
theorem fold_max : ∀ (ns : List Int) (n : Int), (n ≤ ns.foldl max n ∧ ∀ y ∈ ns, y ≤ ns.foldl max n) ∧ (ns.foldl max n = n ∨ ns.foldl max n ∈ ns)
  | [], n => ⟨⟨Int.le_refl _, fun y hy => by cases hy⟩, .inl rfl⟩
  | m :: ns, n => by
    obtain ⟨⟨h1, h2⟩, h3⟩ := fold_max ns (max n m)
    refine ⟨⟨by rw [List.foldl_cons]; omega, fun y hy => ?_⟩, ?_⟩
    · rw [List.foldl_cons]
      rcases List.mem_cons.mp hy with rfl | hy
      · omega
      · exact h2 y hy
    · rw [List.foldl_cons]
      rcases h3 with h3 | h3
      · rw [h3]
        by_cases c : n ≤ m
        · rw [Int.max_eq_right c]; exact .inr (by simp)
        · rw [Int.max_eq_left (by omega)]; exact .inl rfl
      · exact .inr (List.mem_cons_of_mem _ h3)
theorem maxI_is {n m : Int} {ns : List Int} (h1 : m ∈ n :: ns) (h2 : ∀ y ∈ n :: ns, y ≤ m) : m = maxI n ns := by
  obtain ⟨⟨a, b⟩, c⟩ := fold_max ns n
  unfold maxI
  have le1 : m ≤ ns.foldl max n := by
    rcases List.mem_cons.mp h1 with rfl | h1
    · exact a
    · exact b m h1
  have le2 : ns.foldl max n ≤ m := by
    rcases c with c | c
    · rw [c]; exact h2 n (by simp)
    · exact h2 _ (List.mem_cons_of_mem _ c)
  omega
theorem maxL_ok {K : PySem.W.Frag} {ρ : List Addr} {S : Store} {H : Hp} {Q : VK} {x : D} {v : V} (w : WS K ρ S H) (r : Rep K ρ H v x) (h : wp (maxLD x) (Post K ρ H Q) S) : rMax K [v] H Q := by
  unfold maxLD at h
  rw [wp_bind] at h
  obtain ⟨a, xs, ds, rfl, hs, rs, h⟩ := getL_wp w r h
  split at h
  · rename_i n ns e
    have e2 := rs.ints e
    subst e2
    refine ⟨a, n :: ns, rfl, hs, by simp, fun m h1 h2 => ?_⟩
    rw [maxI_is h1 h2]
    simp only [wp_pure] at h
    exact Post.same w (.int _) h
  · exact h.elim
theorem maxD_ok {K : PySem.W.Frag} {ρ : List Addr} {S : Store} {H : Hp} {Q : VK} {x y : D} {v u : V} (w : WS K ρ S H) (r : Rep K ρ H v x) (ru : Rep K ρ H u y) (h : wp (maxDD x y) (Post K ρ H Q) S) : rMaxDf K [v] [u] H Q := by
  unfold maxDD at h
  rw [wp_bind] at h
  obtain ⟨a, xs, ds, rfl, hs, rs, h⟩ := getL_wp w r h
  split at h
  · rename_i e
    have e2 := rs.ints e
    subst e2
    refine ⟨a, [], u, rfl, rfl, hs, fun _ => ?_, fun n ms z => by cases z⟩
    simp only [wp_pure] at h
    exact Post.same w ru h
  · rename_i n ns e
    have e2 := rs.ints e
    subst e2
    refine ⟨a, n :: ns, u, rfl, rfl, hs, (fun z => by cases z), fun n' ms z => ?_⟩
    cases z
    simp only [wp_pure] at h
    exact Post.same w (.int _) h
  · exact h.elim
theorem r_maxl (ok : Ok gl cf c X) {p : Pos} (h : c.is "max" .free = true) (hp : plain e1 = true) (h1 : PE X e1 (TD X.K (ev gl cf a))) :
    PE X (.Call (.Name "max" p) [e1] [] pos) (TD X.K (ev gl cf (.maxl a))) := by
  obtain ⟨hg, hm⟩ := ok.is_ h
  refine PE.of (pe_callB (x := "max") (cr_max ok.calm) hg hm (by decide +kernel) (pa_cons h1 pa_nil (star_plain hp)) (by decide +kernel) (by decide +kernel) (star_plain hp) (back_any rfl)) fun σ H Q h => ?_
  have h : TD X.K (fun env => do let x ← ev gl cf a env; maxLD x) σ H Q := h
  exact TD.then_ (m := ev gl cf a) (f := fun x _ => maxLD x) h fun ρ S env x v H' w en rx q => maxL_ok w rx q
theorem r_maxd (ok : Ok gl cf c X) {p kp : Pos} (h : c.is "max" .free = true) (hp : plain e1 = true) (h1 : PE X e1 (TD X.K (ev gl cf a))) (h2 : PE X e2 (TD X.K (ev gl cf b))) :
    PE X (.Call (.Name "max" p) [e1] [⟨some "default", e2, kp⟩] pos) (TD X.K (ev gl cf (.maxd a b))) := by
  obtain ⟨hg, hm⟩ := ok.is_ h
  have hks : (backToKw pos (keywordEach [(⟨some "default", e2, kp⟩ : Keyword)] X.env)).filterMap (·.1) = [Str.ofString "default"] := by rfl
  refine PE.of (pe_callBK (x := "max") (cr_maxDf ok.calm ok.un) hg hm (by decide +kernel) (pa_cons h1 pa_nil (star_plain hp)) (pk_cons h2 pk_nil) (by decide +kernel) (by decide +kernel) (by rw [star_plain hp]; rfl) (by rw [star_plain hp]; rfl) rfl rfl hks) fun σ H Q h => ?_
  have h : TD X.K (fun env => do let x ← ev gl cf a env; let y ← ev gl cf b env; maxDD x y) σ H Q := h
  exact TD.two h fun ρ S x y v u H' w rx ry q => maxD_ok w rx ry q
/-! ### list(d), len(d), dict(pairs) -/
theorem isX_unkey {k : List Key} {ds : List D} (h : IHd k) (e : unkey k = .tup ds) : isX ds = false := by
  unfold unkey at e
  cases e
  cases k with
  | nil => exact h.elim
  | cons x k => cases x <;> first | rfl | exact h.elim
theorem unkey_rep {K : PySem.W.Frag} {ρ : List Addr} {H : Hp} : ∀ (k : List Key), Reps K ρ H (k.map kV) (k.map fun x => match x with | .inl i => D.int i | .inr x => D.str x)
  | [] => .nil
  | .inl i :: k => .cons (.int i) (unkey_rep k)
  | .inr x :: k => .cons (.str x) (unkey_rep k)
theorem keys_rep {K : PySem.W.Frag} {ρ : List Addr} {H : Hp} : ∀ {ws : List (List Key × V)} {kvs : List (List Key × D)} {ys : List Addr}, RKV K ρ H ws kvs → KeysAt H ws ys → Reps K ρ H (ys.map V.ref) (kvs.map fun kv => unkey kv.1)
  | _, _, _, .nil, .nil => .nil
  | _, _, _, .cons n h r, .cons e t => .cons (.tup (SqT.of e) (fun _ => e) (fun hx => nomatch (isX_unkey n rfl).symm.trans hx) (unkey_rep _)) (keys_rep r t)
theorem getU_wp {K : PySem.W.Frag} {ρ : List Addr} {S : Store} {H : Hp} {x : D} {v : V} {R : List (List Key × D) → Store → Prop} (w : WS K ρ S H) (r : Rep K ρ H v x) (h : wp (getU x) R S) : ∃ a ws kvs, v = .ref a ∧ H a = some (.dT ws) ∧ RKV K ρ H ws kvs ∧ R kvs S := by
  unfold getU at h
  split at h
  · obtain ⟨a, rfl, h1⟩ := r.ref_
    simp only [wp_bind, wp_getO] at h
    obtain ⟨o, e, h⟩ := h
    split at h
    · obtain ⟨ws, g, rk⟩ := w.dt h1 e
      exact ⟨a, ws, _, rfl, g, rk, h⟩
    · exact h.elim
  · exact h.elim
theorem dkeys_ok {K : PySem.W.Frag} {ρ : List Addr} {S : Store} {H : Hp} {Q : VK} {x : D} {v : V} (w : WS K ρ S H) (r : Rep K ρ H v x) (h : wp (dkeysD x) (Post K ρ H Q) S) : rListT [v] H Q := by
  unfold dkeysD at h
  split at h
  · obtain ⟨a, rfl, h1⟩ := r.ref_
    simp only [wp_bind, wp_getO] at h
    obtain ⟨o, e, h⟩ := h
    split at h
    · obtain ⟨ws, g, rk⟩ := w.dt h1 e
      have g : H a = some (.dT ws) := g
      exact ⟨a, ws, rfl, g, fun p ys hp ka => Post.lst w (keys_rep rk ka) h hp⟩
    · exact h.elim
  · exact h.elim
theorem dlen_ok {K : PySem.W.Frag} {ρ : List Addr} {S : Store} {H : Hp} {Q : VK} {x : D} {v : V} (w : WS K ρ S H) (r : Rep K ρ H v x) (h : wp (dlenD x) (Post K ρ H Q) S) : rLenT [v] H Q := by
  unfold dlenD at h
  split at h
  · obtain ⟨a, rfl, h1⟩ := r.ref_
    simp only [wp_bind, wp_getO] at h
    obtain ⟨o, e, h⟩ := h
    split at h
    · obtain ⟨ws, g, rk⟩ := w.dt h1 e
      have g : H a = some (.dT ws) := g
      refine ⟨a, ws, rfl, g, ?_⟩
      rw [rk.length]
      exact Post.int w h
    · exact h.elim
  · exact h.elim
theorem entD_ {d : D} {p : List Key × D} (h : entD d = some p) : ∃ k, d = .tup [k, p.2] ∧ keyI k = some p.1 := by
  unfold entD at h
  split at h
  · split at h
    · rename_i e
      cases h
      exact ⟨_, rfl, e⟩
    · cases h
  · cases h
theorem pairs_rep {K : PySem.W.Frag} {ρ : List Addr} {H : Hp} : ∀ {xs : List V} {ds : List D} {kvs : List (List Key × D)}, Reps K ρ H xs ds → entsD ds = some kvs → ∃ (ps : List Addr) (ws : List (List Key × V)), xs = ps.map V.ref ∧ PairsAt K H ps ws ∧ RKV K ρ H ws kvs
  | _, _, kvs, .nil, e => by simp [entsD] at e; subst e; exact ⟨[], [], rfl, .nil, .nil⟩
  | _, _, kvs, .cons (d := d) (ds := ds) h r, e => by
    simp only [entsD] at e
    cases e1 : entD d with
    | none => rw [e1] at e; simp at e
    | some p =>
      cases e2 : entsD ds with
      | none => rw [e1, e2] at e; simp at e
      | some qs =>
        rw [e1, e2] at e
        cases e
        obtain ⟨ps, ws, rfl, h2, h3⟩ := pairs_rep r e2
        obtain ⟨k, rfl, ek⟩ := entD_ e1
        obtain ⟨a, vs, rfl, h4, h5⟩ := h.tup_
        obtain ⟨v, u, rfl, r1, r2⟩ := h5.two_
        obtain ⟨b, rfl, hb⟩ := keyI_rep r1 ek
        exact ⟨a :: ps, (p.1, u) :: ws, rfl, .cons ⟨b, h4, hb⟩ h2, .cons (keyI_ne ek) r2 h3⟩
theorem RKV.merge {K : PySem.W.Frag} {ρ : List Addr} {H : Hp} : ∀ {ws : List (List Key × V)} {kvs : List (List Key × D)} {ws0 : List (List Key × V)} {kvs0 : List (List Key × D)}, RKV K ρ H ws kvs → RKV K ρ H ws0 kvs0 → RKV K ρ H (mergeT ws0 ws) (kvs.foldl (fun acc q => putT acc q.1 q.2) kvs0)
  | _, _, _, _, .nil, r => r
  | _, _, _, _, .cons (k := k) n h t, r => by
    have q := RKV.merge t (r.put k n h)
    exact q
theorem dof_ok {K : PySem.W.Frag} {ρ : List Addr} {S : Store} {H : Hp} {Q : VK} {x : D} {v : V} (w : WS K ρ S H) (r : Rep K ρ H v x) (h : wp (dofD x) (Post K ρ H Q) S) : rDictT K [v] H Q := by
  unfold dofD at h
  split at h
  · split at h
    · rename_i kvs e
      simp only [wp_bind, wp_need, wp_newO] at h
      obtain ⟨hx, h⟩ := h
      obtain ⟨a, xs, rfl, h1, h2, h3⟩ := r.x_ hx
      obtain ⟨ps, ws, rfl, h4, h5⟩ := pairs_rep h3 e
      refine ⟨a, ps, ws, rfl, h1, h2, h4, fun p hp => ?_⟩
      have rk : RKV K (ρ ++ [p]) (upd H p (.dT (mergeT [] ws))) (mergeT [] ws) _ := (RKV.merge h5 .nil).kp (Kp.new hp)
      exact h _ _ _ (.alloc hp) (w.alloc hp ⟨_, (show upd H p (.dT (mergeT [] ws)) p = some (.dT (mergeT [] ws)) from upd_same), rk.kk, rk.vals⟩) (Rep.new w)
    · exact h.elim
  · exact h.elim
theorem r_dkeys (ok : Ok gl cf c X) {p : Pos} (h : c.is "list" .free = true) (hp : plain e1 = true) (h1 : PE X e1 (TD X.K (ev gl cf a))) :
    PE X (.Call (.Name "list" p) [e1] [] pos) (TD X.K (ev gl cf (.dkeys a))) := by
  obtain ⟨hg, hm⟩ := ok.is_ h
  refine PE.of (pe_callTy (x := "list") (call_listT ok.calm) hg hm (by decide +kernel) (pa_cons h1 pa_nil (star_plain hp)) (by decide +kernel) (by decide +kernel) (star_plain hp) (back_any rfl)) fun σ H Q h => ?_
  have h : TD X.K (fun env => do let x ← ev gl cf a env; dkeysD x) σ H Q := h
  exact TD.then_ (m := ev gl cf a) (f := fun x _ => dkeysD x) h fun ρ S env x v H' w en rx q => dkeys_ok w rx q
theorem r_dlen (ok : Ok gl cf c X) {p : Pos} (h : c.is "len" .free = true) (hp : plain e1 = true) (h1 : PE X e1 (TD X.K (ev gl cf a))) :
    PE X (.Call (.Name "len" p) [e1] [] pos) (TD X.K (ev gl cf (.dlen a))) := by
  obtain ⟨hg, hm⟩ := ok.is_ h
  refine PE.of (pe_callB (x := "len") call_len_dT hg hm (by decide +kernel) (pa_cons h1 pa_nil (star_plain hp)) (by decide +kernel) (by decide +kernel) (star_plain hp) (back_any rfl)) fun σ H Q h => ?_
  have h : TD X.K (fun env => do let x ← ev gl cf a env; dlenD x) σ H Q := h
  exact TD.then_ (m := ev gl cf a) (f := fun x _ => dlenD x) h fun ρ S env x v H' w en rx q => dlen_ok w rx q
theorem r_dof (ok : Ok gl cf c X) {p : Pos} (h : c.is "dict" .free = true) (hp : plain e1 = true) (h1 : PE X e1 (TD X.K (ev gl cf a))) :
    PE X (.Call (.Name "dict" p) [e1] [] pos) (TD X.K (ev gl cf (.dof a))) := by
  obtain ⟨hg, hm⟩ := ok.is_ h
  refine PE.of (pe_callTy (x := "dict") (call_dictT ok.calm (by have := ok.un; omega)) hg hm (by decide +kernel) (pa_cons h1 pa_nil (star_plain hp)) (by decide +kernel) (by decide +kernel) (star_plain hp) (back_any rfl)) fun σ H Q h => ?_
  have h : TD X.K (fun env => do let x ← ev gl cf a env; dofD x) σ H Q := h
  exact TD.then_ (m := ev gl cf a) (f := fun x _ => dofD x) h fun ρ S env x v H' w en rx q => dof_ok w rx q
/-! ### a dict made by a comprehension -/
theorem RKV.step {K : PySem.W.Frag} {ρ ρ' : List Addr} {S : Store} {H H' : Hp} {ws : List (List Key × V)} {kvs : List (List Key × D)} (r : RKV K ρ H ws kvs) (w : WS K ρ S H) (st : Step ρ H ρ' H') : RKV K ρ' H' ws kvs := rkv_of r.kk (r.vals.step w st)
theorem WS.adoptT {K : PySem.W.Frag} {ρ : List Addr} {S : Store} {H : Hp} (w : WS K ρ S H) {p : Addr} {ws : List (List Key × V)} {kvs : List (List Key × D)} (hp : H p = some (.dT ws)) (hn : p ∉ ρ) (r : RKV K ρ H ws kvs) : WS K (ρ ++ [p]) (S ++ [.dt false kvs]) H := by
  refine ⟨List.nodup_append.mpr ⟨w.nd, List.nodup_cons.mpr ⟨by simp, List.nodup_nil⟩, fun a ha b hb e => ?_⟩, by rw [List.length_append, List.length_append, w.len]; rfl, fun i a o' h1 h2 => ?_, w.tab, w.one⟩
  · rw [List.mem_singleton.mp hb] at e
    subst e
    exact hn ha
  · by_cases hi : i < ρ.length
    · rw [List.getElem?_append_left hi] at h1
      rw [List.getElem?_append_left (by rw [← w.len]; exact hi)] at h2
      exact (w.ob i a o' h1 h2).kp Kp.refl rfl
    · have e1 : i = ρ.length := by
        have := (List.getElem?_eq_some_iff.mp h1).1
        rw [List.length_append, List.length_singleton] at this
        omega
      subst e1
      rw [List.getElem?_append_right (Nat.le_refl _), Nat.sub_self] at h1
      rw [w.len, List.getElem?_append_right (Nat.le_refl _), Nat.sub_self] at h2
      simp at h1 h2
      subst h1 h2
      have r' : RKV K (ρ ++ [p]) H ws kvs := r.kp Kp.refl
      exact ⟨ws, hp, r'.kk, r'.vals⟩
theorem dmk_core {t : TG} {own : List Nat} {kx vx : IE} {sl : List Nat} (hsl : ∀ i ∈ sl, i ∈ own) {σ : L2.St} {env : Sl} {s : Src} {ρ1 : List Addr} {S1 : Store} {H1 : Hp} {J : It} {R : List (List Key × D) → Store → Prop} {D : Addr} {Qd : Hp → Prop}
    (w1 : WS X.K ρ1 S1 H1) (en1 : EnvR X.K ρ1 H1 σ env) (src : SrcOk X.K ρ1 H1 J s) (hD : H1 D = none)
    (h : wp (dcL s (fun d => do
      let env1 ← asg gl cf t d (wipeE env own)
      let y ← ev gl cf kx env1
      let z ← ev gl cf vx env1
      pure (y, z)) s.items []) R S1)
    (fin : ∀ ρ2 S2 H2 ws acc, WS X.K ρ2 S2 H2 → Step ρ1 H1 ρ2 H2 → D ∉ ρ2 → H2 D = some (.dT ws) → RKV X.K ρ2 H2 ws acc → R acc S2 → Qd H2) :
    LoopT J (TurnT (TGd X.K sl (asg gl cf t)) (TB X.K (evc gl cf .no)) (TD X.K (ev gl cf kx)) (TD X.K (ev gl cf vx)) own σ D) D Qd H1 := by
  have hDρ : D ∉ ρ1 := w1.fresh hD
  have stD : Step ρ1 H1 ρ1 (upd H1 D (.dT [])) := .tup hD
  refine ⟨fun i m H' => ∃ ρ' S' ws acc, WS X.K ρ' S' H' ∧ Step ρ1 H1 ρ' H' ∧ D ∉ ρ' ∧ H' D = some (.dT ws) ∧ RKV X.K ρ' H' ws acc ∧ m = s.items.length - i ∧
    wp (dcL s (fun d => do
      let env1 ← asg gl cf t d (wipeE env own)
      let y ← ev gl cf kx env1
      let z ← ev gl cf vx env1
      pure (y, z)) (s.items.drop i) acc) R S', ⟨_, ρ1, S1, [], [], w1.tup hD, stD, hDρ, upd_same, .nil, rfl, ?_⟩, ?_⟩
  · rw [List.drop_zero]
    exact h
  rintro i m H2 ⟨ρ2, S2, ws, acc, w2, st2, hn2, hx2, r2, rfl, h⟩
  cases hd : s.items.drop i with
  | nil =>
    rw [hd] at h
    simp only [dcL, wp_bind, wp_pure] at h
    obtain ⟨gd, h⟩ := grd_wp h
    exact .inl ⟨(src i ρ2 S2 H2 st2 w2 gd).2 (List.drop_eq_nil_iff.mp hd), fin ρ2 S2 H2 ws acc w2 st2 hn2 hx2 r2 h⟩
  | cons d ds =>
    rw [hd] at h
    obtain ⟨hid, hdr⟩ := drop_cons hd
    have hil : i < s.items.length := (List.getElem?_eq_some_iff.mp hid).1
    simp only [dcL, wp_bind] at h
    obtain ⟨gd, h⟩ := grd_wp h
    obtain ⟨go, yl⟩ := (src i ρ2 S2 H2 st2 w2 gd).1 d hid
    refine .inr ⟨go, fun H' => ∃ ρ' S' ws acc, WS X.K ρ' S' H' ∧ Step ρ1 H1 ρ' H' ∧ D ∉ ρ' ∧ H' D = some (.dT ws) ∧ RKV X.K ρ' H' ws acc ∧
      wp (dcL s (fun d => do
        let env1 ← asg gl cf t d (wipeE env own)
        let y ← ev gl cf kx env1
        let z ← ev gl cf vx env1
        pure (y, z)) (s.items.drop (i + 1)) acc) R S', fun H' hN => ?_, fun x H3 hy => ?_⟩
    · obtain ⟨ρ', S', xs', acc', a1, a2, a3, a4, a5, a6⟩ := hN
      exact ⟨s.items.length - (i + 1), by omega, ρ', S', xs', acc', a1, a2, a3, a4, a5, rfl, a6⟩
    · rw [hdr]
      obtain ⟨sty, wy, rx⟩ := yl x H3 hy
      have hD3 : H3 D = some (.dT ws) := sty.keep D _ hn2 hx2 (fun _ z => nomatch z)
      refine ⟨ρ2, S2, wipeE env own, d, wy, ((en1.step w1 st2).step w2 sty).wipe own, rx, wp_mono h fun env1 S3 h ρ3 H4 σ3 st4 w4 en4 wp4 => ?_⟩
      have k4 : Step ρ1 H1 ρ3 H4 := (st2.trans sty).trans st4
      have hn4 : D ∉ ρ3 := fun hm => by
        rcases st4.new D hm with h' | h'
        · exact hn2 h'
        · rw [hD3] at h'; cases h'
      have hD4 : H4 D = some (.dT ws) := st4.keep D _ hn2 hD3 (fun _ z => nomatch z)
      have wi : wipe σ3 own = wipe σ own := by
        rw [wp4 own hsl]
        exact wipe_wipe own
      refine ⟨wi, ρ3, S3, env1, w4, en4, ?_⟩
      rw [show evc gl cf .no env1 = pure true from rfl, wp_pure]
      intro ρ4 H5 st5 w5
      have hD5 : H5 D = some (.dT ws) := st5.keep D _ hn4 hD4 (fun _ z => nomatch z)
      have hn5 : D ∉ ρ4 := fun hm => by
        rcases st5.new D hm with h' | h'
        · exact hn4 h'
        · rw [hD4] at h'; cases h'
      simp only [if_true]
      refine ⟨ρ4, S3, env1, w5, en4.step w4 st5, wp_mono h fun y S5 h ρ5 H6 v st6 w6 ry => ?_⟩
      have hD6 : H6 D = some (.dT ws) := st6.keep D _ hn5 hD5 (fun _ z => nomatch z)
      have hn6 : D ∉ ρ5 := fun hm => by
        rcases st6.new D hm with h' | h'
        · exact hn5 h'
        · rw [hD5] at h'; cases h'
      refine ⟨ρ5, S5, env1, w6, (en4.step w4 st5).step w5 st6, wp_mono h fun z S6 h ρ6 H7 u st7 w7 rz => ?_⟩
      have hD7 : H7 D = some (.dT ws) := st7.keep D _ hn6 hD6 (fun _ z => nomatch z)
      have hn7 : D ∉ ρ6 := fun hm => by
        rcases st7.new D hm with h' | h'
        · exact hn6 h'
        · rw [hD6] at h'; cases h'
      have r7 : RKV X.K ρ6 H7 ws acc := (((r2.step w2 sty).step wy st4).step w4 st5).step w5 st6 |>.step w6 st7
      simp only [wp_bind, wp_pure] at h
      obtain ⟨k, ek, h⟩ := toKey_wp h
      obtain ⟨b, rfl, hb⟩ := keyI_rep (ry.step w6 st7) ek
      simp only [wp_bind, wp_need] at h
      obtain ⟨hl, h⟩ := h
      have hl := dec hl
      rw [← r7.length] at hl
      have kp : Kp H7 (upd H7 D (.dT (putK ws k u))) := ⟨fun a' xs' e => by rw [upd_ne (fun z => by rw [z, hD7] at e; cases e)]; exact e, fun a' o' u' _ e => by rw [upd_ne (fun z => by rw [z, hD7] at e; cases e)]; exact e⟩
      refine ⟨ws, k, b, rfl, hD7, hb, hl, ρ6, S6, putK ws k u, putT acc k z, ?_, ?_, hn7, upd_same, ?_, h⟩
      · refine ⟨w7.nd, w7.len, fun j a o h1 h2 => ?_, fun nm hn P hP => tabM (w7.tab nm hn P hP) hD7 trivial, w7.one⟩
        have hne : a ≠ D := fun e => hn7 (by rw [← e]; exact List.mem_of_getElem? h1)
        have q := (w7.ob j a o h1 h2).kp (τ := []) kp (upd_ne hne)
        rw [List.append_nil] at q
        exact q
      · have k7 := ((k4.trans st5).trans st6).trans st7
        refine ⟨k7.pre, k7.new, fun a o ha e n => ?_, fun a o u e => ?_, fun a ps e => ?_⟩
        · rw [upd_ne (fun z => by rw [z, hD] at e; cases e)]
          exact k7.keep a o ha e n
        · rw [upd_ne (fun z => by rw [z, hD] at e; cases e)]
          exact k7.fz a o u e
        · rw [upd_ne (fun z => by rw [z, hD] at e; cases e)]
          exact k7.tb a ps e
      · have q := (r7.put k (keyI_ne ek) rz).kp (τ := []) kp
        rw [List.append_nil] at q
        exact q
theorem Step.adoptT {ρ ρ1 ρ2 : List Addr} {H H1 H2 : Hp} {D : Addr} (st1 : Step ρ H ρ1 H1) (st2 : Step ρ1 H1 ρ2 H2) (hD : H1 D = none) (hDρ : D ∉ ρ1) : Step ρ H (ρ2 ++ [D]) H2 := Step.adopt st1 st2 hD hDρ
theorem r_dmk (ok : Ok gl cf c X) {t : TG} {own : List Nat} {it : II} {kx vx : IE} {ownp : List (Str × Nat)} {sl : List Nat} (ho : ownp.map (·.2) = own) (hsl : ∀ i ∈ sl, i ∈ own)
    {σ : L2.St} {H : Hp} {Q : VK} (h : TD X.K (ev gl cf (.dmk t own it kx vx)) σ H Q) :
    tDT (TIs X.K (evi gl cf it)) (TGd X.K sl (asg gl cf t)) (TB X.K (evc gl cf .no)) (TD X.K (ev gl cf kx)) (TD X.K (ev gl cf vx)) (ownp.map (·.2)) σ H Q := by
  rw [ho]
  obtain ⟨ρ, S, env, w, en, h⟩ := h
  simp only [ev, wp_bind, wp_newO] at h
  refine ⟨ρ, S, env, w, en, wp_mono h fun s S1 h ρ1 H1 J st1 w1 src => fun D hD => ?_⟩
  have hDρ : D ∉ ρ1 := w1.fresh hD
  exact dmk_core hsl w1 (en.step w st1) src hD h fun ρ2 S2 H2 ws acc w2 st2 hn2 hx2 r2 q => q _ H2 _ (Step.adopt st1 st2 hD hDρ) (w2.adoptT hx2 hn2 r2) (Rep.new w2)
/-! ### comprehensions over a dict -/
theorem src_keys {K : PySem.W.Frag} {ρ : List Addr} {H : Hp} {a : Addr} {od : Obj} {ws : List (List Key × V)} {kvs : List (List Key × D)} (hH : H a = some (.frz od (.dT ws))) (hk' : KeysOk ws kvs) : SrcOk K ρ H (Itkt a od ws) ⟨kvs.map fun kv => unkey kv.1, none, none⟩ := by
  obtain ⟨hk, hne⟩ := hk'
  have hl : ws.length = kvs.length := by simpa using congrArg List.length hk
  intro i ρ' S' H' st w' _
  have hH' := st.fz _ _ _ hH
  refine ⟨fun d hd => ?_, fun hi => ⟨hH', by rw [hl]; simpa using hi⟩⟩
  have hi : i < kvs.length := by simpa using (List.getElem?_eq_some_iff.mp hd).1
  refine ⟨⟨hH', by omega⟩, fun x H'' yl => ?_⟩
  obtain ⟨rfl, k, v, q, e1, rfl, e2⟩ := yl
  have e3 : (kvs.map (·.1))[i]? = some k := by rw [← hk, List.getElem?_map, e1]; rfl
  rw [List.getElem?_map] at e3 hd
  cases e4 : kvs[i]? with
  | none => rw [e4] at e3; cases e3
  | some kv =>
    rw [e4] at e3 hd
    cases e3
    cases hd
    exact ⟨.refl, w', .tup (SqT.of e2) (fun _ => e2) (fun hx => nomatch (isX_unkey (hne kv (List.mem_of_getElem? e4)) rfl).symm.trans hx) (unkey_rep _)⟩
theorem dcomp_core {i : Nat} {t : TG} {own sl : List Nat} {cond : IC} {elt : IE} (hsl : ∀ i ∈ sl, i ∈ own) {σ : L2.St} {H : Hp} {Q : VK} (h : TD X.K (ev gl cf (.dcomp i t own cond elt)) σ H Q) :
    ∃ d u, H d = some u ∧ Mut (some u) ∧ ∀ od, tLc (iKeys (tVar i)) (TGd X.K sl (asg gl cf t)) (TB X.K (evc gl cf cond)) (TD X.K (ev gl cf elt)) own σ (upd H d (.frz od u)) fun v H' => H' d = some (.frz od u) ∧ Q v (upd H' d u) := by
  obtain ⟨ρ, S, env, w, en, h⟩ := h
  simp only [ev] at h
  split at h
  · rename_i l hi
    simp only [wp_bind, wp_getO] at h
    obtain ⟨o, e, h⟩ := h
    split at h
    · rename_i kvs
      obtain ⟨v, hv, rv⟩ := en.at_ i _ hi
      obtain ⟨a, rfl, h1⟩ := rv.ref_
      obtain ⟨ws, g, rk⟩ := w.dt h1 e
      have g : H a = some (.dT ws) := g
      simp only [wp_bind, wp_setO] at h
      obtain ⟨hl, h⟩ := h
      refine ⟨a, .dT ws, g, trivial, fun od => ?_⟩
      have st1 : Step ρ H ρ (upd H a (.frz od (.dT ws))) := Step.set w h1 g (fun _ _ z => nomatch z)
      have rk1 : RKV X.K (ρ ++ []) (upd H a (.frz od (.dT ws))) ws kvs := rk.kp (st1.kp w)
      rw [List.append_nil] at rk1
      have w1 : WS X.K ρ (S.set l (.dt true kvs)) (upd H a (.frz od (.dT ws))) := w.set h1 g (fun _ _ z => nomatch z) ⟨ws, ⟨od, upd_same⟩, rk1.kk, rk1.vals⟩
      refine ⟨.ref a, hv, a, od, rfl, .inr ⟨ws, upd_same, fun D hD => ?_⟩⟩
      have hDρ : D ∉ ρ := w1.fresh hD
      refine comp_core hsl w1 (en.step w st1) (src_keys upd_same rk.kk) hD h fun ρ2 S2 H2 xs acc w2 st2 hn2 hx2 r2 q => ?_
      have hz := st2.fz _ _ _ (show upd H a (.frz od (.dT ws)) a = some (.frz od (.dT ws)) from upd_same)
      refine ⟨hz, ?_⟩
      simp only [wp_bind, wp_getO] at q
      obtain ⟨o2, e2, q⟩ := q
      split at q
      · rename_i kvs2
        simp only [wp_bind, wp_setO, wp_newO] at q
        obtain ⟨_, q⟩ := q
        have h2 : ρ2[l]? = some a := by
          obtain ⟨τ, eτ⟩ := st2.pre
          rw [eτ, List.getElem?_append_left (List.getElem?_eq_some_iff.mp h1).1]
          exact h1
        obtain ⟨ws2, ⟨od2, g2⟩, rk2⟩ := w2.dt h2 e2
        rw [hz] at g2
        cases g2
        have hDa : D ≠ a := fun z => by rw [z, hz] at hx2; cases hx2
        have kp : Kp H2 (upd H2 a (.dT ws)) := ⟨fun b xs' e' => by rw [upd_ne (fun z => by rw [z, hz] at e'; cases e')]; exact e', fun b o' u' n e' => by rw [upd_ne (fun z => by rw [z, hz] at e'; cases e'; exact n _ rfl)]; exact e'⟩
        have rk3 : RKV X.K (ρ2 ++ []) (upd H2 a (.dT ws)) ws kvs2 := rk2.kp kp
        rw [List.append_nil] at rk3
        have w3 : WS X.K ρ2 (S2.set l (.dt false kvs2)) (upd H2 a (.dT ws)) := w2.setK h2 kp ⟨ws, (show upd H2 a (.dT ws) a = some (.dT ws) from upd_same), rk3.kk, rk3.vals⟩
        have ha : a ∈ ρ := List.mem_of_getElem? h1
        have st3 : Step ρ H ρ2 (upd H2 a (.dT ws)) := by
          have k1 := st1.trans st2
          refine ⟨k1.pre, k1.new, fun b o b1 b2 b3 => ?_, fun b o u b1 => ?_, fun b ps b1 => ?_⟩
          · rw [upd_ne (fun z => b1 (by rw [z]; exact ha))]
            exact k1.keep b o b1 b2 b3
          · rw [upd_ne (fun z => by rw [z, g] at b1; cases b1)]
            exact k1.fz b o u b1
          · rw [upd_ne (fun z => by rw [z, g] at b1; cases b1)]
            exact k1.tb b ps b1
        have r3 : Reps X.K (ρ2 ++ []) (upd H2 a (.dT ws)) xs acc := r2.kp kp
        rw [List.append_nil] at r3
        have hx3 : upd H2 a (.dT ws) D = some (.lst xs) := by rw [upd_ne hDa]; exact hx2
        have w4 := w3.adopt hx3 hn2 r3
        have nDH : H D = none := by
          rw [upd_ne (fun z => by rw [z, upd_same] at hD; cases hD)] at hD
          exact hD
        have st4 : Step ρ H (ρ2 ++ [D]) (upd H2 a (.dT ws)) := by
          obtain ⟨τ, eτ⟩ := st3.pre
          refine ⟨⟨τ ++ [D], by rw [eτ, List.append_assoc]⟩, fun b hb => ?_, st3.keep, st3.fz, st3.tb⟩
          rcases List.mem_append.mp hb with hb | hb
          · exact st3.new b hb
          · rw [List.mem_singleton.mp hb]
            exact .inr nDH
        exact q _ _ _ st4 w4 (Rep.new w3)
      · exact q.elim
    · exact h.elim
  · exact h.elim
/-! ### d[k] = v -/
end
end Dl
end

section
set_option Elab.async false
set_option linter.all false
set_option maxRecDepth 100000
set_option maxHeartbeats 1000000
/-! Dl: instances of classes, methods of texts, f-strings, functions as values -/
namespace Dl
open PySem PySem.Spec PyProof.Rows L2
section
variable {K : PySem.W.Frag} {ρ : List Addr} {S : Store} {H : Hp} {Q : VK}
/-! ### attributes -/
theorem putA_rel {v : V} {d : D} (rv : Rep K ρ H v d) (f : Str) : ∀ {ws : List (Str × V)} {fs : List (Str × D)}, ws.map (·.1) = fs.map (·.1) → Reps K ρ H (ws.map (·.2)) (fs.map (·.2)) →
    (putF f v ws).map (·.1) = (putA f d fs).map (·.1) ∧ Reps K ρ H ((putF f v ws).map (·.2)) ((putA f d fs).map (·.2))
  | [], [], _, _ => ⟨rfl, .cons rv .nil⟩
  | [], _ :: _, e, _ => by simp at e
  | _ :: _, [], e, _ => by simp at e
  | (g, x) :: ws, (g', y) :: fs, e, r => by
    simp only [List.map_cons, List.cons.injEq] at e
    obtain ⟨rfl, e⟩ := e
    rw [List.map_cons, List.map_cons] at r
    cases r with
    | cons h r =>
      unfold putF putA
      by_cases hg : g = f
      · rw [if_pos hg, if_pos hg]
        exact ⟨by simp [e], .cons rv r⟩
      · rw [if_neg hg, if_neg hg]
        obtain ⟨a, b⟩ := putA_rel rv f e r
        exact ⟨by simp [a], .cons h b⟩
theorem lookA {f : Str} {d : D} : ∀ {ws : List (Str × V)} {fs : List (Str × D)}, ws.map (·.1) = fs.map (·.1) → Reps K ρ H (ws.map (·.2)) (fs.map (·.2)) → fs.lookup f = some d → ∃ v, ws.lookup f = some v ∧ Rep K ρ H v d
  | [], [], _, _, e => by simp at e
  | [], _ :: _, e, _, _ => by simp at e
  | _ :: _, [], e, _, _ => by simp at e
  | (g, x) :: ws, (g', y) :: fs, e, r, h => by
    simp only [List.map_cons, List.cons.injEq] at e
    obtain ⟨rfl, e⟩ := e
    rw [List.map_cons, List.map_cons] at r
    cases r with
    | cons hx r =>
      rw [List.lookup_cons] at h ⊢
      cases q : f == g with
      | true => rw [q] at h; cases h; exact ⟨x, rfl, hx⟩
      | false => rw [q] at h; exact lookA e r h
theorem lookN {f : Str} : ∀ {ws : List (Str × V)} {fs : List (Str × D)}, ws.map (·.1) = fs.map (·.1) → fs.lookup f = none → ws.lookup f = none
  | [], [], _, _ => rfl
  | [], _ :: _, e, _ => by simp at e
  | _ :: _, [], e, _ => by simp at e
  | (g, x) :: ws, (g', y) :: fs, e, h => by
    simp only [List.map_cons, List.cons.injEq] at e
    obtain ⟨rfl, e⟩ := e
    rw [List.lookup_cons] at h ⊢
    cases q : f == g with
    | true => rw [q] at h; cases h
    | false => rw [q] at h; exact lookN e h
theorem getA_wp {C : Str} {d : D} {v : V} {R : List (Str × D) → Store → Prop} (w : WS K ρ S H) (r : Rep K ρ H v d) (h : wp (getA C d) R S) :
    ∃ a dx ws fs, v = .ref a ∧ H a = some (.ins (He.ga K C) dx ws) ∧ ws.map (·.1) = fs.map (·.1) ∧ Reps K ρ H (ws.map (·.2)) (fs.map (·.2)) ∧ R fs S := by
  unfold getA at h
  split at h
  · obtain ⟨a, rfl, h1⟩ := r.ref_
    simp only [wp_bind, wp_getO] at h
    obtain ⟨o, e, h⟩ := h
    split at h
    · simp only [wp_bind, wp_need, wp_pure] at h
      obtain ⟨hc, h⟩ := h
      cases of_decide_eq_true hc
      obtain ⟨dx, ws, g1, g2, g3⟩ := w.ob _ a _ h1 e
      exact ⟨a, dx, ws, _, rfl, g1, g2, g3, h⟩
    · exact h.elim
  · exact h.elim
theorem fldD_wp {C f : Str} {d : D} {v : V} {R : D → Store → Prop} (w : WS K ρ S H) (r : Rep K ρ H v d) (h : wp (fldD C f d) R S) :
    ∃ a dx ws u x, v = .ref a ∧ H a = some (.ins (He.ga K C) dx ws) ∧ ws.lookup f = some u ∧ Rep K ρ H u x ∧ R x S := by
  unfold fldD at h
  rw [wp_bind] at h
  obtain ⟨a, dx, ws, fs, rfl, g1, g2, g3, h⟩ := getA_wp w r h
  split at h
  · rename_i x e
    obtain ⟨u, l, ru⟩ := lookA g2 g3 e
    exact ⟨a, dx, ws, u, x, rfl, g1, l, ru, h⟩
  · exact h.elim
theorem setfD_wp {C f : Str} {o y : D} {v u : V} {R : Unit → Store → Prop} (w : WS K ρ S H) (r : Rep K ρ H v o) (ry : Rep K ρ H u y) (h : wp (setfD C f o y) R S) :
    ∃ a dx ws, v = .ref a ∧ H a = some (.ins (He.ga K C) dx ws) ∧ ws.length < 1000 ∧ ∃ S', Step ρ H ρ (upd H a (.ins (He.ga K C) dx (putF f u ws))) ∧ WS K ρ S' (upd H a (.ins (He.ga K C) dx (putF f u ws))) ∧ R () S' := by
  unfold setfD at h
  split at h
  · obtain ⟨a, rfl, h1⟩ := r.ref_
    simp only [wp_bind, wp_getO] at h
    obtain ⟨ob, e, h⟩ := h
    split at h
    · simp only [wp_bind, wp_need, wp_setO] at h
      obtain ⟨hc, hl, h⟩ := h
      obtain ⟨c1, c2⟩ := and2 hc
      cases of_decide_eq_true c1
      have c2 := of_decide_eq_true c2
      obtain ⟨dx, ws, g1, g2, g3⟩ := w.ob _ a _ h1 e
      rename_i fs _
      have hlen : ws.length = fs.length := by simpa using congrArg List.length g2
      have st := Step.set w (u := .ins (He.ga K C) dx (putF f u ws)) h1 g1 (fun _ _ z => nomatch z)
      obtain ⟨k1, k2⟩ := putA_rel ry f g2 g3
      have k2' := k2.kp (τ := []) (st.kp w)
      rw [List.append_nil] at k2'
      exact ⟨a, dx, ws, rfl, g1, by rw [hlen]; exact c2, _, st, w.set (o := .obj C (putA f y fs)) h1 g1 (fun _ _ z => nomatch z) ⟨dx, _, upd_same, k1, k2'⟩, h⟩
    · exact h.elim
  · exact h.elim
end
section
variable {gl : Nat → D} {cf : Nat → List D → M D} {c : Cst} {X : Cx}
theorem r_fld (ok : Ok gl cf c X) {C f : Str} {a : IE} {e1 : Expr} {pos : Pos} (hs : noSuper e1 = true) (hn : c.has (keyF C f) (.noat C f) = true) (h1 : PE X e1 (TD X.K (ev gl cf a))) : PE X (.Attribute e1 f pos) (TD X.K (ev gl cf (.fld C f a))) := by
  obtain ⟨cl, na⟩ := ok.G _ _ (of_decide_eq_true hn)
  refine PE.of (pe_fld h1 (super_ok hs)) fun σ H Q h => ?_
  have h : TD X.K (fun env => do let x ← ev gl cf a env; fldD C f x) σ H Q := h
  refine TD.then_ (m := ev gl cf a) (f := fun x _ => fldD C f x) h fun ρ S env d v H' w en rd q => ?_
  obtain ⟨p, dx, ws, u, x, rfl, g1, g2, g3, q⟩ := fldD_wp w rd q
  exact ⟨p, _, dx, ws, u, rfl, g1, cl, na, g2, Post.same w g3 q⟩
/-- C(..) -/
theorem new_core {C : Str} {fi : Nat} {es : IEs} {σ : L2.St} {H : Hp} {Q : VK} (h : TD X.K (ev gl cf (.new C fi es)) σ H Q) : tMake (He.ga X.K C) (spD X.K (cf fi)) [] E0 (TDs X.K (evs gl cf es)) σ H Q := by
  have h : TD X.K (fun env => do let ds ← evs gl cf es env; (do let r ← newO (.obj C []); let d ← cf fi (r :: ds); need (decide (d = .non)); pure r)) σ H Q := h
  refine TDs.then_ (m := evs gl cf es) (f := fun ds _ => do let r ← newO (.obj C []); let d ← cf fi (r :: ds); need (decide (d = .non)); pure r) h fun ρ S env ds vs H1 w en rs q => ?_
  intro x dx hx hdx hne
  rw [List.append_nil]
  simp only [wp_bind, wp_newO] at q
  have w1 : WS X.K ρ S (upd H1 dx (.own x)) := w.tup hdx
  have s1 : Step ρ H1 ρ (upd H1 dx (.own x)) := .tup hdx
  have hx' : upd H1 dx (.own x) x = none := by rw [upd_ne hne.symm]; exact hx
  have w2 : WS X.K (ρ ++ [x]) (S ++ [.obj C []]) (upd (upd H1 dx (.own x)) x (.ins (He.ga X.K C) dx [])) := w1.alloc hx' ⟨dx, [], upd_same, rfl, .nil⟩
  have s2 : Step ρ H1 (ρ ++ [x]) (upd (upd H1 dx (.own x)) x (.ins (He.ga X.K C) dx [])) := s1.trans (.alloc hx')
  have rx : Rep X.K (ρ ++ [x]) (upd (upd H1 dx (.own x)) x (.ins (He.ga X.K C) dx [])) (.ref x) (.ref S.length) := Rep.new w1
  refine ⟨ρ ++ [x], _, .ref S.length :: ds, w2, .cons rx (rs.step w s2), wp_mono q fun d S' q ρ' H' v st w' rd => ?_⟩
  simp only [wp_need, wp_pure] at q
  obtain ⟨e, q⟩ := q
  cases of_decide_eq_true e
  exact ⟨rd.non_, q ρ' H' _ (s2.trans st) w' (rx.step w2 st)⟩
theorem r_new (ok : Ok gl cf c X) {C : Str} {fi : Nat} {es : IEs} {l : List Expr} {p pos : Pos} (h : c.is C (.cls fi) = true) (hr : 1 ≤ c.rm) (hn : nmOk C = true) (hp : l.all plain = true) (ha : PA X l (TDs X.K (evs gl cf es))) (hnil : l = [] → es = .nil) : PE X (.Call (.Name C p) l [] pos) (TD X.K (ev gl cf (.new C fi es))) := by
  obtain ⟨hg, hm, f, fd, ps, k, mk, hb, room, F⟩ := ok.is_ h
  obtain ⟨n1, n2, n3⟩ := nmOk_ hn
  cases l with
  | nil =>
    cases hnil rfl
    refine PE.of (pe_make0 (E := E0) mk F (room.mono (by omega)) hg hm hb .nil pass0 n1) fun σ H Q h => ?_
    have := new_core (X := X) h
    intro x dx hx hdx hne
    obtain ⟨ρ, S, env, w, en, q⟩ := this
    exact q ρ H [] .refl w .nil x dx hx hdx hne
  | cons e1 l =>
    rw [List.all_cons] at hp
    obtain ⟨p1, p2⟩ := and2 hp
    exact PE.of (pe_make (E := E0) mk F (room.mono (by omega)) hg hm hb .nil pass0 ha n1 (star_plain p1) (back_any p2)) fun σ H Q h => new_core h
theorem isO_wp {K : PySem.W.Frag} {ρ : List Addr} {S : Store} {H : Hp} {C m : Str} {d : D} {v : V} {R : Unit → Store → Prop} (w : WS K ρ S H) (r : Rep K ρ H v d) (h : wp (isO C m d) R S) :
    ∃ a dx ws, v = .ref a ∧ H a = some (.ins (He.ga K C) dx ws) ∧ ws.lookup m = none ∧ R () S := by
  unfold isO at h
  rw [wp_bind] at h
  obtain ⟨a, dx, ws, fs, rfl, g1, g2, g3, h⟩ := getA_wp w r h
  rw [wp_need] at h
  exact ⟨a, dx, ws, rfl, g1, lookN g2 (Option.isNone_iff_eq_none.mp h.1), h.2⟩
theorem meth_ht {o : Expr} {m : Str} {es : List Expr} {env : PySem.Env} {apos pos : Pos} (hbase : attributeBase o m env (eval o env) = eval o env)
    (hfew : methodCallForm (es.length + ([] : List Keyword).length) (backTo pos (starEach es env)) (backToKw pos (keywordEach [] env)) = true) (hline : (apos.endLine == pos.line) = true) :
    eval (.Call (.Attribute o m apos) es [] pos) env = (do
      let ov ← eval o env
      standAt apos.atName
      let (f, first) ← holding [ov] (getMethod ov m (do return (← importBound o env).getD true))
      callWith pos f first (backTo pos (starEach es env)) (backToKw pos (keywordEach [] env))) := by
  show (do
    let ov ← attributeBase o m env (eval o env)
    standAt apos.atName
    methodCall o m apos pos env ov (es.length + ([] : List Keyword).length) (backTo pos (starEach es env)) (backToKw pos (keywordEach [] env))) = _
  rw [hbase]
  unfold methodCall calleeOf methodCallPos
  rw [hfew]
  simp only [hline, if_true, Bool.not_true, Bool.or_true]
  rfl
theorem mcall_core {C m : Str} {fi : Nat} {o : IE} {es : IEs} {σ : L2.St} {H : Hp} {Q : VK} (h : TD X.K (ev gl cf (.mcall C m fi o es)) σ H Q) : tMeth (He.ga X.K C) m (spD X.K (cf fi)) [] E0 (TD X.K (ev gl cf o)) (TDs X.K (evs gl cf es)) σ H Q := by
  have h : TD X.K (fun env => do let x ← ev gl cf o env; (do isO C m x; let ds ← evs gl cf es env; cf fi (x :: ds))) σ H Q := h
  refine TD.then_ (m := ev gl cf o) (f := fun x env => do isO C m x; let ds ← evs gl cf es env; cf fi (x :: ds)) h fun ρ S env d v H' w en rd q => ?_
  rw [wp_bind] at q
  obtain ⟨a, dx, ws, rfl, g1, g2, q⟩ := isO_wp w rd q
  rw [wp_bind] at q
  refine ⟨a, dx, ws, rfl, g1, g2, ρ, S, env, w, en, wp_mono q fun ds S1 q ρ1 H1 vs st1 w1 rs => ?_⟩
  show spD X.K (cf fi) (V.ref a :: (vs ++ [])) H1 Q E0
  rw [List.append_nil]
  exact ⟨ρ1, S1, d :: ds, w1, .cons (rd.step w st1) rs, wp_mono q fun d' S2 p => p.step st1⟩
theorem r_mcall (ok : Ok gl cf c X) {C m : Str} {fi : Nat} {o : IE} {es : IEs} {e1 : Expr} {l : List Expr} {apos pos : Pos} (hl : (apos.endLine == pos.line) = true) (hs : noSuper e1 = true) (hf : l.length < 29) (hn : c.has (keyM C m) (.mth C m fi) = true)
    (h1 : PE X e1 (TD X.K (ev gl cf o))) (hp : l.all plain = true) (ha : PA X l (TDs X.K (evs gl cf es))) (hnil : l = [] → es = .nil) : PE X (.Call (.Attribute e1 m apos) l [] pos) (TD X.K (ev gl cf (.mcall C m fi o es))) := by
  obtain ⟨cl, f, fd, ps, k, mt, hb, room, F⟩ := ok.G _ _ (of_decide_eq_true hn)
  cases l with
  | nil =>
    cases hnil rfl
    refine PE.of (pe_meth0 (E := E0) (pl := (do return (← importBound e1 X.env).getD true)) h1 cl mt F (room.mono (Nat.le_add_right _ _)) hb .nil pass0 (meth_ht (super_ok hs) rfl hl)) fun σ H Q h => ?_
    have h : TD X.K (fun env => do let x ← ev gl cf o env; (do isO C m x; let ds ← evs gl cf .nil env; cf fi (x :: ds))) σ H Q := h
    refine TD.then_ (m := ev gl cf o) (f := fun x env => do isO C m x; let ds ← evs gl cf .nil env; cf fi (x :: ds)) h fun ρ S env d v H' w en rd q => ?_
    rw [wp_bind] at q
    obtain ⟨a, dx, ws, rfl, g1, g2, q⟩ := isO_wp w rd q
    exact ⟨a, dx, ws, rfl, g1, g2, ρ, S, [d], w, .cons rd .nil, q⟩
  | cons e2 l =>
    have hp' := hp
    rw [List.all_cons] at hp
    obtain ⟨p1, p2⟩ := and2 hp
    exact PE.of (pe_meth (E := E0) (pl := (do return (← importBound e1 X.env).getD true)) h1 cl mt F (room.mono (Nat.le_add_right _ _)) hb .nil pass0 ha (star_plain p1) (back_any p2) (meth_ht (super_ok hs) (few_ok hp' hf) hl)) fun σ H Q h => mcall_core h
/-! ### methods of texts, of tuples -/
theorem strsV {K : PySem.W.Frag} {ρ : List Addr} {H : Hp} : ∀ {vs : List V} {ds : List D} {ys : List Str}, Reps K ρ H vs ds → strsOf ds = some ys → vs = ys.map V.str
  | _, _, _, .nil, e => by simp [strsOf] at e; subst e; rfl
  | _, _, _, .cons (d := d) h r, e => by
    cases d <;> simp [strsOf] at e
    obtain ⟨ns, e1, rfl⟩ := e
    cases h
    rw [strsV r e1]; rfl
theorem Reps.ofStrs {K : PySem.W.Frag} {ρ : List Addr} {H : Hp} : ∀ ns : List Str, Reps K ρ H (ns.map V.str) (ns.map D.str)
  | [] => .nil
  | n :: ns => .cons (.str n) (Reps.ofStrs ns)
/-- a method of a tuple of which all is told -/
def tBMT (K : PySem.W.Frag) (r : V → List V → Hp → VK → Prop) (to : TE) (t : TA) : TE := fun σ H Q => to σ H fun x H1 => (∃ a xs, x = .ref a ∧ SqT K H1 a xs ∧ TupX K H1 a) ∧ t σ H1 fun xs H2 => r x xs H2 Q
theorem pe_bmT {o e : Expr} {es : List Expr} {to : TE} {t : TA} {name : Str} {apos cpos : Pos} {id : String} {r : V → List V → Hp → VK → Prop} (slot : Slot "tuple" name id) (hty : typeOf (.builtin id) = pure (.type "method_descriptor")) (hm : MtR X id r) (ho : PE X o to) (ha : PA X (e :: es) t)
    (hbase : attributeBase o name X.env (eval o X.env) = eval o X.env)
    (hfew : ((backTo cpos (starEach (e :: es) X.env)).all (fun x => !x.1) && (backToKw cpos (keywordEach [] X.env)).all (fun x => x.1.isSome)
      && decide ((e :: es).length + ([] : List Keyword).length + (if ([] : List Keyword).isEmpty then 0 else 1) < 30)) = true)
    (hline : (apos.endLine == cpos.line) = true) (hs : starEach (e :: es) X.env = (false, eval e X.env) :: starEach es X.env) (hplain : (backTo cpos (starEach es X.env)).any (·.1) = false) :
    PE X (.Call (.Attribute o name apos) (e :: es) [] cpos) (tBMT X.K r to t) := by
  refine ⟨fun pins s σ H Q I h => ?_⟩
  refine wpAny_Call_method_late hbase hfew hline rfl (thn (ho.run pins s σ H _ I h) fun v s1 ⟨x, H1, I1, r1, ty, q1⟩ => ?_)
  obtain ⟨a, xs, rfl, hq, tx⟩ := ty
  have r0 := r1
  obtain rfl : v = .ref a := r1
  obtain ⟨its, rv, ht, hz⟩ := I1.tuple hq
  obtain ⟨ob, hob, hd⟩ := tupX_at I1 tx
  obtain ⟨o', ho', hc, n, hdat⟩ := ht
  rw [hob] at ho'
  cases ho'
  refine ⟨"tuple", id, PySem.F.plainAttrs_tuple, slot, hty, ⟨ob, hob, hc⟩, (fun b e => by cases e; exact ⟨ob, hob, hd⟩), ?_⟩
  have hA := ha.run cpos pins s1 σ H1 _ I1 q1
  rw [hs] at hA ⊢
  refine Calls.callWith_builtin (by show (false || (backTo cpos (starEach es X.env)).any (·.1)) = false; rw [hplain] <;> rfl) (Calls.evalArgs_plain ?_)
  exact thn hA fun us s2 ⟨vs, H2, I2, r2, q2⟩ => hm pins s2 σ H2 (.ref a) vs (.ref a) us Q I2 r0 r2 q2
theorem star_one {e : Expr} {env : PySem.Env} (h : plain e = true) : starEach [e] env = [(false, eval e env)] := by
  rw [star_plain h]; rfl
theorem r_m1 {k : Sm} {a b : IE} {e1 e2 : Expr} {apos pos : Pos} (hl : (apos.endLine == pos.line) = true) (hs : noSuper e1 = true) (hp : plain e2 = true) (h1 : PE X e1 (TD X.K (ev gl cf a))) (h2 : PE X e2 (TD X.K (ev gl cf b))) :
    PE X (.Call (.Attribute e1 k.name apos) [e2] [] pos) (TD X.K (ev gl cf (.m1 k a b))) := by
  have core : ∀ {σ : L2.St} {H : Hp} {Q : VK}, TD X.K (ev gl cf (.m1 k a b)) σ H Q → TD X.K (ev gl cf a) σ H fun v H1 => ∃ ρ S env x, WS X.K ρ S H1 ∧ EnvR X.K ρ H1 σ env ∧ Rep X.K ρ H1 v x ∧ wp (smOk k x) (fun _ S' => wp (do let y ← ev gl cf b env; smRun k x y) (Post X.K ρ H1 Q) S') S := fun {σ H Q} h => by
    have h : TD X.K (fun env => do let x ← ev gl cf a env; (do smOk k x; let y ← ev gl cf b env; smRun k x y)) σ H Q := h
    refine TD.then_ (m := ev gl cf a) (f := fun x env => do smOk k x; let y ← ev gl cf b env; smRun k x y) h fun ρ S env d v H' w en rd q => ⟨ρ, S, env, d, w, en, rd, by rw [wp_bind] at q; exact q⟩
  have tx : ∀ {r : V → List V → Hp → VK → Prop} {id : String} {nm : Str}, k.name = nm → (∀ x, ∀ R : Unit → Store → Prop, ∀ S, wp (smOk k x) R S → (∃ z, x = .str z) ∧ R () S) → Slot "str" nm id → typeOf (.builtin id) = pure (.type "method_descriptor") → MtR X id r →
      (∀ (ρ : List Addr) (S : Store) (H : Hp) (z : Str) (y : D) (u : V) (Q : VK), WS X.K ρ S H → Rep X.K ρ H u y → wp (smRun k (.str z) y) (Post X.K ρ H Q) S → r (.str z) [u] H Q) → PE X (.Call (.Attribute e1 k.name apos) [e2] [] pos) (TD X.K (ev gl cf (.m1 k a b))) :=
    fun {r id nm} en0 hk sl ty mt rr => by
      rw [en0]
      refine PE.of (pe_m1 sl ty mt h1 h2 (star_one hp) (super_ok hs) hl) fun σ H Q h => ?_
      obtain ⟨ρ0, S0, env0, w0, en0, h⟩ := core h
      refine ⟨ρ0, S0, env0, w0, en0, wp_mono h fun d S1 q ρ1 H1 v st1 w1 rd => ?_⟩
      obtain ⟨ρ, S, env, x, w, en, rx, q⟩ := q ρ1 H1 v st1 w1 rd
      obtain ⟨⟨z, rfl⟩, q⟩ := hk _ _ _ q
      refine ⟨⟨z, rx.str_⟩, ρ, S, env, w, en, ?_⟩
      rw [wp_bind] at q
      exact wp_mono q fun y S2 q ρ2 H2 u st2 w2 ry => by rw [rx.str_]; exact rr ρ2 S2 H2 z y u Q w2 ry (wp_mono q fun d' S3 p => p.step st2)
  have ks : ∀ (k : Sm), k ≠ .tindex → ∀ x, ∀ R : Unit → Store → Prop, ∀ S, wp (smOk k x) R S → (∃ z, x = .str z) ∧ R () S := fun k hk x R S h => by
    cases k <;> first | exact absurd rfl hk | (cases x <;> first | exact h.elim | exact ⟨⟨_, rfl⟩, h⟩)
  cases k with
  | join =>
    refine tx rfl (ks .join (by decide)) F.slot_str_join F.type_str_join mt_join fun ρ S H z y u Q w ry h => ?_
    have h : wp (do
      let ds ← getS y
      match strsOf ds with
      | some ys => do need (decide ((ys.map (·.length)).sum + ys.length * z.length ≤ 16777216)); pure (.str (Txt.join z ys))
      | none => fail) (Post X.K ρ H Q) S := h
    rw [wp_bind] at h
    obtain ⟨a, xs, ds, rfl, hq, r2, h⟩ := getS_wp w ry h
    split at h
    · rename_i ys e
      simp only [wp_bind, wp_need, wp_pure] at h
      rw [strsV r2 e] at hq
      exact ⟨z, a, ys, rfl, rfl, hq, of_decide_eq_true h.1, Post.str w h.2⟩
    · exact h.elim
  | split =>
    refine tx rfl (ks .split (by decide)) F.slot_str_split F.type_str_split mt_split fun ρ S H z y u Q w ry h => ?_
    cases y <;> try (exact h.elim)
    rename_i y
    cases ry.str_
    have h : wp (do need ((y.length == 0) == false && decide (z.length + 2 ≤ sizeLine)); newO (.lst ((Txt.split z y).map .str))) (Post X.K ρ H Q) S := h
    simp only [wp_bind, wp_need, wp_newO] at h
    obtain ⟨h1, h⟩ := h
    obtain ⟨c1, c2⟩ := and2 h1
    exact ⟨z, y, rfl, rfl, eq_of_beq c1, of_decide_eq_true c2, fun p hp => Post.lst w (Reps.ofStrs _) h hp⟩
  | count =>
    refine tx rfl (ks .count (by decide)) F.slot_str_count F.type_str_count mt_count fun ρ S H z y u Q w ry h => ?_
    cases y <;> try (exact h.elim)
    cases ry.str_
    exact ⟨z, _, rfl, rfl, Post.int w h⟩
  | tindex =>
    refine PE.of (pe_bmT PySem.F.slot_tuple_index PySem.F.type_tuple_index mt_tup_index h1 (pa_cons h2 pa_nil (star_plain hp)) (super_ok hs) (few_ok (by simp [hp]) (by simp)) hl (star_plain hp) (back_any rfl)) fun σ H Q h => ?_
    obtain ⟨ρ0, S0, env0, w0, en0, h⟩ := core h
    refine ⟨ρ0, S0, env0, w0, en0, wp_mono h fun d S1 q ρ1 H1 v st1 w1 rd => ?_⟩
    obtain ⟨ρ, S, env, x, w, en, rx, q⟩ := q ρ1 H1 v st1 w1 rd
    cases x <;> try (exact q.elim)
    rename_i ds
    have q : wp (need (isX ds)) (fun _ S' => wp (do let y ← ev gl cf b env; smRun .tindex (.tup ds) y) (Post X.K ρ H1 Q) S') S := q
    rw [wp_need, wp_bind] at q
    obtain ⟨a, xs, rfl, hq, ht, r2⟩ := rx.x_ q.1
    refine ⟨⟨a, xs, rfl, hq, ht⟩, ρ, S, env, w, en, wp_mono q.2 fun y S2 q ρ2 H2 u st2 w2 ry => ?_⟩
    cases y <;> try (exact q.elim)
    rename_i y
    cases ry.str_
    have q : wp (match strsOf ds with
      | some ys => match ys.findIdx? (fun z => decide (z = y)) with
        | some j => pure (.int (j : Nat))
        | none => fail
      | none => fail) (Post X.K ρ H1 Q) S2 := by
      have q : wp (match (D.str y), strsOf ds with
        | .str y, some ys => (match ys.findIdx? (fun z => decide (z = y)) with
          | some j => pure (.int (j : Nat))
          | none => fail)
        | _, _ => fail : M D) (Post X.K ρ H1 Q) S2 := q
      cases e : strsOf ds with
      | none => rw [e] at q; exact q.elim
      | some ys => rw [e] at q; exact q
    split at q
    · rename_i ys e
      split at q
      · rename_i j ej
        have ex := strsV r2 e
        subst ex
        obtain ⟨hj, e1, e2⟩ := List.findIdx?_eq_some_iff_getElem.mp ej
        refine ⟨a, ys, y, j, rfl, rfl, (st2.kp w).sqt hq, ?_, fun m hm em => ?_, q ρ2 H2 _ st2 w2 (.int _)⟩
        · rw [List.getElem?_eq_getElem hj, of_decide_eq_true e1]
        · have hm' : m < ys.length := by omega
          rw [List.getElem?_eq_getElem hm'] at em
          have := e2 m hm
          rw [decide_eq_true (Option.some.inj em)] at this
          exact this rfl
      · exact q.elim
    · exact q.elim
/-! ### f-strings -/
theorem str_app (x : Str) : (Str.empty : Str) ++ x = x := by
  cases x with | mk a => show (⟨#[] ++ a⟩ : Str) = _; simp
theorem mem_look {α : Type} : ∀ {l : List (Str × α)} {x : Str} {g : α}, l.lookup x = some g → (x, g) ∈ l
  | (y, h) :: r, x, g, e => by
    rw [List.lookup_cons] at e
    cases q : x == y with
    | true =>
      rw [q] at e
      cases e
      rw [eq_of_beq q]
      exact List.mem_cons_self
    | false =>
      rw [q] at e
      exact List.mem_cons_of_mem _ (mem_look e)
/-- the judgements of an f-string's parts -/
inductive PF (X : Cx) (gl : Nat → D) (cf : Nat → List D → M D) : IEs → List Expr → Prop where
  | nil : PF X gl cf .nil []
  | cons {e : IE} {es : IEs} {e1 : Expr} {l : List Expr} : PE X e1 (fun σ H Q => TD X.K (fun env => do let d ← ev gl cf e env; let y ← fmtD d; pure (.str y)) σ H Q) → PF X gl cf es l → PF X gl cf (.cons e es) (e1 :: l)
theorem fmtD_wp {K : PySem.W.Frag} {ρ : List Addr} {S : Store} {H : Hp} {d : D} {v : V} {R : Str → Store → Prop} (r : Rep K ρ H v d) (h : wp (fmtD d) R S) :
    (∃ y : Str, v = .str y ∧ y.length ≤ sizeLine ∧ R y S) ∨ ∃ i : Int, v = .int i ∧ i.natAbs.log2 < 1920 ∧ R (toString i) S := by
  unfold fmtD at h
  split at h
  · simp only [wp_bind, wp_need, wp_pure] at h
    exact .inl ⟨_, r.str_, of_decide_eq_true h.1, h.2⟩
  · simp only [wp_bind, wp_need, wp_pure] at h
    exact .inr ⟨_, r.int_, of_decide_eq_true h.1, h.2⟩
  · exact h.elim
theorem pf_fmt {e : IE} {e1 : Expr} {p : Pos} (h1 : PE X e1 (TD X.K (ev gl cf e))) : PE X (.FormattedValue e1 (-1) none p) (fun σ H Q => TD X.K (fun env => do let d ← ev gl cf e env; let y ← fmtD d; pure (.str y)) σ H Q) := by
  refine PE.of (pe_fmt h1) fun σ H Q h => ?_
  refine TD.then_ (m := ev gl cf e) (f := fun d _ => do let y ← fmtD d; pure (.str y)) h fun ρ S env d v H' w en rd q => ?_
  rw [wp_bind] at q
  rcases fmtD_wp rd q with ⟨y, rfl, hz, q⟩ | ⟨i, rfl, hz, q⟩
  · exact .inl ⟨y, rfl, hz, Post.str w q⟩
  · exact .inr ⟨i, rfl, hz, Post.str w q⟩
theorem pf_const {e : IE} {e1 : Expr} (h1 : PE X e1 (TD X.K (ev gl cf e))) (hs : ∃ x, e = .str x) : PE X e1 (fun σ H Q => TD X.K (fun env => do let d ← ev gl cf e env; let y ← fmtD d; pure (.str y)) σ H Q) := by
  obtain ⟨x, rfl⟩ := hs
  refine PE.of h1 fun σ H Q h => ?_
  obtain ⟨ρ, S, env, w, en, q⟩ := h
  refine ⟨ρ, S, env, w, en, ?_⟩
  simp only [ev, wp_bind, wp_pure] at q ⊢
  unfold fmtD at q
  simp only [wp_bind, wp_need, wp_pure] at q
  exact q.2
theorem pf_ok {es : IEs} {l : List Expr} (h : PF X gl cf es l) : ∃ ts, PJ X l ts ∧ ∀ (acc : Str) (σ : L2.St) (H : Hp) (R : Str → Hp → Prop), (∃ ρ S env, WS X.K ρ S H ∧ EnvR X.K ρ H σ env ∧ wp (evf gl cf es acc env) (fun x S' => ∀ ρ' H', Step ρ H ρ' H' → WS X.K ρ' S' H' → R x H') S) → tJs ts acc σ H R := by
  induction h with
  | nil => exact ⟨[], .nil, fun acc σ H R ⟨ρ, S, env, w, en, q⟩ => q ρ H .refl w⟩
  | @cons e es e1 l he _ ih =>
    obtain ⟨ts, pj, k⟩ := ih
    refine ⟨_, .cons he pj, fun acc σ H R ⟨ρ, S, env, w, en, q⟩ => ?_⟩
    simp only [evf, wp_bind] at q
    refine ⟨ρ, S, env, w, en, ?_⟩
    simp only [wp_bind, wp_pure]
    refine wp_mono q fun d S1 q => wp_mono q fun y S2 q ρ2 H2 v st2 w2 rv => ?_
    simp only [wp_need] at q
    obtain ⟨hz, q⟩ := q
    exact ⟨y, rv.str_, of_decide_eq_true hz, k _ _ _ _ ⟨ρ2, S2, env, w2, en.step w st2, wp_mono q fun x S3 q ρ3 H3 st3 w3 => q ρ3 H3 (st2.trans st3) w3⟩⟩
theorem r_fst {es : IEs} {e1 e2 : Expr} {l : List Expr} {pos : Pos} (h : PF X gl cf es (e1 :: e2 :: l)) : PE X (.JoinedStr (e1 :: e2 :: l) pos) (TD X.K (ev gl cf (.fst es))) := by
  obtain ⟨ts, pj, k⟩ := pf_ok h
  refine PE.of (pe_joined pj) fun σ H Q h => ?_
  obtain ⟨ρ, S, env, w, en, q⟩ := h
  simp only [ev, wp_bind, wp_pure] at q
  exact k _ _ _ _ ⟨ρ, S, env, w, en, wp_mono q fun x S' q ρ' H' st w' => q ρ' H' _ st w' (.str x)⟩
/-! ### functions as values -/
theorem r_fnv (ok : Ok gl cf c X) {x : Str} {p : Pos} (hg : c.glo x = true) (hn : nmOk x = true) (h : decide ((c.G.lookup (keyV x)).any (fun g => match g with | .fnv z _ => decide (z = x) | _ => false) = true) = true) : PE X (.Name x p) (TD X.K (ev gl cf (.fnv x))) := by
  obtain ⟨n1, n2, n3⟩ := nmOk_ hn
  have h := of_decide_eq_true h
  have hm : X.mg x = some (.ref (He.ga X.K x)) := by
    cases e : c.G.lookup (keyV x) with
    | none => rw [e] at h; cases h
    | some g =>
      rw [e] at h
      have q := ok.G _ _ e
      cases g <;> first | exact q.1 | (cases h; done) | skip
      rename_i z i
      cases of_decide_eq_true (show decide (z = x) = true from h)
      exact q.1
  refine PE.of (pe_glob (v := .ref (He.ga X.K x)) (show X.env.scope.names.lookup x = some .globalImplicit by rw [ok.sc]; exact of_decide_eq_true hg) hm rfl n1) fun σ H Q h => ?_
  obtain ⟨ρ, S, env, w, en, q⟩ := h
  exact q ρ H _ .refl w (.fn x)
theorem r_callv (ok : Ok gl cf c X) {i : Nat} {y : Str} {l : List (Str × Nat)} {es : IEs} {e1 : Expr} {r : List Expr} {p pos : Pos} (h : (c.slot i y && (c.vis y && nmOk y)) = true) (hl : callvOk c l = true) (hp : (e1 :: r).all plain = true) (ha : PA X (e1 :: r) (TDs X.K (evs gl cf es))) :
    PE X (.Call (.Name y p) (e1 :: r) [] pos) (TD X.K (ev gl cf (.callv i l es))) := by
  obtain ⟨h1, h2⟩ := and2 h
  obtain ⟨h2, h3⟩ := and2 h2
  obtain ⟨n1, n2, n3⟩ := nmOk_ h3
  rw [List.all_cons] at hp
  obtain ⟨p1, p2⟩ := and2 hp
  refine ⟨fun pins s σ H Q I h => ?_⟩
  obtain ⟨ρ, S, env, w, en, q⟩ := h
  simp only [ev] at q
  split at q
  · rename_i x hx
    obtain ⟨v, hv, rv⟩ := en.at_ i _ hx
    cases rv
    cases e : l.lookup x with
    | none => rw [e] at q; exact q.elim
    | some f =>
      rw [e] at q
      simp only [wp_bind] at q
      have g := List.all_eq_true.mp hl (x, f) (mem_look e)
      obtain ⟨hm, hk, fd, ps, k, hb, hr, F⟩ := ok.G _ _ (of_decide_eq_true g)
      refine (pe_callL (E := E0) F (hr.mono (Nat.le_add_right _ _)) (ok.slot h1) (ok.vis h2) hk hb .nil pass0 ha n1 n2 (star_plain p1) (back_any p2)).run pins s σ H Q I ⟨hv, ρ, S, env, w, en, wp_mono q fun ds S1 q ρ1 H1 vs st1 w1 rs => ?_⟩
      show spD X.K (cf f) (vs ++ []) H1 Q E0
      rw [List.append_nil]
      exact ⟨ρ1, S1, ds, w1, rs, wp_mono q fun d' S2 p => p.step st1⟩
  · exact q.elim
/-! ### range(i, j, -1) -/
theorem src_rngd {K : PySem.W.Frag} {ρ0 : List Addr} {H0 : Hp} {lo hi : Int} : SrcOk K ρ0 H0 (Itc lo (-1) (lo - hi).toNat) ⟨rngdItems lo hi, none, none⟩ := by
  intro i ρ S H st w g
  refine ⟨fun d hd => ?_, fun h => ?_⟩
  · unfold rngdItems at hd
    rw [List.getElem?_map] at hd
    cases e : (List.range (lo - hi).toNat)[i]? with
    | none => rw [e] at hd; cases hd
    | some k =>
      rw [e] at hd
      cases hd
      obtain ⟨h1, h2⟩ := List.getElem?_eq_some_iff.mp e
      rw [List.length_range] at h1
      rw [List.getElem_range] at h2
      subst h2
      refine ⟨h1, fun x H' y => ?_⟩
      obtain ⟨rfl, rfl⟩ := y
      exact ⟨.refl, w, .int _⟩
  · have : (rngdItems lo hi).length ≤ i := h
    unfold rngdItems at this
    rw [List.length_map, List.length_range] at this
    exact this
theorem i_rngd (ok : Ok gl cf c X) {a b : IE} {tg e1 e2 : Expr} {p pos p3 p4 : Pos} {k : Nat} (h : c.is "range" .free = true) (hp : plain e1 = true) (hp2 : plain e2 = true) (h1 : PE X e1 (TD X.K (ev gl cf a))) (h2 : PE X e2 (TD X.K (ev gl cf b))) :
    PI X tg (.Call (.Name "range" p) [e1, e2, .UnaryOp .USub (.Constant (.int 1) k p3) p4] [] pos) (TIs X.K (evi gl cf (.rngd a b))) := by
  obtain ⟨hg, hm⟩ := ok.is_ h
  have h3 : PE X (.UnaryOp .USub (.Constant (.int 1) k p3) p4) (TD X.K (ev gl cf (.neg (.int 1)))) := r_neg r_int
  have s3 : starEach [.UnaryOp .USub (.Constant (.int 1) k p3) p4] X.env = (false, eval (.UnaryOp .USub (.Constant (.int 1) k p3) p4) X.env) :: starEach [] X.env := star_plain rfl
  have g := pi_range3 (tg := tg) (p := p) (pos := pos) hg hm (pa_cons h1 (pa_cons h2 (pa_cons h3 pa_nil s3) (star_plain hp2)) (star_plain hp)) (star_plain hp) (back_any (by rw [List.all_cons, hp2]; rfl))
  refine ⟨fun pins s σ H R I h => g.run pins s σ H R I ?_⟩
  obtain ⟨ρ, S, env, w, en, h⟩ := h
  simp only [evi, wp_bind] at h
  refine ⟨ρ, S, env, w, en, wp_mono h fun d S1 h ρ1 H1 v st1 w1 rv => ⟨ρ1, S1, env, w1, en.step w st1, wp_mono h fun d2 S2 h ρ2 H2 v2 st2 w2 rv2 => ?_⟩⟩
  unfold rngdSrc at h
  split at h
  · cases rv.int_
    cases rv2.int_
    simp only [wp_bind, wp_need, wp_pure] at h
    obtain ⟨hb, h⟩ := h
    obtain ⟨b1, b2⟩ := and2 hb
    obtain ⟨c1, c2⟩ := small62_ b1
    obtain ⟨c3, c4⟩ := small62_ b2
    refine ⟨ρ2, S2, env, w2, (en.step w st1).step w1 st2, ?_⟩
    show wp (do let x ← ev gl cf (.int 1) env; (match x with | .int i => pure (D.int (-i)) | _ => fail)) _ S2
    simp only [ev, wp_bind, wp_pure]
    intro ρ3 H3 v3 st3 w3 rv3
    cases rv3.int_
    exact ⟨_, _, _, _, rfl, RgC.neg c1 c2 c3 c4, h ρ3 H3 _ ((st1.trans st2).trans st3) w3 src_rngd⟩
  · exact h.elim
theorem chks_nil : ∀ {es : IEs}, chks c es [] = true → es = .nil
  | .nil, _ => rfl
  | .cons _ _, h => by simp only [chks] at h; cases h
end
end Dl
end

section
set_option Elab.async false
set_option linter.all false
set_option maxRecDepth 100000
set_option maxHeartbeats 2000000
/-! Dl: soundness of the checker, expressions and statements -/
namespace Dl
open PySem PySem.Spec PyProof.Rows L2
theorem bnd_assoc {α β γ : Type} (m : M α) (f : α → M β) (g : β → M γ) : (m >>= f) >>= g = m >>= fun a => f a >>= g := by
  funext S
  show M.bnd (M.bnd m f) g S = M.bnd m (fun a => M.bnd (f a) g) S
  unfold M.bnd
  cases m S <;> rfl
def isBO : Expr → Bool | .BoolOp _ _ _ => true | _ => false
section
variable {gl : Nat → D} {cf : Nat → List D → M D}
theorem tst_var (i : Nat) : tst gl cf (.var i) = fun env => (do let d ← ev gl cf (.var i) env; truth d) := by
  funext env
  simp only [tst, ev]
  cases env[i]? with
  | none => rfl
  | some o => cases o <;> rfl
theorem tst_call (f : Nat) (es : IEs) : tst gl cf (.call f es) = fun env => (do let d ← ev gl cf (.call f es) env; truth d) := by
  funext env
  simp only [tst, ev, bnd_assoc]
theorem tst_mcall (C m : Str) (f : Nat) (o : IE) (es : IEs) : tst gl cf (.mcall C m f o es) = fun env => (do let d ← ev gl cf (.mcall C m f o es) env; truth d) := by
  funext env
  simp only [tst, ev, bnd_assoc]
theorem tst_bi (f : Bi) (es : IEs) : tst gl cf (.bi f es) = fun env => (do let d ← ev gl cf (.bi f es) env; truth d) := by
  funext env
  simp only [tst, ev, bnd_assoc]
theorem tst_isi (f : IE) (t : Ty) : tst gl cf (.isi f t) = fun env => (do let d ← ev gl cf (.isi f t) env; truth d) := by
  funext env
  simp only [tst, ev, bnd_assoc]
theorem tst_isis (f : IE) (t : List Ty) : tst gl cf (.isis f t) = fun env => (do let d ← ev gl cf (.isis f t) env; truth d) := by
  funext env
  simp only [tst, ev, bnd_assoc]
theorem pt_fail {X : Cx} {e : Expr} {K : PySem.W.Frag} (h : ∀ env, tst gl cf ir env = fail) : PT X e (TB K (tst gl cf ir)) := ⟨fun pins s σ H Q I hw => by
  obtain ⟨ρ, S, env, w, en, q⟩ := hw
  rw [h] at q
  exact q.elim⟩
theorem pw_fail {X : Cx} {e : Expr} {K : PySem.W.Frag} (h : ∀ env, tst gl cf ir env = fail) : PW X e (TB K (tst gl cf ir)) := ⟨fun wh pins s σ H Q I hw => by
  obtain ⟨ρ, S, env, w, en, q⟩ := hw
  rw [h] at q
  exact q.elim⟩
theorem t_bl {X : Cx} {b : Bool} {k : Nat} {pos : Pos} : PT X (.Constant (.bool b) k pos) (TB X.K (tst gl cf (.bl b))) :=
  PT.of (pt_val pe_bl) fun σ H Q ⟨ρ, S, env, w, en, q⟩ => ⟨b, rfl, q ρ H .refl w⟩
/-- what the soundness says of a test -/
def TOk (gl : Nat → D) (cf : Nat → List D → M D) (X : Cx) (e : Expr) (ir : IE) : Prop := PT X e (TB X.K (tst gl cf ir)) ∧ (isBO e = true → PW X e (TB X.K (tst gl cf ir)))
theorem TOk.fail {X : Cx} {e : Expr} {ir : IE} (h : ∀ env, tst gl cf ir env = Dl.fail) : TOk gl cf X e ir := ⟨pt_fail h, fun _ => pw_fail h⟩
theorem TOk.pt {X : Cx} {e : Expr} {ir : IE} (h : PT X e (TB X.K (tst gl cf ir))) (hb : isBO e = false) : TOk gl cf X e ir := ⟨h, fun z => by rw [hb] at z; cases z⟩
theorem TOk.pw {X : Cx} {e : Expr} {ir : IE} (h : PW X e (TB X.K (tst gl cf ir))) : TOk gl cf X e ir := ⟨h.pt, fun _ => h⟩
theorem slots_in {own : List Nat} {sl : List Nat} (h : sl.all (own.contains ·) = true) : ∀ i ∈ sl, i ∈ own := fun i hi => by
  have := List.all_eq_true.mp h i hi
  simpa using this
theorem ownP_snd (c : Cst) (own : List Nat) : (ownP c own).map (·.2) = own := by
  unfold ownP
  rw [List.map_map]
  exact List.map_id _
theorem r_meX {c : Cst} {X : Cx} (hu : X.A.units + 65 < cLine) {m : Me} {o : IE} {e : Expr} {apos pos : Pos} {l : List Expr} {es : IEs} (h2 : (apos.endLine == pos.line) = true) (h3 : noSuper e = true) (h4 : l.length < 29) (g1 : PE X e (TD X.K (ev gl cf o))) (h6 : chks c es l = true)
    (a1 : PA X l (TDs X.K (evs gl cf es))) (a2 : l.all plain = true) : PE X (.Call (.Attribute e m.name apos) l [] pos) (TD X.K (ev gl cf (.me m o es))) := by
  cases l with
  | nil =>
    cases es with
    | nil =>
      by_cases hm : m = .pop ∨ m = .reverse
      · exact r_me0 hu h2 h3 g1 a1 hm
      · refine ⟨fun pins s σ H Q I hw => ?_⟩
        obtain ⟨ρ, S, env, w, en, q⟩ := hw
        simp only [ev, evs, wp_bind, wp_pure] at q
        obtain ⟨x, S1, _, q⟩ := wp_some q
        obtain ⟨u, S2, _, q⟩ := wp_some q
        unfold meRun at q
        split at q
        · simp only [wp_bind, wp_getO] at q
          obtain ⟨o1, e1, q⟩ := q
          cases m <;> first | exact absurd (.inl rfl) hm | exact absurd (.inr rfl) hm | (split at q <;> exact q.elim)
        · exact q.elim
    | cons _ _ => simp only [chks] at h6; cases h6
  | cons e1 l =>
    by_cases hm : m = .append ∨ m = .popAt ∨ m = .remove
    · exact r_me hu h2 h3 h4 a2 g1 a1 hm
    · cases es with
      | nil => simp only [chks] at h6; cases h6
      | cons ea es =>
        refine ⟨fun pins s σ H Q I hw => ?_⟩
        obtain ⟨ρ, S, env, w, en, q⟩ := hw
        simp only [ev, evs, wp_bind, wp_pure] at q
        obtain ⟨x, S1, _, q⟩ := wp_some q
        obtain ⟨u, S2, _, q⟩ := wp_some q
        obtain ⟨d, S3, _, q⟩ := wp_some q
        obtain ⟨ds, S4, _, q⟩ := wp_some q
        unfold meRun at q
        split at q
        · simp only [wp_bind, wp_getO] at q
          obtain ⟨o1, e1, q⟩ := q
          cases m <;> first | exact absurd (.inl rfl) hm | exact absurd (.inr (.inl rfl)) hm | exact absurd (.inr (.inr rfl)) hm | (split at q <;> exact q.elim)
        · exact q.elim
mutual
theorem chk_ok : ∀ (ir : IE) (c : Cst) (X : Cx) (e : Expr), Ok gl cf c X → chk c ir e = true → PE X e (TD X.K (ev gl cf ir))
  | .var i, c, X, e, ok, h => by
    simp only [chk] at h
    split at h
    · exact r_var ok h
    · cases h
  | .int i, c, X, e, ok, h => by
    simp only [chk] at h
    split at h
    · cases of_decide_eq_true h
      exact r_int
    · cases h
  | .bl i, c, X, e, ok, h => by
    simp only [chk] at h
    split at h
    · cases of_decide_eq_true h
      exact r_bl
    · cases h
  | .non, c, X, e, ok, h => by
    simp only [chk] at h
    split at h
    · exact r_non
    · cases h
  | .str x, c, X, e, ok, h => by
    simp only [chk] at h
    split at h
    · cases of_decide_eq_true h
      exact r_str
    · cases h
  | .glo g, c, X, e, ok, h => by
    simp only [chk] at h
    split at h
    · exact r_glo ok h
    · cases h
  | .tup es, c, X, e, ok, h => by
    simp only [chk] at h
    split at h
    · exact r_tup (chks_ok es c X _ ok h).1
    · cases h
  | .lst es, c, X, e, ok, h => by
    simp only [chk] at h
    split at h
    · exact r_lst (chks_ok es c X _ ok h).1
    · cases h
  | .op o a b, c, X, e, ok, h => by
    simp only [chk] at h
    split at h
    · obtain ⟨h1, h⟩ := and2 h
      obtain ⟨h2, h3⟩ := and2 h
      cases of_decide_eq_true h1
      exact r_op (chk_ok a c X _ ok h2) (chk_ok b c X _ ok h3)
    · cases h
  | .neg a, c, X, e, ok, h => by
    simp only [chk] at h
    split at h
    · exact r_neg (chk_ok a c X _ ok h)
    · cases h
  | .not a, c, X, e, ok, h => by
    simp only [chk] at h
    split at h
    · exact r_not (chk_ok a c X _ ok h)
    · cases h
  | .and a b, c, X, e, ok, h => by
    simp only [chk] at h
    split at h
    · obtain ⟨h2, h3⟩ := and2 h
      exact r_and (chk_ok a c X _ ok h2) (pe_one (chk_ok b c X _ ok h3))
    · obtain ⟨h2, h3⟩ := and2 h
      exact r_and (chk_ok a c X _ ok h2) (chk_ok b c X _ ok h3)
    · cases h
  | .or a b, c, X, e, ok, h => by
    simp only [chk] at h
    split at h
    · obtain ⟨h2, h3⟩ := and2 h
      exact r_or (chk_ok a c X _ ok h2) (pe_one (chk_ok b c X _ ok h3))
    · obtain ⟨h2, h3⟩ := and2 h
      exact r_or (chk_ok a c X _ ok h2) (chk_ok b c X _ ok h3)
    · cases h
  | .cmp o a b, c, X, e, ok, h => by
    simp only [chk] at h
    split at h
    · obtain ⟨h1, h⟩ := and2 h
      obtain ⟨h0, h⟩ := and2 h
      obtain ⟨h2, h3⟩ := and2 h
      cases of_decide_eq_true h1
      exact r_cmp ok h0 (chk_ok a c X _ ok h2) (chk_ok b c X _ ok h3)
    · cases h
  | .chain o o2 a b d, c, X, e, ok, h => by
    simp only [chk] at h
    split at h
    · obtain ⟨h1, h⟩ := and2 h
      obtain ⟨h1', h⟩ := and2 h
      obtain ⟨h0, h⟩ := and2 h
      obtain ⟨h2, h⟩ := and2 h
      obtain ⟨h3, h4⟩ := and2 h
      cases of_decide_eq_true h1
      cases of_decide_eq_true h1'
      exact r_chain ok h0 (chk_ok a c X _ ok h2) (chk_ok b c X _ ok h3) (chk_ok d c X _ ok h4)
    · cases h
  | .ite t a b, c, X, e, ok, h => by
    simp only [chk] at h
    split at h
    · obtain ⟨h1, h⟩ := and2 h
      obtain ⟨h2, h3⟩ := and2 h
      exact r_ite (tst_ok t c X _ ok h1).1 (chk_ok a c X _ ok h2) (chk_ok b c X _ ok h3)
    · cases h
  | .ix a b, c, X, e, ok, h => by
    simp only [chk] at h
    split at h
    · obtain ⟨h1, h⟩ := and2 h
      obtain ⟨h2, h3⟩ := and2 h
      exact r_ix h1 (chk_ok a c X _ ok h2) (chk_ok b c X _ ok h3)
    · cases h
  | .sl a lo hi, c, X, e, ok, h => by
    simp only [chk] at h
    split at h
    · obtain ⟨h1, h⟩ := and2 h
      obtain ⟨h2, h3⟩ := and2 h
      exact r_sl (chk_ok a c X _ ok h1) (chko_ok lo c X _ ok h2) (chko_ok hi c X _ ok h3)
    · cases h
  | .rev a, c, X, e, ok, h => by
    simp only [chk] at h
    split at h
    · exact r_rev (chk_ok a c X _ ok h)
    · cases h
  | .call f es, c, X, e, ok, h => by
    simp only [chk] at h
    split at h
    · obtain ⟨h1, h⟩ := and2 h
      obtain ⟨h2, h3⟩ := and2 h
      obtain ⟨a1, a2⟩ := chks_ok es c X _ ok h3
      exact r_call ok (by rw [h1, h2]; rfl) a2 a1
    · cases h
  | .bi b es, c, X, e, ok, h => by
    simp only [chk] at h
    split at h
    · obtain ⟨h1, h⟩ := and2 h
      obtain ⟨h2, h3⟩ := and2 h
      obtain ⟨a1, a2⟩ := chks_ok es c X _ ok h3
      cases of_decide_eq_true h1
      exact r_bi ok h2 a2 a1
    · cases h
  | .me m o es, c, X, e, ok, h => by
    simp only [chk] at h
    split at h
    · obtain ⟨h1, h⟩ := and2 h
      obtain ⟨h2, h⟩ := and2 h
      obtain ⟨h3, h⟩ := and2 h
      obtain ⟨h4, h⟩ := and2 h
      obtain ⟨h5, h6⟩ := and2 h
      cases of_decide_eq_true h1
      have h4 := of_decide_eq_true h4
      have g1 := chk_ok o c X _ ok h5
      obtain ⟨a1, a2⟩ := chks_ok es c X _ ok h6
      exact r_meX ok.un h2 h3 h4 g1 h6 a1 a2
    · cases h
  | .isi a t, c, X, e, ok, h => by
    simp only [chk] at h
    split at h
    · obtain ⟨h1, h⟩ := and2 h
      obtain ⟨h2, h⟩ := and2 h
      obtain ⟨h3, h⟩ := and2 h
      obtain ⟨h4, h⟩ := and2 h
      obtain ⟨h5, h6⟩ := and2 h
      cases of_decide_eq_true h1
      cases of_decide_eq_true h3
      exact r_isi ok h2 h4 h5 (chk_ok a c X _ ok h6)
    · cases h
  | .isis a ts, c, X, e, ok, h => by
    simp only [chk] at h
    split at h
    · obtain ⟨h1, h⟩ := and2 h
      obtain ⟨h2, h⟩ := and2 h
      obtain ⟨h3, h⟩ := and2 h
      obtain ⟨h4, h⟩ := and2 h
      obtain ⟨h5, h6⟩ := and2 h
      cases of_decide_eq_true h1
      exact r_isis ok h2 h3 (of_decide_eq_true h4) h5 (chk_ok a c X _ ok h6)
    · cases h
  | .comp t own it cond elt, c, X, e, ok, h => by
    simp only [chk] at h
    split at h
    · obtain ⟨h1, h⟩ := and2 h
      obtain ⟨h2, h⟩ := and2 h
      obtain ⟨h3, h⟩ := and2 h
      obtain ⟨h4, h⟩ := and2 h
      obtain ⟨h5, h⟩ := and2 h
      obtain ⟨h6, h⟩ := and2 h
      obtain ⟨h7, h⟩ := and2 h
      obtain ⟨h8, h9⟩ := and2 h
      cases of_decide_eq_true h1
      refine PE.of (pe_lc (own := ownP c own) (g := TGd X.K t.slots (asg gl cf t)) (tt := TB X.K (evc gl cf cond)) (te := TD X.K (ev gl cf elt)) ok.calm ok.nd (chkI_ok it c X _ _ ok h6) (by rw [ok.N, ok.sc]; exact blkOk_by h3)
        (fun s H C cl fp => chkT_ok t _ _ _ (ok.blk _ s H C cl fp) h7) (fun s H C cl fp => chkc_ok cond _ _ _ (ok.blk _ s H C cl fp) h8) (fun s H C cl fp => chk_ok elt _ _ _ (ok.blk _ s H C cl fp) h9) (folded_ok h2)) fun σ H Q hh => ?_
      exact r_comp ok (ownP_snd c own) (slots_in h5) (chkI_ok it c X _ _ ok h6) hh
    · cases h
  | .tupr a, c, X, e, ok, h => by
    simp only [chk] at h
    split at h
    · obtain ⟨h1, h⟩ := and2 h
      obtain ⟨h2, h⟩ := and2 h
      obtain ⟨h3, h⟩ := and2 h
      obtain ⟨h4, h⟩ := and2 h
      obtain ⟨h5, h6⟩ := and2 h
      cases of_decide_eq_true h1
      cases of_decide_eq_true h3
      exact r_tupr ok h2 h4 h5 (chk_ok a c X _ ok h6)
    · cases h
  | .lstr a, c, X, e, ok, h => by
    simp only [chk] at h
    split at h
    · obtain ⟨h1, h⟩ := and2 h
      obtain ⟨h2, h⟩ := and2 h
      obtain ⟨h3, h⟩ := and2 h
      obtain ⟨h4, h⟩ := and2 h
      obtain ⟨h5, h6⟩ := and2 h
      cases of_decide_eq_true h1
      cases of_decide_eq_true h3
      exact r_lstr ok h2 h4 h5 (chk_ok a c X _ ok h6)
    · cases h
  | .dnew, c, X, e, ok, h => by
    simp only [chk] at h
    split at h
    · exact r_dnew
    · cases h
  | .dget a b, c, X, e, ok, h => by
    simp only [chk] at h
    split at h
    · obtain ⟨h1, h⟩ := and2 h
      obtain ⟨h2, h3⟩ := and2 h
      exact r_dget ok h1 (chk_ok a c X _ ok h2) (chk_ok b c X _ ok h3)
    · cases h
  | .din a b, c, X, e, ok, h => by
    simp only [chk] at h
    split at h
    · obtain ⟨h1, h⟩ := and2 h
      obtain ⟨h2, h3⟩ := and2 h
      exact r_din ok h1 (chk_ok a c X _ ok h2) (chk_ok b c X _ ok h3)
    · cases h
  | .dget2 a b d, c, X, e, ok, h => by
    simp only [chk] at h
    split at h
    · obtain ⟨h1, h⟩ := and2 h
      obtain ⟨h2, h⟩ := and2 h
      obtain ⟨h3, h⟩ := and2 h
      obtain ⟨h4, h⟩ := and2 h
      obtain ⟨h5, h⟩ := and2 h
      obtain ⟨h6, h⟩ := and2 h
      obtain ⟨h7, h8⟩ := and2 h
      cases of_decide_eq_true h1
      exact r_dget2 ok h2 h3 h4 h5 (chk_ok a c X _ ok h6) (chk_ok b c X _ ok h7) (chk_ok d c X _ ok h8)
    · cases h
  | .dpop a b, c, X, e, ok, h => by
    simp only [chk] at h
    split at h
    · obtain ⟨h1, h⟩ := and2 h
      obtain ⟨h2, h⟩ := and2 h
      obtain ⟨h3, h⟩ := and2 h
      obtain ⟨h4, h⟩ := and2 h
      obtain ⟨h5, h6⟩ := and2 h
      cases of_decide_eq_true h1
      exact r_dpop ok h2 h3 h4 (chk_ok a c X _ ok h5) (chk_ok b c X _ ok h6)
    · cases h
  | .dcomp i t own cond elt, c, X, e, ok, h => by
    simp only [chk] at h
    split at h
    · obtain ⟨h1, h⟩ := and2 h
      obtain ⟨h2, h⟩ := and2 h
      obtain ⟨h3, h⟩ := and2 h
      obtain ⟨h4, h⟩ := and2 h
      obtain ⟨h5, h⟩ := and2 h
      obtain ⟨h7, h⟩ := and2 h
      obtain ⟨h8, h9⟩ := and2 h
      cases of_decide_eq_true h1
      obtain ⟨s1, s2⟩ := and2 h2
      obtain ⟨s2, s3⟩ := and2 s2
      obtain ⟨n1, n2, n3⟩ := nmOk_ s3
      refine PE.of (pe_lock (pe_lc (own := ownP c own) (g := TGd X.K t.slots (asg gl cf t)) (tt := TB X.K (evc gl cf cond)) (te := TD X.K (ev gl cf elt)) ok.calm ok.nd (pi_keys (pe_var (ok.slot s1) (ok.vis s2) n1 n2)) (by rw [ok.N, ok.sc]; exact blkOk_by h3)
        (fun s H C cl fp => chkT_ok t _ _ _ (ok.blk _ s H C cl fp) h7) (fun s H C cl fp => chkc_ok cond _ _ _ (ok.blk _ s H C cl fp) h8) (fun s H C cl fp => chk_ok elt _ _ _ (ok.blk _ s H C cl fp) h9) (fun _ => rfl))) fun σ H Q hh => ?_
      rw [ownP_snd]
      exact dcomp_core (slots_in h5) hh
    · cases h
  | .sortp a, c, X, e, ok, h => by
    simp only [chk] at h
    split at h
    · obtain ⟨h1, h⟩ := and2 h
      obtain ⟨h2, h⟩ := and2 h
      obtain ⟨h3, h⟩ := and2 h
      obtain ⟨h4, h5⟩ := and2 h
      cases of_decide_eq_true h1
      cases of_decide_eq_true h3
      exact r_sortp ok h2 h4 (chk_ok a c X _ ok h5)
    · cases h
  | .dkeys a, c, X, e, ok, h => by
    simp only [chk] at h
    split at h
    · obtain ⟨h1, h⟩ := and2 h
      obtain ⟨h2, h⟩ := and2 h
      obtain ⟨h4, h5⟩ := and2 h
      cases of_decide_eq_true h1
      exact r_dkeys ok h2 h4 (chk_ok a c X _ ok h5)
    · cases h
  | .dlen a, c, X, e, ok, h => by
    simp only [chk] at h
    split at h
    · obtain ⟨h1, h⟩ := and2 h
      obtain ⟨h2, h⟩ := and2 h
      obtain ⟨h4, h5⟩ := and2 h
      cases of_decide_eq_true h1
      exact r_dlen ok h2 h4 (chk_ok a c X _ ok h5)
    · cases h
  | .dof a, c, X, e, ok, h => by
    simp only [chk] at h
    split at h
    · obtain ⟨h1, h⟩ := and2 h
      obtain ⟨h2, h⟩ := and2 h
      obtain ⟨h4, h5⟩ := and2 h
      cases of_decide_eq_true h1
      exact r_dof ok h2 h4 (chk_ok a c X _ ok h5)
    · cases h
  | .fld C f a, c, X, e, ok, h => by
    simp only [chk] at h
    split at h
    · obtain ⟨h1, h⟩ := and2 h
      obtain ⟨h2, h⟩ := and2 h
      obtain ⟨h3, h4⟩ := and2 h
      cases of_decide_eq_true h1
      exact r_fld ok h2 h3 (chk_ok a c X _ ok h4)
    · cases h
  | .new C fi es, c, X, e, ok, h => by
    simp only [chk] at h
    split at h
    · obtain ⟨h1, h⟩ := and2 h
      obtain ⟨h2, h⟩ := and2 h
      obtain ⟨h3, h⟩ := and2 h
      obtain ⟨h4, h5⟩ := and2 h
      cases of_decide_eq_true h1
      obtain ⟨a1, a2⟩ := chks_ok es c X _ ok h5
      exact r_new ok h3 (of_decide_eq_true h2) h4 a2 a1 fun z => by subst z; exact chks_nil h5
    · cases h
  | .mcall C m fi o es, c, X, e, ok, h => by
    simp only [chk] at h
    split at h
    · obtain ⟨h1, h⟩ := and2 h
      obtain ⟨h2, h⟩ := and2 h
      obtain ⟨h3, h⟩ := and2 h
      obtain ⟨h4, h⟩ := and2 h
      obtain ⟨h5, h⟩ := and2 h
      obtain ⟨h6, h7⟩ := and2 h
      cases of_decide_eq_true h1
      obtain ⟨a1, a2⟩ := chks_ok es c X _ ok h7
      exact r_mcall ok h2 h3 (of_decide_eq_true h4) h5 (chk_ok o c X _ ok h6) a2 a1 fun z => by subst z; exact chks_nil h7
    · cases h
  | .m1 k a b, c, X, e, ok, h => by
    simp only [chk] at h
    split at h
    · obtain ⟨h1, h⟩ := and2 h
      obtain ⟨h2, h⟩ := and2 h
      obtain ⟨h3, h⟩ := and2 h
      obtain ⟨h4, h⟩ := and2 h
      obtain ⟨h5, h6⟩ := and2 h
      cases of_decide_eq_true h1
      exact r_m1 h2 h3 h4 (chk_ok a c X _ ok h5) (chk_ok b c X _ ok h6)
    · cases h
  | .fst es, c, X, e, ok, h => by
    simp only [chk] at h
    split at h
    · exact r_fst (chkf_ok es c X _ ok h)
    · cases h
  | .fnv x, c, X, e, ok, h => by
    simp only [chk] at h
    split at h
    · obtain ⟨h1, h⟩ := and2 h
      obtain ⟨h2, h⟩ := and2 h
      obtain ⟨h3, h4⟩ := and2 h
      cases of_decide_eq_true h1
      exact r_fnv ok h2 h3 h4
    · cases h
  | .callv i l es, c, X, e, ok, h => by
    simp only [chk] at h
    split at h
    · obtain ⟨h1, h⟩ := and2 h
      obtain ⟨h2, h3⟩ := and2 h
      obtain ⟨a1, a2⟩ := chks_ok es c X _ ok h3
      exact r_callv ok h1 h2 a2 a1
    · cases h
  | .maxl a, c, X, e, ok, h => by
    simp only [chk] at h
    split at h
    · obtain ⟨h1, h⟩ := and2 h
      obtain ⟨h2, h⟩ := and2 h
      obtain ⟨h4, h5⟩ := and2 h
      cases of_decide_eq_true h1
      exact r_maxl ok h2 h4 (chk_ok a c X _ ok h5)
    · cases h
  | .maxd a b, c, X, e, ok, h => by
    simp only [chk] at h
    split at h
    · obtain ⟨h1, h⟩ := and2 h
      obtain ⟨h2, h⟩ := and2 h
      obtain ⟨h3, h⟩ := and2 h
      obtain ⟨h4, h⟩ := and2 h
      obtain ⟨h5, h6⟩ := and2 h
      cases of_decide_eq_true h1
      cases of_decide_eq_true h3
      exact r_maxd ok h2 h4 (chk_ok a c X _ ok h5) (chk_ok b c X _ ok h6)
    · cases h
  | .dmk t own it k v, c, X, e, ok, h => by
    simp only [chk] at h
    split at h
    · obtain ⟨h1, h⟩ := and2 h
      obtain ⟨h2, h⟩ := and2 h
      obtain ⟨h3, h⟩ := and2 h
      obtain ⟨h4, h⟩ := and2 h
      obtain ⟨h5, h⟩ := and2 h
      obtain ⟨h6, h⟩ := and2 h
      obtain ⟨h7, h⟩ := and2 h
      obtain ⟨h8, h9⟩ := and2 h
      cases of_decide_eq_true h1
      refine PE.of (pe_dT (own := ownP c own) (g := TGd X.K t.slots (asg gl cf t)) (tt := TB X.K (evc gl cf .no)) (tk := TD X.K (ev gl cf k)) (tv := TD X.K (ev gl cf v)) ok.calm ok.nd (by have := ok.un; omega) (chkI_ok it c X _ _ ok h6) (by rw [ok.N, ok.sc]; exact blkOk_by h3)
        (fun s H C cl fp => chkT_ok t _ _ _ (ok.blk _ s H C cl fp) h7) (fun s H C cl fp => c_no) (fun s H C cl fp => chk_ok k _ _ _ (ok.blk _ s H C cl fp) h8) (fun s H C cl fp => chk_ok v _ _ _ (ok.blk _ s H C cl fp) h9) (folded_ok h2)) fun σ H Q hh => ?_
      exact r_dmk ok (ownP_snd c own) (slots_in h5) hh
    · cases h
theorem chks_ok : ∀ (es : IEs) (c : Cst) (X : Cx) (l : List Expr), Ok gl cf c X → chks c es l = true → PA X l (TDs X.K (evs gl cf es)) ∧ l.all plain = true
  | .nil, c, X, l, ok, h => by
    simp only [chks] at h
    split at h
    · exact ⟨r_nil, rfl⟩
    · cases h
  | .cons e es, c, X, l, ok, h => by
    simp only [chks] at h
    split at h
    · obtain ⟨h1, h⟩ := and2 h
      obtain ⟨h2, h3⟩ := and2 h
      obtain ⟨a1, a2⟩ := chks_ok es c X _ ok h3
      exact ⟨r_cons h1 (chk_ok e c X _ ok h2) a1, by rw [List.all_cons, h1, a2]; rfl⟩
    · cases h
theorem chkf_ok : ∀ (es : IEs) (c : Cst) (X : Cx) (l : List Expr), Ok gl cf c X → chkf c es l = true → PF X gl cf es l
  | .nil, c, X, l, ok, h => by
    simp only [chkf] at h
    split at h
    · exact .nil
    · cases h
  | .cons e es, c, X, l, ok, h => by
    simp only [chkf] at h
    split at h
    · obtain ⟨h1, h⟩ := and2 h
      obtain ⟨h2, h3⟩ := and2 h
      cases of_decide_eq_true h1
      exact .cons (pf_fmt (chk_ok e c X _ ok h2)) (chkf_ok es c X _ ok h3)
    · obtain ⟨h2, h⟩ := and2 h
      obtain ⟨h2', h3⟩ := and2 h
      exact .cons (pf_const (chk_ok e c X _ ok h2) (by cases e <;> first | exact ⟨_, rfl⟩ | cases h2')) (chkf_ok es c X _ ok h3)
    · cases h
theorem chko_ok : ∀ (o : IO) (c : Cst) (X : Cx) (e : Option Expr), Ok gl cf c X → chko c o e = true → PO X e (TOd X.K (evo gl cf o))
  | .no, c, X, e, ok, h => by
    simp only [chko] at h
    split at h
    · exact r_no
    · cases h
  | .so a, c, X, e, ok, h => by
    simp only [chko] at h
    split at h
    · exact r_so (chk_ok a c X _ ok h)
    · cases h
theorem chkc_ok : ∀ (o : IC) (c : Cst) (X : Cx) (e : List Expr), Ok gl cf c X → chkc c o e = true → PTs X e (TB X.K (evc gl cf o))
  | .no, c, X, e, ok, h => by
    simp only [chkc] at h
    split at h
    · exact c_no
    · cases h
  | .so a, c, X, e, ok, h => by
    simp only [chkc] at h
    split at h
    · exact c_so (tst_ok a c X _ ok h).1
    · cases h
theorem chkI_ok : ∀ (o : II) (c : Cst) (X : Cx) (tg e : Expr), Ok gl cf c X → chkI c tg o e = true → PI X tg e (TIs X.K (evi gl cf o))
  | .seq a, c, X, tg, e, ok, h => by
    simp only [chkI] at h
    obtain ⟨h1, h2⟩ := and2 h
    exact i_seq (chk_ok a c X _ ok h2)
  | .rng1 a, c, X, tg, e, ok, h => by
    simp only [chkI] at h
    split at h
    · obtain ⟨h1, h⟩ := and2 h
      obtain ⟨h2, h⟩ := and2 h
      obtain ⟨h3, h4⟩ := and2 h
      cases of_decide_eq_true h1
      exact i_rng1 ok h2 h3 (chk_ok a c X _ ok h4)
    · cases h
  | .rng2 a b, c, X, tg, e, ok, h => by
    simp only [chkI] at h
    split at h
    · obtain ⟨h1, h⟩ := and2 h
      obtain ⟨h2, h⟩ := and2 h
      obtain ⟨h3, h⟩ := and2 h
      obtain ⟨h4, h⟩ := and2 h
      obtain ⟨h5, h6⟩ := and2 h
      cases of_decide_eq_true h1
      exact i_rng2 ok h2 h3 h4 (chk_ok a c X _ ok h5) (chk_ok b c X _ ok h6)
    · cases h
  | .rngd a b, c, X, tg, e, ok, h => by
    simp only [chkI] at h
    split at h
    · obtain ⟨h1, h⟩ := and2 h
      obtain ⟨h2, h⟩ := and2 h
      obtain ⟨h0, h⟩ := and2 h
      obtain ⟨h3, h⟩ := and2 h
      obtain ⟨h4, h⟩ := and2 h
      obtain ⟨h5, h6⟩ := and2 h
      cases of_decide_eq_true h1
      cases of_decide_eq_true h0
      exact i_rngd ok h2 h3 h4 (chk_ok a c X _ ok h5) (chk_ok b c X _ ok h6)
    · cases h
  | .zip a b, c, X, tg, e, ok, h => by
    simp only [chkI] at h
    split at h
    · obtain ⟨h1, h⟩ := and2 h
      obtain ⟨h2, h⟩ := and2 h
      obtain ⟨h3, h⟩ := and2 h
      obtain ⟨h4, h⟩ := and2 h
      obtain ⟨h0, h⟩ := and2 h
      obtain ⟨h5, h6⟩ := and2 h
      cases of_decide_eq_true h1
      cases tg with
      | Tuple l k p => exact i_zip ok h2 h3 h4 (chk_ok a c X _ ok h5) (chk_ok b c X _ ok h6)
      | _ => cases h0
    · cases h
theorem chkT_ok : ∀ (t : TG) (c : Cst) (X : Cx) (e : Expr), Ok gl cf c X → chkT c t e = true → PG X e (TGd X.K t.slots (asg gl cf t))
  | .nm i, c, X, e, ok, h => by
    simp only [chkT] at h
    split at h
    · simp only [TG.slots]
      exact g_nm ok h
    · cases h
  | .tp ts, c, X, e, ok, h => by
    simp only [chkT] at h
    split at h
    · obtain ⟨a1, a2, a3⟩ := chkTs_ok ts c X _ ok h
      simp only [TG.slots]
      exact g_tp ok a2 a3 a1
    · cases h
  | .ixs o i, c, X, e, ok, h => by
    simp only [chkT] at h
    split at h
    · obtain ⟨h1, h⟩ := and2 h
      obtain ⟨h2, h3⟩ := and2 h
      simp only [TG.slots]
      exact g_ixs h1 (chk_ok o c X _ ok h2) (chk_ok i c X _ ok h3)
    · cases h
theorem chkTs_ok : ∀ (t : TGs) (c : Cst) (X : Cx) (e : List Expr), Ok gl cf c X → chkTs c t e = true → PGs X e (TGds X.K t.slots (asgs gl cf t)) ∧ e.all plain = true ∧ e.length = t.len
  | .nil, c, X, e, ok, h => by
    simp only [chkTs] at h
    split at h
    · exact ⟨g_nil, rfl, rfl⟩
    · cases h
  | .cons t ts, c, X, e, ok, h => by
    simp only [chkTs] at h
    split at h
    · obtain ⟨h1, h⟩ := and2 h
      obtain ⟨h2, h3⟩ := and2 h
      obtain ⟨a1, a2, a3⟩ := chkTs_ok ts c X _ ok h3
      refine ⟨?_, by rw [List.all_cons, h1, a2]; rfl, by rw [List.length_cons, a3]; rfl⟩
      simp only [TGs.slots]
      exact g_cons h1 (chkT_ok t c X _ ok h2) a1
    · cases h
theorem tst_ok : ∀ (ir : IE) (c : Cst) (X : Cx) (e : Expr), Ok gl cf c X → chk c ir e = true → TOk gl cf X e ir
  | .and a b, c, X, e, ok, h => by
    simp only [chk] at h
    split at h
    · obtain ⟨h2, h3⟩ := and2 h
      exact .pw (t_and (tst_ok a c X _ ok h2).1 (pw_and1 (tst_ok b c X _ ok h3).1))
    · obtain ⟨h2, h3⟩ := and2 h
      exact .pw (t_and (tst_ok a c X _ ok h2).1 ((tst_ok b c X _ ok h3).2 rfl))
    · cases h
  | .or a b, c, X, e, ok, h => by
    simp only [chk] at h
    split at h
    · obtain ⟨h2, h3⟩ := and2 h
      exact .pw (t_or (tst_ok a c X _ ok h2).1 (pw_or1 (tst_ok b c X _ ok h3).1))
    · obtain ⟨h2, h3⟩ := and2 h
      exact .pw (t_or (tst_ok a c X _ ok h2).1 ((tst_ok b c X _ ok h3).2 rfl))
    · cases h
  | .not a, c, X, e, ok, h => by
    simp only [chk] at h
    split at h
    · exact .pt (t_not (tst_ok a c X _ ok h).1) rfl
    · cases h
  | .cmp o a b, c, X, e, ok, h => by
    simp only [chk] at h
    split at h
    · obtain ⟨h1, h⟩ := and2 h
      obtain ⟨h0, h⟩ := and2 h
      obtain ⟨h2, h3⟩ := and2 h
      cases of_decide_eq_true h1
      exact .pt (t_cmp ok h0 (chk_ok a c X _ ok h2) (chk_ok b c X _ ok h3)) rfl
    · cases h
  | .chain o o2 a b d, c, X, e, ok, h => by
    simp only [chk] at h
    split at h
    · obtain ⟨h1, h⟩ := and2 h
      obtain ⟨h1', h⟩ := and2 h
      obtain ⟨h0, h⟩ := and2 h
      obtain ⟨h2, h⟩ := and2 h
      obtain ⟨h3, h4⟩ := and2 h
      cases of_decide_eq_true h1
      cases of_decide_eq_true h1'
      exact .pt (t_chain ok h0 (chk_ok a c X _ ok h2) (chk_ok b c X _ ok h3) (chk_ok d c X _ ok h4)) rfl
    · cases h
  | .var i, c, X, e, ok, h => by
    simp only [chk] at h
    split at h
    · refine .pt ?_ rfl
      rw [tst_var]
      exact t_truth rfl (r_var ok h)
    · cases h
  | .bl i, c, X, e, ok, h => by
    simp only [chk] at h
    split at h
    · cases of_decide_eq_true h
      exact .pt t_bl rfl
    · cases h
  | .call f es, c, X, e, ok, h => by
    simp only [chk] at h
    split at h
    · obtain ⟨h1, h⟩ := and2 h
      obtain ⟨h2, h3⟩ := and2 h
      obtain ⟨a1, a2⟩ := chks_ok es c X _ ok h3
      refine .pt ?_ rfl
      rw [tst_call]
      exact t_truth rfl (r_call ok (by rw [h1, h2]; rfl) a2 a1)
    · cases h
  | .bi b es, c, X, e, ok, h => by
    simp only [chk] at h
    split at h
    · obtain ⟨h1, h⟩ := and2 h
      obtain ⟨h2, h3⟩ := and2 h
      obtain ⟨a1, a2⟩ := chks_ok es c X _ ok h3
      cases of_decide_eq_true h1
      refine .pt ?_ rfl
      rw [tst_bi]
      exact t_truth rfl (r_bi ok h2 a2 a1)
    · cases h
  | .isi a t, c, X, e, ok, h => by
    simp only [chk] at h
    split at h
    · obtain ⟨h1, h⟩ := and2 h
      obtain ⟨h2, h⟩ := and2 h
      obtain ⟨h3, h⟩ := and2 h
      obtain ⟨h4, h⟩ := and2 h
      obtain ⟨h5, h6⟩ := and2 h
      cases of_decide_eq_true h1
      cases of_decide_eq_true h3
      refine .pt ?_ rfl
      rw [tst_isi]
      exact t_truth rfl (r_isi ok h2 h4 h5 (chk_ok a c X _ ok h6))
    · cases h
  | .isis a ts, c, X, e, ok, h => by
    simp only [chk] at h
    split at h
    · obtain ⟨h1, h⟩ := and2 h
      obtain ⟨h2, h⟩ := and2 h
      obtain ⟨h3, h⟩ := and2 h
      obtain ⟨h4, h⟩ := and2 h
      obtain ⟨h5, h6⟩ := and2 h
      cases of_decide_eq_true h1
      refine .pt ?_ rfl
      rw [tst_isis]
      exact t_truth rfl (r_isis ok h2 h3 (of_decide_eq_true h4) h5 (chk_ok a c X _ ok h6))
    · cases h
  | .din a b, c, X, e, ok, h => by
    simp only [chk] at h
    split at h
    · obtain ⟨h1, h⟩ := and2 h
      obtain ⟨h2, h3⟩ := and2 h
      exact .pt (t_din ok h1 (chk_ok a c X _ ok h2) (chk_ok b c X _ ok h3)) rfl
    · cases h
  | .mcall C m fi o es, c, X, e, ok, h => by
    simp only [chk] at h
    split at h
    · obtain ⟨h1, h⟩ := and2 h
      obtain ⟨h2, h⟩ := and2 h
      obtain ⟨h3, h⟩ := and2 h
      obtain ⟨h4, h⟩ := and2 h
      obtain ⟨h5, h⟩ := and2 h
      obtain ⟨h6, h7⟩ := and2 h
      cases of_decide_eq_true h1
      obtain ⟨a1, a2⟩ := chks_ok es c X _ ok h7
      refine .pt ?_ rfl
      rw [tst_mcall]
      exact t_truth rfl (r_mcall ok h2 h3 (of_decide_eq_true h4) h5 (chk_ok o c X _ ok h6) a2 a1 fun z => by subst z; exact chks_nil h7)
    · cases h
  | .fld _ _ _, _, _, _, _, _ => .fail fun _ => rfl
  | .new _ _ _, _, _, _, _, _ => .fail fun _ => rfl
  | .m1 _ _ _, _, _, _, _, _ => .fail fun _ => rfl
  | .fst _, _, _, _, _, _ => .fail fun _ => rfl
  | .fnv _, _, _, _, _, _ => .fail fun _ => rfl
  | .callv _ _ _, _, _, _, _, _ => .fail fun _ => rfl
  | .dnew, _, _, _, _, _ => .fail fun _ => rfl
  | .dget _ _, _, _, _, _, _ => .fail fun _ => rfl
  | .dget2 _ _ _, _, _, _, _, _ => .fail fun _ => rfl
  | .dpop _ _, _, _, _, _, _ => .fail fun _ => rfl
  | .dcomp _ _ _ _ _, _, _, _, _, _ => .fail fun _ => rfl
  | .sortp _, _, _, _, _, _ => .fail fun _ => rfl
  | .dkeys _, _, _, _, _, _ => .fail fun _ => rfl
  | .dlen _, _, _, _, _, _ => .fail fun _ => rfl
  | .dof _, _, _, _, _, _ => .fail fun _ => rfl
  | .maxl _, _, _, _, _, _ => .fail fun _ => rfl
  | .maxd _ _, _, _, _, _, _ => .fail fun _ => rfl
  | .dmk _ _ _ _ _, _, _, _, _, _ => .fail fun _ => rfl
  | .int _, _, _, _, _, _ => .fail fun _ => rfl
  | .non, _, _, _, _, _ => .fail fun _ => rfl
  | .str _, _, _, _, _, _ => .fail fun _ => rfl
  | .glo _, _, _, _, _, _ => .fail fun _ => rfl
  | .tup _, _, _, _, _, _ => .fail fun _ => rfl
  | .lst _, _, _, _, _, _ => .fail fun _ => rfl
  | .op _ _ _, _, _, _, _, _ => .fail fun _ => rfl
  | .neg _, _, _, _, _, _ => .fail fun _ => rfl
  | .ite _ _ _, _, _, _, _, _ => .fail fun _ => rfl
  | .ix _ _, _, _, _, _, _ => .fail fun _ => rfl
  | .sl _ _ _, _, _, _, _, _ => .fail fun _ => rfl
  | .rev _, _, _, _, _, _ => .fail fun _ => rfl
  | .me _ _ _, _, _, _, _, _ => .fail fun _ => rfl
  | .comp _ _ _ _ _, _, _, _, _, _ => .fail fun _ => rfl
  | .tupr _, _, _, _, _, _ => .fail fun _ => rfl
  | .lstr _, _, _, _, _, _ => .fail fun _ => rfl
end
end
end Dl
end

section
set_option Elab.async false
set_option linter.all false
set_option maxRecDepth 100000
set_option maxHeartbeats 2000000
/-! Dl: sorted by a lambda -/
namespace Dl
open PySem PySem.Spec PyProof.Rows L2 LamX NdefX
section
variable {K : PySem.W.Frag} {ρ : List Addr} {S : Store} {H H2 : Hp}
theorem WS.lam (w : WS K ρ S H) {nm : Str} (hn : nm ∈ lamNames) {P : Addr} (hP : tabAd K nm = some P) (eN : ∀ b o, b ≠ P → H b = some o → H2 b = some o) (T2 : TabS H2 P (lamQ nm)) : WS K ρ S H2 ∧ Step ρ H ρ H2 := by
  obtain ⟨ps, h1, _⟩ := w.tab nm hn P hP
  have ne : ∀ {a o}, H a = some o → (∀ ps, o ≠ .tbl ps) → H2 a = some o := fun {a o} e n => eN a o (fun z => by rw [z, h1] at e; exact n ps (Option.some.inj e).symm) e
  have st : Step ρ H ρ H2 := ⟨⟨[], (List.append_nil _).symm⟩, fun _ h => .inl h, fun a o _ e n => ne e n, fun a o u e => ne e (fun _ z => nomatch z), fun a qs e => by
    by_cases ha : a = P
    · obtain ⟨ps', h', _⟩ := T2
      exact ⟨ps', by rw [ha]; exact h'⟩
    · exact ⟨qs, eN a _ ha e⟩⟩
  refine ⟨⟨w.nd, w.len, fun i a o h2 h3 => ?_, fun nm' hn' P' hP' => ?_, w.one⟩, st⟩
  · obtain ⟨u, e, m⟩ := w.mem (List.mem_of_getElem? h2)
    have q := (w.ob i a o h2 h3).kp (τ := []) (st.kp w) (by rw [e]; exact ne e m.ntbl)
    rw [List.append_nil] at q
    exact q
  · by_cases hPP : P' = P
    · rw [hPP] at hP'
      rw [hPP, ← w.one nm hn nm' hn' P hP hP']
      exact T2
    · obtain ⟨qs, g1, g2, g3⟩ := w.tab nm' hn' P' hP'
      refine ⟨qs, eN P' _ hPP g1, g2, fun pos cv hc => ?_⟩
      obtain ⟨c, e1, e2⟩ := g3 pos cv hc
      exact ⟨c, e1, eN c _ (fun z => by rw [z, h1] at e2; cases e2) e2⟩
theorem keyOf_dp {d : D} {z : List Int} {v : V} (r : Rep K ρ H v d) (e : keyOfD d = some z) : Dp K H v (encI z) := by
  unfold keyOfD at e
  split at e
  · split at e
    · rename_i e1
      cases e
      exact encI_dp r e1
    · cases e
  · cases e
theorem keyOf_ne {d : D} {z : List Int} (e : keyOfD d = some z) : ∃ i is, z = i :: is := by
  unfold keyOfD at e
  split at e
  · split at e
    · cases e
      exact ⟨_, _, rfl⟩
    · cases e
  · cases e
theorem keys_dp : ∀ {us : List V} {kd : List D} {zs : List (List Int)}, Reps K ρ H us kd → kd.map keyOfD = zs.map some → DpAll K H us (zs.map encI)
  | _, [], [], .nil, _ => .nil
  | _, _, _ :: _, .nil, h => by simp at h
  | _, _, [], .cons _ _, h => by simp at h
  | _, _, z :: zs, .cons h r, e => by
    simp only [List.map_cons, List.cons.injEq] at e
    exact .cons (keyOf_dp h e.1) (keys_dp r e.2)
theorem keysL_cons {g : D → M D} {d : D} {ds : List D} {S S3 : Store} {ks : List (List Int)} (h : keysL g (d :: ds) S = some (ks, S3)) : ∃ y S' z r, g d S = some (y, S') ∧ keyOfD y = some z ∧ keysL g ds S' = some (r, S3) ∧ ks = z :: r := by
  have h : M.bnd (g d) (fun k => match keyOfD k with
    | some z => M.bnd (keysL g ds) fun r => M.pur (z :: r)
    | none => fail) S = some (ks, S3) := h
  unfold M.bnd at h
  cases e1 : g d S with
  | none => rw [e1] at h; cases h
  | some p =>
    rw [e1] at h
    dsimp only at h
    cases e2 : keyOfD p.1 with
    | none => rw [e2] at h; cases h
    | some z =>
      rw [e2] at h
      dsimp only at h
      cases e3 : keysL g ds p.2 with
      | none => rw [e3] at h; cases h
      | some q =>
        rw [e3] at h
        cases h
        exact ⟨p.1, p.2, z, q.1, rfl, e2, e3, rfl⟩
theorem keysL_nil {g : D → M D} {S S3 : Store} {ks : List (List Int)} (h : keysL g [] S = some (ks, S3)) : ks = [] ∧ S3 = S := by
  have h : M.pur ([] : List (List Int)) S = some (ks, S3) := h
  cases h
  exact ⟨rfl, rfl⟩
theorem keysL_all {g : D → M D} : ∀ {ds : List D} {S S3 : Store} {ks : List (List Int)}, keysL g ds S = some (ks, S3) → ks.length = ds.length ∧ ∀ z ∈ ks, ∃ i is, z = i :: is
  | [], S, S3, ks, h => by
    obtain ⟨rfl, _⟩ := keysL_nil h
    exact ⟨rfl, fun z hz => by simp at hz⟩
  | d :: ds, S, S3, ks, h => by
    obtain ⟨y, S', z, r, _, e2, e3, rfl⟩ := keysL_cons h
    obtain ⟨h1, h2⟩ := keysL_all e3
    refine ⟨by simp [h1], fun z' hz => ?_⟩
    rcases List.mem_cons.mp hz with rfl | hz
    · exact keyOf_ne e2
    · exact h2 z' hz
end
def PostF (K : PySem.W.Frag) (ρ : List Addr) (H : Hp) (D : Ends) (r : Fl × Sl) (S' : Store) : Prop := ∀ ρ' H', Step ρ H ρ' H' → WS K ρ' S' H' → match r.1 with
  | .nx => ∀ σ', EnvR K ρ' H' σ' r.2 → D.nx σ' H'
  | .rt d => ∀ v, Rep K ρ' H' v d → D.rt v H'
  | .bk => ∀ σ', EnvR K ρ' H' σ' r.2 → D.bk σ' H'
  | .ct => ∀ σ', EnvR K ρ' H' σ' r.2 → D.ct σ' H'
def TSd (K : PySem.W.Frag) (m : Sl → M (Fl × Sl)) : TS := fun D σ H => ∃ ρ S env, WS K ρ S H ∧ EnvR K ρ H σ env ∧ wp (m env) (PostF K ρ H D) S
theorem PostF.step {K : PySem.W.Frag} {ρ ρ' : List Addr} {H H' : Hp} {D : Ends} {r : Fl × Sl} {S : Store} (p : PostF K ρ H D r S) (s : Step ρ H ρ' H') : PostF K ρ' H' D r S := fun ρ2 H2 st w => p ρ2 H2 (s.trans st) w
/-- one plain parameter -/
def onePar : Arguments → Option Str
  | ⟨[], [⟨p, none, _⟩], none, [], [], none, []⟩ => some p
  | _ => none
theorem onePar_ {ar : Arguments} {p : Str} (h : onePar ar = some p) : ∃ pos, ar = ⟨[], [⟨p, none, pos⟩], none, [], [], none, []⟩ := by
  unfold onePar at h
  split at h
  · cases h
    exact ⟨_, rfl⟩
  · cases h
def lamP (ar : Arguments) : Str := (onePar ar).getD ""
def lamPs : List Str := ["power", "one", "both", "member"]
theorem bind_one {q lamPar : Str} {pp : Pos} {body : Expr} {scope : Scope} {cl : List (Str × Addr)} {pm cv ctv u : Value} (h : lamPar ∈ lamPs) : bindArgs (PySem.W.kla_fn "<lambda>" q ⟨[], [⟨lamPar, none, pp⟩], none, [], [], none, []⟩ body scope cl pm cv ctv) ⟨[u], []⟩ = pure ([lamPar].zip [u]) := by
  unfold lamPs at h
  simp only [List.mem_cons, List.not_mem_nil, or_false] at h
  rcases h with rfl | rfl | rfl | rfl <;> rfl
def lamCst (c : Cst) (lamPar y : Str) (scope : Scope) : Cst := ⟨[lamPar, y], scope, fun _ => false, c.G, none, 0⟩
def rsortOk (c : Cst) (i : Nat) (params : Arguments) (scope : Scope) : Bool :=
  c.lam.isSome && (decide (c.rm = 3) && (decide (onePar params = some (lamP params) ∧ lamP params ∈ lamPs) && (c.slot i (c.N.getD i "") && (decide (c.look (c.N.getD i "") = some .cell) && nscB [lamP params, c.N.getD i ""] [lamP params] [c.N.getD i ""] scope))))
section
variable {gl : Nat → D} {cf : Nat → List D → M D} {c : Cst} {X : Cx}
theorem lam_ok {A : Around} (hA : A = X.A.in1 ∨ A = X.A.in1.in1) (ok : Ok gl cf c X) {nm : Str} (hl : c.lam = some nm) (hr : c.rm = 3) {lamPar y : Str} {scope : Scope} (nd : [lamPar, y].Nodup) (params : Arguments) (q : Str) (cl : List (Str × Addr)) (f c' : Addr) (s : Shared) (H : Hp) :
    Ok gl cf (lamCst c lamPar y scope) (ncx CX0 X.prog X.w X.K X.mg X.base [lamPar, y] (lamF q params scope cl c') f A X.stack s H E0).nox := by
  obtain ⟨_, cc, P, _, _, _, _, room⟩ := ok.lam _ hl
  refine ⟨rfl, nd, rfl, fun _ h => h, rfl, rfl, ?_, fun x g hx => ?_, fun _ h => by cases h⟩
  · have := room.un
    rcases hA with rfl | rfl
    · show X.A.units + 1 + 3 + 65 < cLine
      omega
    · show X.A.units + 1 + 1 + 3 + 65 < cLine
      omega
  · have q := ok.G x g hx
    cases g with
    | free => exact q
    | bt id => exact q
    | cst g => exact q
    | other => trivial
    | fn i =>
      obtain ⟨f, fd, ps, k, h1, h2, h3, h4, h5⟩ := q
      refine ⟨f, fd, ps, k, h1, h2, h3, ?_, h5⟩
      rw [hr] at h4
      have r1 : Room (k + 2) X.A.in1 := h4.in1
      have r2 : Room (k + 1) X.A.in1.in1 := r1.in1
      rcases hA with rfl | rfl
      · exact (r1.mono (Nat.le_succ _)).deeper _
      · exact r2.deeper _
    | noat C f => exact q
    | cls i =>
      obtain ⟨e, f, fd, ps, k, h2, h3, h4, h5⟩ := q
      refine ⟨e, f, fd, ps, k, h2, h3, ?_, h5⟩
      rw [hr] at h4
      have r1 : Room (k + 2) X.A.in1 := h4.in1
      have r2 : Room (k + 1) X.A.in1.in1 := r1.in1
      rcases hA with rfl | rfl
      · exact (r1.mono (Nat.le_succ _)).deeper _
      · exact r2.deeper _
    | mth C m i =>
      obtain ⟨e, f, fd, ps, k, h2, h3, h4, h5⟩ := q
      refine ⟨e, f, fd, ps, k, h2, h3, ?_, h5⟩
      rw [hr] at h4
      have r1 : Room (k + 2) X.A.in1 := h4.in1
      have r2 : Room (k + 1) X.A.in1.in1 := r1.in1
      rcases hA with rfl | rfl
      · exact (r1.mono (Nat.le_succ _)).deeper _
      · exact r2.deeper _
    | fnv z i =>
      obtain ⟨e, e2, fd, ps, k, h3, h4, h5⟩ := q
      refine ⟨e, e2, fd, ps, k, h3, ?_, h5⟩
      rw [hr] at h4
      have r1 : Room (k + 2) X.A.in1 := h4.in1
      have r2 : Room (k + 1) X.A.in1.in1 := r1.in1
      rcases hA with rfl | rfl
      · exact (r1.mono (Nat.le_succ _)).deeper _
      · exact r2.deeper _
theorem start2 {K : PySem.W.Frag} {ρ : List Addr} {H : Hp} {σ : L2.St} {env : Sl} {i : Nat} {x r : D} {v : V} {lamPar y : Str} (en : EnvR K ρ H σ env) (hr : env[i]? = some (some r)) (rv : Rep K ρ H v x) : EnvR K ρ H (startF [lamPar, y] [v] ([i].map (NdefX.slotAt σ))) [some x, some r] := by
  obtain ⟨u, hu, ru⟩ := en.at_ i r hr
  have e : startF [lamPar, y] [v] ([i].map (NdefX.slotAt σ)) = [some v, some u] := by
    unfold startF NdefX.slotAt
    simp [hu]
  rw [e]
  refine ⟨rfl, fun j d h => ?_⟩
  match j, h with
  | 0, h => simp at h; subst h; exact ⟨v, rfl, rv⟩
  | 1, h => simp at h; subst h; exact ⟨u, rfl, ru⟩
  | j + 2, h => simp at h
theorem s_rsort (ok : Ok gl cf c X) {i : Nat} {xs e : IE} {params : Arguments} {body e1 : Expr} {scope : Scope} {p pos lpos cp kp1 kp2 rpos : Pos} {k0 : Nat} (h : c.is "sorted" .free = true) (hr : rsortOk c i params scope = true) (hp : plain e1 = true) (h1 : PE X e1 (TD X.K (ev gl cf xs)))
    (hb : chk (lamCst c (lamP params) (c.N.getD i "") scope) e body = true) :
    PS X (.Return (some (.Call (.Name "sorted" p) [e1] [⟨some "key", .Lambda params body scope lpos, kp1⟩, ⟨some "reverse", .Constant (.bool true) k0 cp, kp2⟩] pos)) rpos) (TSd X.K (ex gl cf (.rsort i xs e))) := by
  obtain ⟨a1, hr⟩ := and2 hr
  obtain ⟨a2, hr⟩ := and2 hr
  obtain ⟨a3, hr⟩ := and2 hr
  obtain ⟨a4, hr⟩ := and2 hr
  obtain ⟨a5, a6⟩ := and2 hr
  have a2 := of_decide_eq_true a2
  obtain ⟨a3, a7⟩ := of_decide_eq_true a3
  obtain ⟨pp, ep⟩ := onePar_ a3
  obtain ⟨nm, a1⟩ := Option.isSome_iff_exists.mp a1
  generalize lamP params = lamPar at *
  subst ep
  have a5 := of_decide_eq_true a5
  have Sc := nscope_by a6
  obtain ⟨hn, cc, P, hcode, hP, TB, hq, room⟩ := ok.lam _ a1
  obtain ⟨hg, hm⟩ := ok.is_ h
  have hcell : X.env.scope.names.lookup (c.N.getD i "") = some .cell := by rw [ok.sc]; exact a5
  have hfree : ∀ y ∈ scope.names, y.2 = .free → X.env.scope.names.lookup y.1 = some .cell ∨ X.env.scope.names.lookup y.1 = some .free := fun y hy e => by
    have := Sc.free y hy e
    rw [List.mem_singleton.mp this]
    exact .inl hcell
  have hps : [lamPar].length = 1 := rfl
  have main := pe_sortLam (X := X) (P := P) (c := cc) (N := [lamPar, c.N.getD i ""]) (ps := [lamPar]) (fr := [c.N.getD i ""]) (js := [i]) (params := ⟨[], [⟨lamPar, none, pp⟩], none, [], [], none, []⟩) (body := body) (e1 := e1) (scope := scope) (tb := TD X.K (ev gl cf e))
    (p := p) (pos := pos) (lpos := lpos) (cp := cp) (kp1 := kp1) (kp2 := kp2) (k0 := k0) hg hm (star_plain hp) TB hcode rfl hfree room.hd room.depth (by have := ok.un; omega) Sc hps
    (fun xo => Caps.made xo hfree (fun y hy => PySem.mem_of_lookup (Sc.frk y hy)) (by have := ok.slot a4; simp [this]))
    (fun c' pm ctv u => bind_one a7) (fun f c' s H => chk_ok e _ _ _ (lam_ok (.inr rfl) ok a1 a2 Sc.nd _ _ _ f c' s H) hb) h1
  rw [hq] at main
  refine PS.of (ps_ret main) fun D σ H hh => ?_
  obtain ⟨ρ, S, env, w, en, q⟩ := hh
  simp only [ex, wp_bind] at q
  refine ⟨ρ, S, env, w, en, wp_mono q fun x S1 q ρ1 H1 v st1 w1 rv => ⟨w1.tab nm hn P hP, fun f c' H2 eN nn T2 f0 f1 c1 => ?_⟩⟩
  obtain ⟨w2, st2⟩ := w1.lam hn hP eN T2
  have st := st1.trans st2
  have en2 := en.step w st
  obtain ⟨a, vs, ds, rfl, hs, rs, q⟩ := getL_wp w2 (rv.step w1 st2) q
  split at q
  · rename_i r hi
    rw [wp_bind] at q
    obtain ⟨ks, S3, ek, q⟩ := wp_some q
    simp only [wp_bind, wp_newO, wp_pure] at q
    obtain ⟨kl, kne⟩ := keysL_all ek
    refine ⟨a, f, c', vs, ks.map encI, fun j us H' => ∃ ρ' S' kd, WS X.K ρ' S' H' ∧ Step ρ1 H2 ρ' H' ∧ Reps X.K ρ' H' us kd ∧ kd.map keyOfD = (ks.take j).map some ∧ keysL (fun d => ev gl cf e [some d, some r]) (ds.drop j) S' = some (ks.drop j, S3),
      rfl, rfl, hs, by rw [List.length_map, kl, rs.length], PySem.W.AllAlike.of encI_alike, ?_, fun p hp => ?_, fun j us H' g => ?_, ⟨ρ1, S1, [], w2, .refl, .nil, by simp, by simpa using ek⟩, fun j x us H' hx hu g => ?_, fun us H' g => ?_, fun us H' p g hp => ?_⟩
    · refine .inl fun d hd => ?_
      obtain ⟨z, hz, rfl⟩ := List.mem_map.mp hd
      obtain ⟨i, is, rfl⟩ := kne z hz
      exact ⟨_, _, rfl⟩
    · obtain ⟨z, _, rfl⟩ := List.mem_map.mp hp
      have := encI_depth z
      omega
    · obtain ⟨ρ', S', kd, w', st', _⟩ := g
      exact ⟨st'.keep f _ (w2.notin f1 (fun z => z)) f1 lamO_ne, st'.keep c' _ (w2.notin c1 (fun z => z)) c1 codeO_ne⟩
    · obtain ⟨ρ', S', kd, w', st', rk, ekd, run⟩ := g
      have hjl : j < ds.length := by rw [← rs.length]; exact (List.getElem?_eq_some_iff.mp hx).1
      have hd : ds[j]? = some ds[j] := List.getElem?_eq_getElem hjl
      have hj2 : ds.drop j = ds[j] :: ds.drop (j + 1) := List.drop_eq_getElem_cons hjl
      rw [hj2] at run
      obtain ⟨y, S'', z, rest, g1, g2, g3, g4⟩ := keysL_cons run
      obtain ⟨x', hx', rx⟩ := rs.get hd
      rw [hx] at hx'
      cases hx'
      refine ⟨ρ', S', [some ds[j], some r], w', start2 (en2.step w2 st') hi (rx.step w2 st'), wp_of g1 fun ρ'' H'' u st'' w'' ru => ?_⟩
      have hkj : ks[j]? = some z := by rw [← List.head?_drop, g4]; rfl
      refine ⟨ρ'', S'', kd ++ [y], w'', st'.trans st'', (rk.step w' st'').append (.cons ru .nil), ?_, ?_⟩
      · rw [List.take_add_one, hkj]
        simp [ekd, g2]
      · rw [g3]
        have : ks.drop (j + 1) = rest := by rw [← List.tail_drop, g4]; rfl
        rw [this]
    · obtain ⟨ρ', S', kd, w', st', rk, ekd, run⟩ := g
      have : ks.take vs.length = ks := List.take_of_length_le (by rw [kl, rs.length]; exact Nat.le_refl _)
      rw [this] at ekd
      exact keys_dp rk ekd
    · obtain ⟨ρ', S', kd, w', st', rk, ekd, run⟩ := g
      have : ds.drop vs.length = [] := List.drop_eq_nil_iff.mpr (by rw [rs.length]; exact Nat.le_refl _)
      rw [this] at run
      obtain ⟨_, rfl⟩ := keysL_nil run
      have rso := (rs.step w2 st').sort (ks := ks.map encI) (by rw [List.length_map, kl, rs.length])
      have sta : Step ρ' H' (ρ' ++ [p]) (upd H' p (.lst (((vs.zip (ks.map encI)).mergeSort (PySem.W.dataLe true (·.2))).map (·.1)))) := .alloc hp
      exact q (ρ' ++ [p]) _ ((st.trans st').trans sta) (w'.alloc hp ⟨_, upd_same, rso.kp (Kp.new hp)⟩) _ (Rep.new w')
  · exact q.elim
end
end Dl
end

section
set_option Elab.async false
set_option linter.all false
set_option maxRecDepth 100000
set_option maxHeartbeats 1000000
/-! Dl: attributes stored -/
namespace Dl
open PySem PySem.Spec PyProof.Rows L2
section
variable {gl : Nat → D} {cf : Nat → List D → M D} {c : Cst} {X : Cx}
/-! ### statements -/
theorem s_setf (ok : Ok gl cf c X) {C f : Str} {o e : IE} {e1 v : Expr} {pos pos' : Pos} (hn : c.has (keyF C f) (.noat C f) = true) (h1 : PE X e1 (TD X.K (ev gl cf o))) (he : PE X v (TD X.K (ev gl cf e))) (hs : swapsWith v (some (.Attribute e1 f pos')) pos.line X.env = pure false) :
    PS X (.Assign [.Attribute e1 f pos'] v pos) (TSd X.K (ex gl cf (.setf C f o e))) := by
  obtain ⟨cl, na⟩ := ok.G _ _ (of_decide_eq_true hn)
  refine PS.of (ps_fld h1 he hs) fun D σ H hh => ?_
  obtain ⟨ρ, S, env, w, en, q⟩ := hh
  simp only [ex, wp_bind, wp_pure] at q
  refine ⟨ρ, S, env, w, en, wp_mono q fun y S1 q ρ1 H1 u st1 w1 ry => ⟨ρ1, S1, env, w1, en.step w st1, wp_mono q fun x S2 q ρ2 H2 v st2 w2 rx => ?_⟩⟩
  obtain ⟨a, dx, ws, rfl, g1, g2, S3, st3, w3, q⟩ := setfD_wp w2 rx (ry.step w1 st2) q
  exact ⟨a, _, dx, ws, rfl, g1, cl, na, g2, q ρ2 _ ((st1.trans st2).trans st3) w3 σ ((((en.step w st1).step w1 st2)).step w2 st3)⟩
def rAugF (K : PySem.W.Frag) (o : Operator) : V → V → Hp → VK → Prop := fun v u H Q => ∃ ρ S x y, WS K ρ S H ∧ Rep K ρ H v x ∧ Rep K ρ H u y ∧ augOk o x y = true ∧ wp (bop o x y) (Post K ρ H Q) S
theorem augF_ok (o : Operator) : InOp X o (rAugF X.K o) := by
  intro pins s σ H v u vv uu Q I rv ru h
  obtain ⟨ρ, S, x, y, w, rx, ry, ha, h⟩ := h
  unfold augOk at ha
  split at ha
  · cases rx.int_; cases ry.int_
    exact in_add pins s σ H _ _ _ _ Q I rv ru ⟨_, _, rfl, rfl, Post.int w h⟩
  · cases rx.int_; cases ry.int_
    exact in_sub pins s σ H _ _ _ _ Q I rv ru ⟨_, _, rfl, rfl, Post.int w h⟩
  · cases ha
theorem s_augf (ok : Ok gl cf c X) {C f : Str} {o e : IE} {op : Operator} {e1 v : Expr} {pos pos' : Pos} (hn : c.has (keyF C f) (.noat C f) = true) (h1 : PE X e1 (TD X.K (ev gl cf o))) (he : PE X v (TD X.K (ev gl cf e))) :
    PS X (.AugAssign (.Attribute e1 f pos') op v pos) (TSd X.K (ex gl cf (.augf C f o op e))) := by
  obtain ⟨cl, na⟩ := ok.G _ _ (of_decide_eq_true hn)
  refine PS.of (ps_fldaug h1 he (augF_ok op)) fun D σ H hh => ?_
  obtain ⟨ρ, S, env, w, en, q⟩ := hh
  simp only [ex, wp_bind, wp_pure] at q
  refine ⟨ρ, S, env, w, en, wp_mono q fun x S1 q ρ1 H1 v st1 w1 rx => ?_⟩
  obtain ⟨a, dx, ws, u, fv, rfl, g1, g2, ru, q⟩ := fldD_wp w1 rx q
  refine ⟨a, _, dx, ws, u, rfl, g1, cl, na, g2, ρ1, S1, env, w1, en.step w st1, wp_mono q fun y S2 q ρ2 H2 t st2 w2 ry => ?_⟩
  simp only [wp_need] at q
  refine ⟨ρ2, S2, fv, y, w2, ru.step w1 st2, ry, q.1, wp_mono q.2 fun z S3 q ρ3 H3 zv st3 w3 rz => ?_⟩
  obtain ⟨a', dx', ws', e', g1', g2', S4, st4, w4, q⟩ := setfD_wp w3 ((rx.step w1 st2).step w2 st3) rz q
  cases e'
  exact ⟨dx', ws', g1', g2', q ρ3 _ (((st1.trans st2).trans st3).trans st4) w4 σ (((((en.step w st1).step w1 st2)).step w2 st3).step w3 st4)⟩
theorem s_rse {e1 : Option Expr} {e2 : Option Expr} {pos : Pos} : PS X (.Raise e1 e2 pos) (TSd X.K (ex gl cf .rse)) := ⟨fun pins s σ H D I h => by
  obtain ⟨ρ, S, env, w, en, q⟩ := h
  exact q.elim⟩
end
end Dl
end

section
set_option Elab.async false
set_option linter.all false
set_option maxRecDepth 100000
set_option maxHeartbeats 2000000
/-! Dl: soundness of statements, defs, the program -/
namespace Dl
open PySem PySem.Spec PyProof.Rows L2
/-! ### which stores are swapped -/
def swT (c : Cst) (tg v : Expr) : Bool := match tg, v with
  | .Name y py, .ListComp _ _ scope vpos => decide (c.look y = some .local) && ((py.line == vpos.line) && !(scope.names.any fun (n, k) => n == y && (k == .local || k == .cell)))
  | _, _ => false
/-- the names that a tuple of targets stores -/
def swNames (c : Cst) (ts : List Expr) : List Str :=
  let line := (ts.head?.map (·.pos.line)).getD 0
  ts.filterMap fun
    | .Name id pos => if c.look id == some .local && pos.line == line then some id else none
    | _ => none
def tupFree (c : Cst) (ts vs : List Expr) : Bool := decide (vs.any (fun | .Starred .. => true | _ => false) = false) && ((swNames c ts).length != ts.length || ((swNames c ts).eraseDups.length != (swNames c ts).length || vs.all (foldedForSure 8)))
def asgOk (c : Cst) (tg v : Expr) : Bool := decide (c.sc.kind = .function) &&
  (match tg, v with
    | .Name y py, .ListComp _ _ scope vpos => !swT c tg v
    | .Name _ _, v => noComp v
    | .Tuple ts _ _, .Tuple vs _ _ => tupFree c ts vs
    | .Tuple _ _ _, v => noTup v
    | .Subscript _ _ _, _ => true
    | _, _ => false)
def parOk (c : Cst) (x y : Str) (px py : Pos) (e1 e2 : Expr) : Bool := decide (c.sc.kind = .function) && (decide (c.look x = some .local) && (decide (c.look y = some .local) && ((py.line == px.line) && (decide (x ≠ y) &&
  (plain e1 && (plain e2 && (!([e1, e2].all (foldedForSure 8)) && !([e1, e2].all (constantsAlone 8)))))))))
theorem blockKind_fn {env : PySem.Env} (h : env.scope.kind = .function) : env.blockKind = .function := by unfold Env.blockKind; rw [h]; rfl
theorem sw_false {c : Cst} {env : PySem.Env} {y : Str} {py : Pos} {elt : Expr} {gs : List Comprehension} {scope : Scope} {vpos : Pos} {l : Nat} (hs : env.scope = c.sc) (hk : c.sc.kind = .function)
    (h : (!swT c (.Name y py) (.ListComp elt gs scope vpos)) = true) : swapsWith (.ListComp elt gs scope vpos) (some (.Name y py)) l env = pure false := by
  have hb : env.blockKind = .function := blockKind_fn (by rw [hs]; exact hk)
  have hl : env.kindOf y = c.look y := by unfold Env.kindOf Cst.look; rw [hs]
  unfold swapsWith
  simp only [hb, hl, Expr.pos]
  show (pure _ : Sem Bool) = pure false
  congr 1
  unfold swT at h
  simp only [Bool.not_eq_true', Bool.and_eq_false_iff] at h
  rcases h with h | h | h
  · have : (c.look y == some NameKind.local) = false := by
      rw [beq_eq_false_iff_ne]
      exact of_decide_eq_false h
    rw [this]; simp
  · rw [h]; simp
  · rw [h]; simp
theorem sw_free {c : Cst} {env : PySem.Env} {ts vs : List Expr} {k k2 : Nat} {p p2 : Pos} (hs : env.scope = c.sc) (hk : c.sc.kind = .function) (h : tupFree c ts vs = true) : swappedStores [.Tuple ts k p] (.Tuple vs k2 p2) env = pure none := by
  have hl : ∀ y, env.kindOf y = c.look y := fun y => by unfold Env.kindOf Cst.look; rw [hs]
  obtain ⟨h1, h2⟩ := and2 h
  have h1 := of_decide_eq_true h1
  unfold swappedStores
  dsimp only
  by_cases c1 : (!(ts.length == 2 || ts.length == 3) || vs.length != ts.length || env.blockKind != .function) = true
  · rw [if_pos c1]
  · rw [if_neg c1]
    show (if (vs.any fun | .Starred .. => true | _ => false) = true then _ else _) = _
    rw [if_neg (by rw [h1]; exact Bool.false_ne_true)]
    generalize hn : List.filterMap _ ts = nm
    have en : nm = swNames c ts := by
      rw [← hn]
      unfold swNames
      congr 1
      funext e
      cases e <;> first | rfl | (simp only [hl])
    subst en
    clear hn
    by_cases c2 : ((swNames c ts).length != ts.length || (swNames c ts).eraseDups.length != (swNames c ts).length) = true
    · rw [if_pos c2]
    · rw [if_neg c2]
      have : vs.all (foldedForSure 8) = true := by
        rcases Bool.or_eq_true_iff.mp h2 with h2 | h2
        · exact absurd (Bool.or_eq_true_iff.mpr (.inl h2)) c2
        · rcases Bool.or_eq_true_iff.mp h2 with h2 | h2
          · exact absurd (Bool.or_eq_true_iff.mpr (.inr h2)) c2
          · exact h2
      show (if vs.all (foldedForSure 8) = true then _ else _) = _
      rw [if_pos this]
theorem par_sw {c : Cst} {env : PySem.Env} {x y : Str} {px py : Pos} {e1 e2 : Expr} {k k2 : Nat} {p p2 : Pos} (hs : env.scope = c.sc) (h : parOk c x y px py e1 e2 = true) :
    swappedStores [.Tuple [.Name x px, .Name y py] k p] (.Tuple [e1, e2] k2 p2) env = pure (some [x, y]) := by
  have hl : ∀ y, env.kindOf y = c.look y := fun y => by unfold Env.kindOf Cst.look; rw [hs]
  obtain ⟨h1, h⟩ := and2 h
  obtain ⟨h2, h⟩ := and2 h
  obtain ⟨h3, h⟩ := and2 h
  obtain ⟨h4, h⟩ := and2 h
  obtain ⟨h5, h⟩ := and2 h
  obtain ⟨h6, h⟩ := and2 h
  obtain ⟨h7, h⟩ := and2 h
  obtain ⟨h8, h9⟩ := and2 h
  have hb : env.blockKind = .function := blockKind_fn (by rw [hs]; exact of_decide_eq_true h1)
  have kx : env.kindOf x = some .local := (hl x).trans (of_decide_eq_true h2)
  have ky : env.kindOf y = some .local := (hl y).trans (of_decide_eq_true h3)
  have hne : x ≠ y := of_decide_eq_true h5
  have st : ([e1, e2].any fun | .Starred .. => true | _ => false) = false := by
    have q : ∀ e : Expr, plain e = true → (match e with | .Starred .. => true | _ => false) = false := fun e he => by cases e <;> first | rfl | cases he
    simp only [List.any_cons, List.any_nil, Bool.or_false]
    rw [q e1 h6, q e2 h7]
    rfl
  unfold swappedStores
  dsimp only
  rw [if_neg (by rw [hb]; intro z; cases z)]
  show (if ([e1, e2].any fun | .Starred .. => true | _ => false) = true then _ else _) = _
  rw [if_neg (by rw [st]; exact Bool.false_ne_true)]
  generalize hn : List.filterMap _ [Expr.Name x px, Expr.Name y py] = nm
  have en : nm = [x, y] := by
    rw [← hn]
    simp only [List.filterMap_cons, List.filterMap_nil, kx, ky, List.head?_cons, Option.map_some, Option.getD_some, Expr.pos, h4, beq_self_eq_true, Bool.and_self, if_true]
  subst en
  clear hn
  have ed : ([x, y] : List Str).eraseDups = [x, y] := by
    have : (y == x) = false := beq_eq_false_iff_ne.mpr (Ne.symm hne)
    simp [List.eraseDups_cons, this]
  rw [ed]
  show (if [e1, e2].all (foldedForSure 8) = true then _ else _) = _
  rw [if_neg (by intro z; rw [z] at h8; cases h8)]
  show (if [e1, e2].all (constantsAlone 8) = true then _ else _) = _
  rw [if_neg (by intro z; rw [z] at h9; cases h9)]

/-! ### statements -/
/-- an assignment: a comprehension to a local name, or anything else -/
def swD (c : Cst) (tg v : Expr) : Bool := match tg, v with
  | .Name y py, .DictComp _ _ _ scope vpos => decide (c.look y = some .local) && ((py.line == vpos.line) && !(scope.names.any fun (n, k) => n == y && (k == .local || k == .cell)))
  | _, _ => false
def asgOkX (c : Cst) (tg v : Expr) : Bool := asgOk c tg v || ((swT c tg v || swD c tg v) && decide (c.sc.kind = .function))
mutual
def chkS (c : Cst) : IS → Stmt → Bool
  | .asg t e, s => match s with | .Assign [tg] v _ => asgOkX c tg v && (chkT c t tg && chk c e v) | _ => false
  | .par i j a b, s => match s with | .Assign [.Tuple [.Name x px, .Name y py] _ _] (.Tuple [e1, e2] _ _) _ => parOk c x y px py e1 e2 && (c.slot i x && (c.slot j y && (decide (i ≠ j) && (chk c a e1 && chk c b e2)))) | _ => false
  | .aug i o e, s => match s with | .AugAssign (.Name x _) o' e1 _ => decide (o = o') && (c.slot i x && (c.sto x && chk c e e1)) | _ => false
  | .expr e, s => match s with | .Expr e1 _ => noComp e1 && chk c e e1 | _ => false
  | .ret e, s => match s with | .Return (some e1) _ => chk c e e1 | _ => false
  | .retN, s => match s with | .Return none _ => true | _ => false
  | .ite t a b, s => match s with | .If e1 l1 l2 _ => chk c t e1 && (chkSs c a l1 && chkSs c b l2) | _ => false
  | .forr t it b, s => match s with | .For tg iter l [] _ => noSet iter && (chkI c tg it iter && (chkT c t tg && chkSs c b l)) | _ => false
  | .whl t b, s => match s with | .While e1 l [] _ => chk c t e1 && chkSs c b l | _ => false
  | .pass, s => match s with | .Pass _ => true | _ => false
  | .brk, s => match s with | .Break _ => true | _ => false
  | .cnt, s => match s with | .Continue _ => true | _ => false
  | .setf C f o e, s => match s with | .Assign [.Attribute e1 nm _] v _ => decide (nm = f) && (c.has (keyF C f) (.noat C f) && (chk c o e1 && chk c e v)) | _ => false
  | .augf C f o op e, s => match s with | .AugAssign (.Attribute e1 nm _) op' v _ => decide (nm = f) && (decide (op = op') && (c.has (keyF C f) (.noat C f) && (chk c o e1 && chk c e v))) | _ => false
  | .rse, s => match s with | .Raise _ _ _ => true | _ => false
  | .dput o i v, s => match s with | .Assign [.Subscript e1 e2 _] e3 _ => noSlice e2 && (chk c o e1 && (chk c i e2 && chk c v e3)) | _ => false
  | .ddel o i, s => match s with | .Delete [.Subscript e1 e2 _] _ => chk c o e1 && chk c i e2 | _ => false
  | .rmaxk t i xs e, s => match s with
    | .Assign [tg] (.Call (.Name x p) [.Call (.Name y p2) [e2] [] pos2] [⟨some kn, .Lambda params body scope lpos, kp⟩] pos) _ =>
      decide (x = "max") && (c.is x .free && (decide (y = "list") && (c.is y .free && (decide (kn = "key") && (plain e2 && (rsortOk c i params scope && (asgOk c tg (.Call (.Name x p) [.Call (.Name y p2) [e2] [] pos2] [⟨some kn, .Lambda params body scope lpos, kp⟩] pos) && (chkT c (.nm t) tg && (chk c xs e2 && chk (lamCst c (lamP params) (c.N.getD i "") scope) e body)))))))))
    | _ => false
  | .rsort i xs e, s => match s with
    | .Return (some (.Call (.Name x _) [e1] [⟨some kn, .Lambda params body scope _, _⟩, ⟨some rn, .Constant (.bool true) _ _, _⟩] _)) _ =>
      decide (x = "sorted") && (c.is x .free && (decide (kn = "key") && (decide (rn = "reverse") && (plain e1 && (rsortOk c i params scope && (chk c xs e1 && chk (lamCst c (lamP params) (c.N.getD i "") scope) e body))))))
    | _ => false
def chkSs (c : Cst) : ISs → List Stmt → Bool
  | .nil, l => match l with | [] => true | _ => false
  | .cons s ss, l => match l with | s1 :: r => chkS c s s1 && chkSs c ss r | _ => false
end

section
variable {gl : Nat → D} {cf : Nat → List D → M D} {c : Cst} {X : Cx}
theorem swTgt {tg v : Expr} {l : Nat} {env : PySem.Env} (h : ∀ y p, tg ≠ .Name y p) : swapsWith v (some tg) l env = pure false := by
  cases v <;> first | rfl | (cases tg <;> first | rfl | exact absurd rfl (h _ _))
theorem asgOk_ {tg v : Expr} (ok : Ok gl cf c X) {l : Nat} (h : asgOk c tg v = true) : swapsWithSole [tg] v l X.env = pure false ∧ swappedStores [tg] v X.env = pure none ∧ plain tg = true := by
  unfold asgOk at h
  obtain ⟨hk, h⟩ := and2 h
  have hk := of_decide_eq_true hk
  show swapsWith v (some tg) l X.env = pure false ∧ _
  split at h
  · exact ⟨sw_false ok.sc hk h, swapped_none (.inl rfl) (fun _ _ z => by cases z), rfl⟩
  · exact ⟨swap_none h, swapped_none (.inr rfl) (fun _ _ z => by cases z), rfl⟩
  · exact ⟨swTgt (fun _ _ z => by cases z), sw_free ok.sc hk h, rfl⟩
  · exact ⟨swTgt (fun _ _ z => by cases z), swapped_none (.inl h) (fun _ _ z => by cases z), rfl⟩
  · exact ⟨swTgt (fun _ _ z => by cases z), swapped_none (.inr rfl) (fun _ _ z => by cases z), rfl⟩
  · cases h
theorem s_asg (ok : Ok gl cf c X) {t : TG} {e : IE} {tg v : Expr} {pos : Pos} {sl : List Nat} (h : asgOk c tg v = true) (hg : PG X tg (TGd X.K sl (asg gl cf t))) (he : PE X v (TD X.K (ev gl cf e))) : PS X (.Assign [tg] v pos) (TSd X.K (ex gl cf (.asg t e))) := by
  obtain ⟨h1, h2, h3⟩ := asgOk_ ok (l := pos.line) h
  refine PS.of (ps_asg he hg h1 h2 (by rw [asg_each h3]; rfl)) fun D σ H hh => ?_
  obtain ⟨ρ, S, env, w, en, q⟩ := hh
  simp only [ex, wp_bind, wp_pure] at q
  exact ⟨ρ, S, env, w, en, wp_mono q fun d S1 q ρ1 H1 v st1 w1 rv => ⟨ρ1, S1, env, d, w1, en.step w st1, rv, wp_mono q fun env' S2 p ρ2 H2 σ2 st2 w2 en2 _ => p ρ2 H2 (st1.trans st2) w2 σ2 en2⟩⟩
open LamX NdefX in
theorem best_eq (ks : List PyData) : ∀ n, bestI ks n = argBest (btK ks) n
  | 0 => rfl
  | n + 1 => by
    unfold bestI argBest
    rw [best_eq ks n]
open LamX NdefX in
theorem s_rmaxk (ok : Ok gl cf c X) {t i : Nat} {x e : IE} {tg e2 body : Expr} {params : Arguments} {scope : Scope} {p p2 pos2 pos lpos kp apos : Pos} (hm1 : c.is "max" .free = true) (hl1 : c.is "list" .free = true) (hp : plain e2 = true) (hr : rsortOk c i params scope = true)
    (ha : asgOk c tg (.Call (.Name "max" p) [.Call (.Name "list" p2) [e2] [] pos2] [⟨some "key", .Lambda params body scope lpos, kp⟩] pos) = true) (hgt : PG X tg (TGd X.K [t] (asg gl cf (.nm t)))) (h1 : PE X e2 (TD X.K (ev gl cf x))) (hb : chk (lamCst c (lamP params) (c.N.getD i "") scope) e body = true) :
    PS X (.Assign [tg] (.Call (.Name "max" p) [.Call (.Name "list" p2) [e2] [] pos2] [⟨some "key", .Lambda params body scope lpos, kp⟩] pos) apos) (TSd X.K (ex gl cf (.rmaxk t i x e))) := by
  obtain ⟨q1, q2, q3⟩ := asgOk_ ok (l := apos.line) ha
  obtain ⟨a1, hr⟩ := and2 hr
  obtain ⟨a2, hr⟩ := and2 hr
  obtain ⟨a3, hr⟩ := and2 hr
  obtain ⟨a4, hr⟩ := and2 hr
  obtain ⟨a5, a6⟩ := and2 hr
  have a2 := of_decide_eq_true a2
  obtain ⟨a3, a7⟩ := of_decide_eq_true a3
  obtain ⟨pp, ep⟩ := onePar_ a3
  obtain ⟨nm, a1⟩ := Option.isSome_iff_exists.mp a1
  generalize lamP params = lamPar at *
  subst ep
  have a5 := of_decide_eq_true a5
  have Sc := nscope_by a6
  obtain ⟨hn, cc, P, hcode, hP, TB, hq, room⟩ := ok.lam _ a1
  obtain ⟨hg, hm⟩ := ok.is_ hm1
  obtain ⟨hg2, hm2⟩ := ok.is_ hl1
  have hcell : X.env.scope.names.lookup (c.N.getD i "") = some .cell := by rw [ok.sc]; exact a5
  have hfree : ∀ y ∈ scope.names, y.2 = .free → X.env.scope.names.lookup y.1 = some .cell ∨ X.env.scope.names.lookup y.1 = some .free := fun y hy e => by
    have := Sc.free y hy e
    rw [List.mem_singleton.mp this]
    exact .inl hcell
  have hlist := pe_callTy (x := "list") (p := p2) (pos := pos2) (call_listT ok.calm) hg2 hm2 (by decide +kernel) (pa_cons h1 pa_nil (star_plain hp)) (by decide +kernel) (by decide +kernel) (star_plain hp) (back_any rfl)
  have main := pe_maxLam (X := X) (P := P) (c := cc) (N := [lamPar, c.N.getD i ""]) (ps := [lamPar]) (fr := [c.N.getD i ""]) (js := [i]) (params := ⟨[], [⟨lamPar, none, pp⟩], none, [], [], none, []⟩) (body := body) (scope := scope) (tb := TD X.K (ev gl cf e))
    (p := p) (pos := pos) (lpos := lpos) (kp1 := kp) hg hm (star_plain rfl) TB hcode rfl hfree room.hd room.depth (by have := ok.un; omega) Sc rfl
    (fun xo => Caps.made xo hfree (fun y hy => PySem.mem_of_lookup (Sc.frk y hy)) (by have := ok.slot a4; simp [this]))
    (fun c' pm ctv u => bind_one a7) (fun f c' s H => chk_ok e _ _ _ (lam_ok (.inl rfl) ok a1 a2 Sc.nd _ _ _ f c' s H) hb) hlist
  rw [hq] at main
  refine PS.of (ps_asg main hgt q1 q2 (by rw [asg_each q3]; rfl)) fun D σ H hh => ?_
  obtain ⟨ρ, S, env, w, en, q⟩ := hh
  simp only [ex, wp_bind] at q
  refine ⟨ρ, S, env, w, en, wp_mono q fun d S1 q ρ1 H1 v1 st1 w1 rv => ?_⟩
  obtain ⟨a0, ws, kvs, rfl, g, rk, q⟩ := getU_wp w1 rv q
  refine ⟨a0, ws, rfl, g, fun pL ys hpL ka => ?_⟩
  have stL : Step ρ1 H1 ρ1 (upd H1 pL (.lst (ys.map V.ref))) := .tup hpL
  have wL : WS X.K ρ1 S1 (upd H1 pL (.lst (ys.map V.ref))) := w1.tup hpL
  have nL : pL ∉ ρ1 := w1.fresh hpL
  have rkL : RKV X.K (ρ1 ++ []) (upd H1 pL (.lst (ys.map V.ref))) ws kvs := rk.kp (stL.kp w1)
  rw [List.append_nil] at rkL
  have kaL : KeysAt (upd H1 pL (.lst (ys.map V.ref))) ws ys := Paired.mapP ka fun _ _ z => (stL.kp w1).t _ _ z
  refine ⟨wL.tab nm hn P hP, fun f c' H2 eN nn T2 f0 f1 c1 => ?_⟩
  obtain ⟨w2, st2⟩ := wL.lam hn hP eN T2
  have st : Step ρ H ρ1 H2 := (st1.trans stL).trans st2
  have en2 := en.step w st
  have hL2 : H2 pL = some (.lst (ys.map V.ref)) := st2.keep pL _ nL upd_same (fun _ z => nomatch z)
  have rys : Reps X.K ρ1 H2 (ys.map V.ref) (kvs.map fun kv => unkey kv.1) := (keys_rep rkL kaL).step wL st2
  have yl : ys.length = kvs.length := by simpa using rys.length
  split at q
  · rename_i r hi
    rw [wp_bind] at q
    obtain ⟨ks, S3, ek, q⟩ := wp_some q
    simp only [wp_bind, wp_need] at q
    obtain ⟨ht, q⟩ := q
    obtain ⟨kl, kne⟩ := keysL_all ek
    rw [List.length_map] at kl
    generalize hds : (kvs.map fun kv => unkey kv.1) = ds at *
    have dl : ds.length = kvs.length := by rw [← hds]; simp
    split at q
    · rename_i y hy
      refine ⟨pL, f, c', ys, ks.map encI, fun j us H' => ∃ ρ' S' kd, WS X.K ρ' S' H' ∧ Step ρ1 H2 ρ' H' ∧ Reps X.K ρ' H' us kd ∧ kd.map keyOfD = (ks.take j).map some ∧ keysL (fun d => ev gl cf e [some d, some r]) (ds.drop j) S' = some (ks.drop j, S3),
        rfl, rfl, fun z => ?_, by rw [List.length_map, kl, yl], fun p hp => ?_, fun j us H' g => ?_, ⟨ρ1, S1, [], w2, .refl, .nil, by simp, by simpa using ek⟩, fun j x us H' hx hu g => ?_, fun us H' x g hx => ?_⟩
      · rw [z] at yl
        rw [List.length_nil] at yl
        have := (List.getElem?_eq_some_iff.mp hy).1
        omega
      · obtain ⟨z, hz, rfl⟩ := List.mem_map.mp hp
        refine ⟨(fun e => by unfold encI at e; cases e), (by have := encI_depth z; omega), fun p' hp' => ?_⟩
        obtain ⟨z', hz', rfl⟩ := List.mem_map.mp hp'
        exact encI_alike z z'
      · obtain ⟨ρ', S', kd, w', st', rk', ekd, run⟩ := g
        refine ⟨st'.keep f _ (w2.notin f1 (fun z => z)) f1 lamO_ne, st'.keep c' _ (w2.notin c1 (fun z => z)) c1 codeO_ne, SqL.of (st'.keep pL _ nL hL2 (fun _ z => nomatch z)), ?_⟩
        rw [← List.map_take]
        exact keys_dp rk' ekd
      · obtain ⟨ρ', S', kd, w', st', rk', ekd, run⟩ := g
        have hjl : j < ds.length := by rw [dl, ← yl]; exact (List.getElem?_eq_some_iff.mp hx).1
        have hd : ds[j]? = some ds[j] := List.getElem?_eq_getElem hjl
        have hj2 : ds.drop j = ds[j] :: ds.drop (j + 1) := List.drop_eq_getElem_cons hjl
        rw [hj2] at run
        obtain ⟨y', S'', z, rest, g1, g2, g3, g4⟩ := keysL_cons run
        obtain ⟨x', hx', rx⟩ := rys.get hd
        rw [List.getElem?_map, hx] at hx'
        cases hx'
        refine ⟨ρ', S', [some ds[j], some r], w', start2 (en2.step w2 st') hi (rx.step w2 st'), wp_of g1 fun ρ'' H'' u st'' w'' ru => ?_⟩
        have hkj : ks[j]? = some z := by rw [← List.head?_drop, g4]; rfl
        refine ⟨ρ'', S'', kd ++ [y'], w'', st'.trans st'', (rk'.step w' st'').append (.cons ru .nil), ?_, ?_⟩
        · rw [List.take_add_one, hkj]
          simp [ekd, g2]
        · rw [g3]
          have : ks.drop (j + 1) = rest := by rw [← List.tail_drop, g4]; rfl
          rw [this]
      · obtain ⟨ρ', S', kd, w', st', rk', ekd, run⟩ := g
        have : ds.drop ys.length = [] := List.drop_eq_nil_iff.mpr (by rw [dl, yl]; exact Nat.le_refl _)
        rw [this] at run
        obtain ⟨_, rfl⟩ := keysL_nil run
        rw [best_eq, ← yl] at hy
        obtain ⟨x', hx', rx⟩ := rys.get hy
        rw [List.getElem?_map, hx] at hx'
        cases hx'
        refine ⟨ρ', S3, env, y, w', en2.step w2 st', rx.step w2 st', ?_⟩
        simp only [asg, wp_bind, wp_need, wp_pure] at q ⊢
        exact ⟨ht, fun ρ'' H'' σ'' st'' w'' en'' _ => q ρ'' H'' ((st.trans st').trans st'') w'' σ'' en''⟩
    · exact q.elim
  · exact q.elim
theorem s_asgC (ok : Ok gl cf c X) {t : TG} {e : IE} {tg v : Expr} {pos : Pos} (h : swT c tg v = true) (hk : c.sc.kind = .function) (ht : chkT c t tg = true) (he : chk c e v = true) : PS X (.Assign [tg] v pos) (TSd X.K (ex gl cf (.asg t e))) := by
  unfold swT at h
  split at h
  · rename_i y py elt gs scope vpos
    obtain ⟨h1, h⟩ := and2 h
    obtain ⟨h2, h3⟩ := and2 h
    have h1 := of_decide_eq_true h1
    have hy : X.env.scope.names.lookup y = some .local := by rw [ok.sc]; exact h1
    cases t with
    | nm i =>
      simp only [chkT] at ht
      obtain ⟨hs, _⟩ := and2 ht
      cases e with
      | comp t own it cond elt' =>
        simp only [chk] at he
        split at he
        · rename_i q1 q2 q3 q4 q5 q6 q7 q8
          cases q8
          obtain ⟨g1, he⟩ := and2 he
          obtain ⟨g2, he⟩ := and2 he
          obtain ⟨g3, he⟩ := and2 he
          obtain ⟨g4, he⟩ := and2 he
          obtain ⟨g5, he⟩ := and2 he
          obtain ⟨g6, he⟩ := and2 he
          obtain ⟨g7, he⟩ := and2 he
          obtain ⟨g8, g9⟩ := and2 he
          cases of_decide_eq_true g1
          refine PS.of (ps_setLc (i := i) (own := ownP c own) (g := TGd X.K t.slots (asg gl cf t)) (tt := TB X.K (evc gl cf cond)) (te := TD X.K (ev gl cf elt')) ok.calm ok.nd (ok.slot hs) hy
            (sw_true (by rw [ok.sc]; exact hk) hy h2 (by simpa using h3)) (chkI_ok it c X _ _ ok g6) (by rw [ok.N, ok.sc]; exact blkOk_by g3)
            (fun s H C cl fp => chkT_ok t _ _ _ (ok.blk _ s H C cl fp) g7) (fun s H C cl fp => chkc_ok cond _ _ _ (ok.blk _ s H C cl fp) g8) (fun s H C cl fp => chk_ok elt' _ _ _ (ok.blk _ s H C cl fp) g9) (folded_ok g2)) fun D σ H hh => ?_
          refine r_comp ok (ownP_snd c own) (slots_in g5) (chkI_ok it c X _ _ ok g6) ?_
          obtain ⟨ρ, S, env, w, en, q⟩ := hh
          simp only [ex, asg, wp_bind, wp_pure, wp_need] at q
          exact ⟨ρ, S, env, w, en, wp_mono q fun d S1 q ρ1 H1 v st1 w1 rv => q.2 ρ1 H1 st1 w1 _ ((en.step w st1).set rv)⟩
        · cases he
      | dcomp k t own cond elt' =>
        simp only [chk] at he
        split at he
        · rename_i q1 q2 q3 q4 q5 q6 q7 q8 q9
          cases q9
          obtain ⟨g1, he⟩ := and2 he
          obtain ⟨g2, he⟩ := and2 he
          obtain ⟨g3, he⟩ := and2 he
          obtain ⟨g4, he⟩ := and2 he
          obtain ⟨g5, he⟩ := and2 he
          obtain ⟨g7, he⟩ := and2 he
          obtain ⟨g8, g9⟩ := and2 he
          cases of_decide_eq_true g1
          obtain ⟨s1, s2⟩ := and2 g2
          obtain ⟨s2, s3⟩ := and2 s2
          obtain ⟨n1, n2, n3⟩ := nmOk_ s3
          refine PS.of (ps_lock (ps_setLc (i := i) (own := ownP c own) (g := TGd X.K t.slots (asg gl cf t)) (tt := TB X.K (evc gl cf cond)) (te := TD X.K (ev gl cf elt')) ok.calm ok.nd (ok.slot hs) hy
            (sw_true (by rw [ok.sc]; exact hk) hy h2 (by simpa using h3)) (pi_keys (pe_var (ok.slot s1) (ok.vis s2) n1 n2)) (by rw [ok.N, ok.sc]; exact blkOk_by g3)
            (fun s H C cl fp => chkT_ok t _ _ _ (ok.blk _ s H C cl fp) g7) (fun s H C cl fp => chkc_ok cond _ _ _ (ok.blk _ s H C cl fp) g8) (fun s H C cl fp => chk_ok elt' _ _ _ (ok.blk _ s H C cl fp) g9) (fun _ => rfl))) fun D σ H hh => ?_
          rw [ownP_snd]
          refine dcomp_core (Q := fun v H' => D.nx (σ.set i (some v)) H') (slots_in g5) ?_
          obtain ⟨ρ, S, env, w, en, q⟩ := hh
          simp only [ex, asg, wp_bind, wp_pure, wp_need] at q
          exact ⟨ρ, S, env, w, en, wp_mono q fun d S1 q ρ1 H1 v st1 w1 rv => q.2 ρ1 H1 st1 w1 _ ((en.step w st1).set rv)⟩
        · cases he
      | _ => simp only [chk] at he; cases he
    | _ => simp only [chkT] at ht; cases ht
  · cases h
theorem s_asgD (ok : Ok gl cf c X) {t : TG} {e : IE} {tg v : Expr} {pos : Pos} (h : swD c tg v = true) (hk : c.sc.kind = .function) (ht : chkT c t tg = true) (he : chk c e v = true) : PS X (.Assign [tg] v pos) (TSd X.K (ex gl cf (.asg t e))) := by
  unfold swD at h
  split at h
  · rename_i y py kx vx gs scope vpos
    obtain ⟨h1, h⟩ := and2 h
    obtain ⟨h2, h3⟩ := and2 h
    have h1 := of_decide_eq_true h1
    have hy : X.env.scope.names.lookup y = some .local := by rw [ok.sc]; exact h1
    cases t with
    | nm i =>
      simp only [chkT] at ht
      obtain ⟨hs, _⟩ := and2 ht
      cases e with
      | dmk t own it k v =>
        simp only [chk] at he
        split at he
        · rename_i q1 q2 q3 q4 q5 q6 q7
          cases q7
          obtain ⟨g1, he⟩ := and2 he
          obtain ⟨g2, he⟩ := and2 he
          obtain ⟨g3, he⟩ := and2 he
          obtain ⟨g4, he⟩ := and2 he
          obtain ⟨g5, he⟩ := and2 he
          obtain ⟨g6, he⟩ := and2 he
          obtain ⟨g7, he⟩ := and2 he
          obtain ⟨g8, g9⟩ := and2 he
          cases of_decide_eq_true g1
          refine PS.of (ps_setDT (i := i) (own := ownP c own) (g := TGd X.K t.slots (asg gl cf t)) (tt := TB X.K (evc gl cf .no)) (tk := TD X.K (ev gl cf k)) (tv := TD X.K (ev gl cf v)) ok.calm ok.nd (by have := ok.un; omega) (ok.slot hs) hy
            (sw_trueD (by rw [ok.sc]; exact hk) hy h2 (by simpa using h3)) (chkI_ok it c X _ _ ok g6) (by rw [ok.N, ok.sc]; exact blkOk_by g3)
            (fun s H C cl fp => chkT_ok t _ _ _ (ok.blk _ s H C cl fp) g7) (fun s H C cl fp => c_no) (fun s H C cl fp => chk_ok k _ _ _ (ok.blk _ s H C cl fp) g8) (fun s H C cl fp => chk_ok v _ _ _ (ok.blk _ s H C cl fp) g9) (folded_ok g2)) fun D σ H hh => ?_
          refine r_dmk ok (ownP_snd c own) (slots_in g5) ?_
          obtain ⟨ρ, S, env, w, en, q⟩ := hh
          simp only [ex, asg, wp_bind, wp_pure, wp_need] at q
          exact ⟨ρ, S, env, w, en, wp_mono q fun d S1 q ρ1 H1 v st1 w1 rv => q.2 ρ1 H1 st1 w1 _ ((en.step w st1).set rv)⟩
        · cases he
      | _ => simp only [chk] at he; cases he
    | _ => simp only [chkT] at ht; cases ht
  · cases h
theorem s_par (ok : Ok gl cf c X) {i j : Nat} {a b : IE} {x y : Str} {px py p p2 pos : Pos} {k k2 : Nat} {e1 e2 : Expr} (h : parOk c x y px py e1 e2 = true) (hi : c.slot i x = true) (hj : c.slot j y = true) (hij : i ≠ j) (h1 : PE X e1 (TD X.K (ev gl cf a))) (h2 : PE X e2 (TD X.K (ev gl cf b))) :
    PS X (.Assign [.Tuple [.Name x px, .Name y py] k p] (.Tuple [e1, e2] k2 p2) pos) (TSd X.K (ex gl cf (.par i j a b))) := by
  have hw := par_sw (k := k) (k2 := k2) (p := p) (p2 := p2) ok.sc h
  unfold parOk at h
  obtain ⟨g1, h⟩ := and2 h
  obtain ⟨g2, h⟩ := and2 h
  obtain ⟨g3, h⟩ := and2 h
  obtain ⟨g4, h⟩ := and2 h
  obtain ⟨g5, h⟩ := and2 h
  obtain ⟨g6, h⟩ := and2 h
  obtain ⟨g7, h⟩ := and2 h
  refine PS.of (ps_par ok.calm ok.nd (ok.slot hi) (ok.slot hj) hij (by rw [ok.sc]; exact of_decide_eq_true g2) (by rw [ok.sc]; exact of_decide_eq_true g3) (pa_cons h1 (pa_cons h2 pa_nil (star_plain g7)) (star_plain g6)) hw) fun D σ H hh => ?_
  obtain ⟨ρ, S, env, w, en, q⟩ := hh
  simp only [ex, wp_bind, wp_pure, wp_need] at q
  refine ⟨ρ, S, env, w, en, wp_mono q fun d S1 q ρ1 H1 v st1 w1 rv => ⟨ρ1, S1, env, w1, en.step w st1, wp_mono q fun d2 S2 q ρ2 H2 v2 st2 w2 rv2 => ?_⟩⟩
  exact ⟨v, v2, rfl, q.2 ρ2 H2 (st1.trans st2) w2 _ ((((en.step w st1).step w1 st2).set (rv.step w1 st2)).set rv2)⟩
def rAugD (K : PySem.W.Frag) (o : Operator) : TIp := fun v u H Q => ∃ ρ S x y, WS K ρ S H ∧ Rep K ρ H v x ∧ Rep K ρ H u y ∧ augOk o x y = true ∧ wp (bop o x y) (Post K ρ H Q) S
theorem aug_ok (o : Operator) : PIp X o (rAugD X.K o) := by
  intro pins s σ H v u vv uu Q I rv ru h
  obtain ⟨ρ, S, x, y, w, rx, ry, ha, h⟩ := h
  unfold augOk at ha
  split at ha
  · cases rx.int_; cases ry.int_
    exact ip_add pins s σ H _ _ _ _ Q I rv ru ⟨_, _, rfl, rfl, Post.int w h⟩
  · cases rx.int_; cases ry.int_
    exact ip_sub pins s σ H _ _ _ _ Q I rv ru ⟨_, _, rfl, rfl, Post.int w h⟩
  · cases ha
theorem s_aug (ok : Ok gl cf c X) {i : Nat} {o : Operator} {e : IE} {x : Str} {p pos : Pos} {e1 : Expr} (hi : c.slot i x = true) (hs : c.sto x = true) (h1 : PE X e1 (TD X.K (ev gl cf e))) : PS X (.AugAssign (.Name x p) o e1 pos) (TSd X.K (ex gl cf (.aug i o e))) := by
  obtain ⟨l1, l2⟩ := ok.loc hs
  refine PS.of (ps_aug ok.nd (ok.slot hi) l1 h1 (aug_ok o) l2) fun D σ H hh => ?_
  obtain ⟨ρ, S, env, w, en, q⟩ := hh
  simp only [ex] at q
  split at q
  · rename_i x hx
    obtain ⟨v, hv, rv⟩ := en.at_ i x hx
    simp only [wp_bind, wp_need, wp_pure] at q
    refine ⟨v, hv, ρ, S, env, w, en, wp_mono q fun y S1 q ρ1 H1 u st1 w1 ru => ?_⟩
    refine ⟨ρ1, S1, x, y, w1, rv.step w st1, ru, q.1, wp_mono q.2 fun z S2 q ρ2 H2 t st2 w2 rt => ?_⟩
    exact q ρ2 H2 (st1.trans st2) w2 _ ((((en.step w st1).step w1 st2)).set rt)
  · exact q.elim
theorem s_for (ok : Ok gl cf c X) {t : TG} {it : II} {b : ISs} {tg iter : Expr} {l : List Stmt} {pos : Pos} {sl : List Nat} (hn : noSet iter = true) (hi : PI X tg iter (TIs X.K (evi gl cf it))) (hg : PG X tg (TGd X.K sl (asg gl cf t))) (hb : PSs X l (TSd X.K (exs gl cf b))) :
    PS X (.For tg iter l [] pos) (TSd X.K (ex gl cf (.forr t it b))) := by
  refine PS.of (ps_for (by rw [ok.xe]; exact PassesOwn.never) ok.calm hi hg hb (folded_ok hn)) fun D σ H hh => ?_
  obtain ⟨ρ, S, env, w, en, h⟩ := hh
  simp only [ex, wp_bind] at h
  refine ⟨ρ, S, env, w, en, wp_mono h fun s S1 h ρ1 H1 J st1 w1 src => ?_⟩
  have en1 := en.step w st1
  refine ⟨fun i m σ' H' => ∃ ρ' S' env', WS X.K ρ' S' H' ∧ EnvR X.K ρ' H' σ' env' ∧ Step ρ1 H1 ρ' H' ∧ m = s.items.length - i ∧
    wp (forL s (fun d e => do let e1 ← asg gl cf t d e; exs gl cf b e1) (s.items.drop i) env') (PostF X.K ρ H D) S', ⟨_, ρ1, S1, env, w1, en1, .refl, rfl, ?_⟩, ?_⟩
  · rw [List.drop_zero]
    exact h
  rintro i m σ2 H2 ⟨ρ2, S2, env2, w2, en2, st2, rfl, h⟩
  cases hd : s.items.drop i with
  | nil =>
    rw [hd] at h
    simp only [forL, wp_bind, wp_pure] at h
    obtain ⟨gd, h⟩ := grd_wp h
    exact .inl ⟨(src i ρ2 S2 H2 st2 w2 gd).2 (List.drop_eq_nil_iff.mp hd), h ρ2 H2 (st1.trans st2) w2 σ2 en2⟩
  | cons d ds =>
    rw [hd] at h
    obtain ⟨hid, hdr⟩ := drop_cons hd
    have hil : i < s.items.length := (List.getElem?_eq_some_iff.mp hid).1
    simp only [forL, wp_bind] at h
    obtain ⟨gd, h⟩ := grd_wp h
    obtain ⟨go, yl⟩ := (src i ρ2 S2 H2 st2 w2 gd).1 d hid
    refine .inr ⟨go, fun σ' H' => ∃ ρ' S' env', WS X.K ρ' S' H' ∧ EnvR X.K ρ' H' σ' env' ∧ Step ρ1 H1 ρ' H' ∧
      wp (forL s (fun d e => do let e1 ← asg gl cf t d e; exs gl cf b e1) (s.items.drop (i + 1)) env') (PostF X.K ρ H D) S', fun σ' H' hN => ?_, fun x H3 hy => ?_⟩
    · obtain ⟨ρ', S', env', a1, a2, a3, a4⟩ := hN
      exact ⟨s.items.length - (i + 1), by omega, ρ', S', env', a1, a2, a3, rfl, a4⟩
    · rw [hdr]
      obtain ⟨sty, wy, rx⟩ := yl x H3 hy
      refine ⟨ρ2, S2, env2, d, wy, en2.step w2 sty, rx, wp_mono h fun e1 S3 h ρ3 H4 σ3 st4 w4 en4 _ => ?_⟩
      have k4 : Step ρ1 H1 ρ3 H4 := (st2.trans sty).trans st4
      refine ⟨ρ3, S3, e1, w4, en4, wp_mono h fun r S4 h ρ4 H5 st5 w5 => ?_⟩
      obtain ⟨fl, e2⟩ := r
      cases fl with
      | nx => exact fun σ' en' => ⟨ρ4, S4, e2, w5, en', k4.trans st5, h⟩
      | ct => exact fun σ' en' => ⟨ρ4, S4, e2, w5, en', k4.trans st5, h⟩
      | bk => exact fun σ' en' => h ρ4 H5 ((st1.trans k4).trans st5) w5 σ' en'
      | rt v => exact fun u ru => h ρ4 H5 ((st1.trans k4).trans st5) w5 u ru
theorem s_whl (ok : Ok gl cf c X) {t : IE} {b : ISs} {e1 : Expr} {l : List Stmt} {pos : Pos} (h1 : PT X e1 (TB X.K (tst gl cf t))) (hb : PSs X l (TSd X.K (exs gl cf b))) : PS X (.While e1 l [] pos) (TSd X.K (ex gl cf (.whl t b))) := by
  refine PS.of (ps_while (by rw [ok.xe]; exact PassesOwn.never) h1 hb) fun D σ H hh => ?_
  obtain ⟨ρ, S, env, w, en, h⟩ := hh
  simp only [ex] at h
  refine ⟨fun m σ' H' => ∃ ρ' S' env', WS X.K ρ' S' H' ∧ EnvR X.K ρ' H' σ' env' ∧ Step ρ H ρ' H' ∧ wp (whlL (fun e => tst gl cf t e) (fun e => exs gl cf b e) m env') (PostF X.K ρ H D) S', ⟨bigN, ρ, S, env, w, en, .refl, h⟩, ?_⟩
  rintro m σ1 H1 ⟨ρ1, S1, env1, w1, en1, st1, h⟩
  cases m with
  | zero => exact h.elim
  | succ m =>
    simp only [whlL, wp_bind] at h
    refine ⟨ρ1, S1, env1, w1, en1, wp_mono h fun k S2 h ρ2 H2 st2 w2 => ?_⟩
    have en2 := en1.step w1 st2
    cases k with
    | true =>
      simp only [if_true, wp_bind] at h ⊢
      refine ⟨fun σ' H' => ∃ ρ' S' env', WS X.K ρ' S' H' ∧ EnvR X.K ρ' H' σ' env' ∧ Step ρ H ρ' H' ∧ wp (whlL (fun e => tst gl cf t e) (fun e => exs gl cf b e) m env') (PostF X.K ρ H D) S', fun σ' H' hN => ⟨m, Nat.lt_succ_self m, hN⟩, ?_⟩
      refine ⟨ρ2, S2, env1, w2, en2, wp_mono h fun r S3 h ρ3 H3 st3 w3 => ?_⟩
      obtain ⟨fl, e2⟩ := r
      have k3 := (st1.trans st2).trans st3
      cases fl with
      | nx => exact fun σ' en' => ⟨ρ3, S3, e2, w3, en', k3, h⟩
      | ct => exact fun σ' en' => ⟨ρ3, S3, e2, w3, en', k3, h⟩
      | bk => exact fun σ' en' => h ρ3 H3 k3 w3 σ' en'
      | rt v => exact fun u ru => h ρ3 H3 k3 w3 u ru
    | false =>
      simp only [Bool.false_eq_true, if_false, wp_pure] at h ⊢
      exact h ρ2 H2 (st1.trans st2) w2 σ1 en2
mutual
theorem chkS_ok (ok : Ok gl cf c X) : ∀ (s : IS) (st : Stmt), chkS c s st = true → PS X st (TSd X.K (ex gl cf s))
  | .asg t e, st, h => by
    simp only [chkS] at h
    split at h
    · obtain ⟨h1, h⟩ := and2 h
      obtain ⟨h2, h3⟩ := and2 h
      rcases Bool.or_eq_true_iff.mp h1 with h1 | h1
      · exact s_asg ok h1 (chkT_ok t c X _ ok h2) (chk_ok e c X _ ok h3)
      · obtain ⟨g1, g2⟩ := and2 h1
        rcases Bool.or_eq_true_iff.mp g1 with g1 | g1
        · exact s_asgC ok g1 (of_decide_eq_true g2) h2 h3
        · exact s_asgD ok g1 (of_decide_eq_true g2) h2 h3
    · cases h
  | .par i j a b, st, h => by
    simp only [chkS] at h
    split at h
    · obtain ⟨h1, h⟩ := and2 h
      obtain ⟨h2, h⟩ := and2 h
      obtain ⟨h3, h⟩ := and2 h
      obtain ⟨h4, h⟩ := and2 h
      obtain ⟨h5, h6⟩ := and2 h
      exact s_par ok h1 h2 h3 (of_decide_eq_true h4) (chk_ok a c X _ ok h5) (chk_ok b c X _ ok h6)
    · cases h
  | .aug i o e, st, h => by
    simp only [chkS] at h
    split at h
    · obtain ⟨h1, h⟩ := and2 h
      obtain ⟨h2, h⟩ := and2 h
      obtain ⟨h3, h4⟩ := and2 h
      cases of_decide_eq_true h1
      exact s_aug ok h2 h3 (chk_ok e c X _ ok h4)
    · cases h
  | .expr e, st, h => by
    simp only [chkS] at h
    split at h
    · obtain ⟨h1, h2⟩ := and2 h
      refine PS.of (ps_expr (chk_ok e c X _ ok h2) (swap_none h1)) fun D σ H hh => ?_
      obtain ⟨ρ, S, env, w, en, q⟩ := hh
      simp only [ex, wp_bind, wp_pure] at q
      exact ⟨ρ, S, env, w, en, wp_mono q fun d S1 q ρ1 H1 v st1 w1 rv => q ρ1 H1 st1 w1 σ (en.step w st1)⟩
    · cases h
  | .ret e, st, h => by
    simp only [chkS] at h
    split at h
    · refine PS.of (ps_ret (chk_ok e c X _ ok h)) fun D σ H hh => ?_
      obtain ⟨ρ, S, env, w, en, q⟩ := hh
      simp only [ex, wp_bind, wp_pure] at q
      exact ⟨ρ, S, env, w, en, wp_mono q fun d S1 q ρ1 H1 v st1 w1 rv => q ρ1 H1 st1 w1 v rv⟩
    · cases h
  | .retN, st, h => by
    simp only [chkS] at h
    split at h
    · refine PS.of ps_retN fun D σ H hh => ?_
      obtain ⟨ρ, S, env, w, en, q⟩ := hh
      exact q ρ H .refl w _ .non
    · cases h
  | .ite t a b, st, h => by
    simp only [chkS] at h
    split at h
    · obtain ⟨h1, h⟩ := and2 h
      obtain ⟨h2, h3⟩ := and2 h
      refine PS.of (ps_if (tst_ok t c X _ ok h1).1 (chkSs_ok ok a _ h2) (chkSs_ok ok b _ h3)) fun D σ H hh => ?_
      obtain ⟨ρ, S, env, w, en, q⟩ := hh
      simp only [ex, wp_bind] at q
      refine ⟨ρ, S, env, w, en, wp_mono q fun k S1 q ρ1 H1 st1 w1 => ?_⟩
      cases k with
      | true =>
        simp only [if_true] at q ⊢
        exact ⟨ρ1, S1, env, w1, en.step w st1, wp_mono q fun r S2 p => p.step st1⟩
      | false =>
        simp only [Bool.false_eq_true, if_false] at q ⊢
        exact ⟨ρ1, S1, env, w1, en.step w st1, wp_mono q fun r S2 p => p.step st1⟩
    · cases h
  | .forr t it b, st, h => by
    simp only [chkS] at h
    split at h
    · obtain ⟨h1, h⟩ := and2 h
      obtain ⟨h2, h⟩ := and2 h
      obtain ⟨h3, h4⟩ := and2 h
      exact s_for ok h1 (chkI_ok it c X _ _ ok h2) (chkT_ok t c X _ ok h3) (chkSs_ok ok b _ h4)
    · cases h
  | .whl t b, st, h => by
    simp only [chkS] at h
    split at h
    · obtain ⟨h1, h2⟩ := and2 h
      exact s_whl ok (tst_ok t c X _ ok h1).1 (chkSs_ok ok b _ h2)
    · cases h
  | .pass, st, h => by
    simp only [chkS] at h
    split at h
    · refine PS.of ps_pass fun D σ H hh => ?_
      obtain ⟨ρ, S, env, w, en, q⟩ := hh
      exact q ρ H .refl w σ en
    · cases h
  | .brk, st, h => by
    simp only [chkS] at h
    split at h
    · refine PS.of ps_break fun D σ H hh => ?_
      obtain ⟨ρ, S, env, w, en, q⟩ := hh
      exact q ρ H .refl w σ en
    · cases h
  | .cnt, st, h => by
    simp only [chkS] at h
    split at h
    · refine PS.of ps_continue fun D σ H hh => ?_
      obtain ⟨ρ, S, env, w, en, q⟩ := hh
      exact q ρ H .refl w σ en
    · cases h
  | .setf C f o e, st, h => by
    simp only [chkS] at h
    split at h
    · obtain ⟨h1, h⟩ := and2 h
      obtain ⟨h2, h⟩ := and2 h
      obtain ⟨h3, h4⟩ := and2 h
      cases of_decide_eq_true h1
      exact s_setf ok h2 (chk_ok o c X _ ok h3) (chk_ok e c X _ ok h4) (swTgt fun _ _ z => by cases z)
    · cases h
  | .augf C f o op e, st, h => by
    simp only [chkS] at h
    split at h
    · obtain ⟨h1, h⟩ := and2 h
      obtain ⟨h0, h⟩ := and2 h
      obtain ⟨h2, h⟩ := and2 h
      obtain ⟨h3, h4⟩ := and2 h
      cases of_decide_eq_true h1
      cases of_decide_eq_true h0
      exact s_augf ok h2 (chk_ok o c X _ ok h3) (chk_ok e c X _ ok h4)
    · cases h
  | .rse, st, h => by
    simp only [chkS] at h
    split at h
    · exact s_rse
    · cases h
  | .dput o i v, st, h => by
    simp only [chkS] at h
    split at h
    · obtain ⟨h1, h⟩ := and2 h
      obtain ⟨h2, h⟩ := and2 h
      obtain ⟨h3, h4⟩ := and2 h
      refine PS.of (ps_dput (by have := ok.un; omega) (chk_ok o c X _ ok h2) (chk_ok i c X _ ok h3) (chk_ok v c X _ ok h4) (swTgt (fun _ _ z => by cases z))) fun D σ H hh => ?_
      obtain ⟨ρ, S, env, w, en, q⟩ := hh
      simp only [ex, wp_bind, wp_pure] at q
      refine ⟨ρ, S, env, w, en, wp_mono q fun z S1 q ρ1 H1 t st1 w1 rz => ⟨ρ1, S1, env, w1, en.step w st1, wp_mono q fun x S2 q ρ2 H2 v st2 w2 rx => ⟨ρ2, S2, env, w2, (en.step w st1).step w1 st2, wp_mono q fun y S3 q ρ3 H3 u st3 w3 ry => ?_⟩⟩⟩
      obtain ⟨a, H4, S4, e, g, st4, w4, q⟩ := dput_ok w3 (rx.step w2 st3) ry ((rz.step w1 st2).step w2 st3) q
      have st := ((st1.trans st2).trans st3).trans st4
      exact ⟨a, H4, e, g, q ρ3 H4 st w4 σ (((((en.step w st1).step w1 st2).step w2 st3)).step w3 st4)⟩
    · cases h
  | .ddel o i, st, h => by
    simp only [chkS] at h
    split at h
    · obtain ⟨h1, h2⟩ := and2 h
      refine PS.of (ps_ddelT (by have := ok.un; omega) (chk_ok o c X _ ok h1) (chk_ok i c X _ ok h2)) fun D σ H hh => ?_
      obtain ⟨ρ, S, env, w, en, q⟩ := hh
      simp only [ex, wp_bind, wp_pure] at q
      refine ⟨ρ, S, env, w, en, wp_mono q fun x S1 q ρ1 H1 v st1 w1 rx => ⟨ρ1, S1, env, w1, en.step w st1, wp_mono q fun y S2 q ρ2 H2 u st2 w2 ry => ?_⟩⟩
      obtain ⟨a, ws, k, b, z, H3, S3, e1, e2, e3, e4, e5, rfl, st3, w3, q⟩ := ddel_ok w2 (rx.step w1 st2) ry q
      exact ⟨a, ws, k, b, z, e1, e2, e3, e4, e5, q ρ2 _ ((st1.trans st2).trans st3) w3 σ (((en.step w st1).step w1 st2).step w2 st3)⟩
    · cases h
  | .rmaxk t i xs e, st, h => by
    simp only [chkS] at h
    split at h
    · obtain ⟨h1, h⟩ := and2 h
      obtain ⟨h2, h⟩ := and2 h
      obtain ⟨h3, h⟩ := and2 h
      obtain ⟨h4, h⟩ := and2 h
      obtain ⟨h5, h⟩ := and2 h
      obtain ⟨h6, h⟩ := and2 h
      obtain ⟨h7, h⟩ := and2 h
      obtain ⟨h8, h⟩ := and2 h
      obtain ⟨h9, h⟩ := and2 h
      obtain ⟨h10, h11⟩ := and2 h
      cases of_decide_eq_true h1
      cases of_decide_eq_true h3
      cases of_decide_eq_true h5
      exact s_rmaxk ok h2 h4 h6 h7 h8 (chkT_ok (.nm t) c X _ ok h9) (chk_ok xs c X _ ok h10) h11
    · cases h
  | .rsort i xs e, st, h => by
    simp only [chkS] at h
    split at h
    · obtain ⟨h1, h⟩ := and2 h
      obtain ⟨h2, h⟩ := and2 h
      obtain ⟨h3, h⟩ := and2 h
      obtain ⟨h4, h⟩ := and2 h
      obtain ⟨h5, h⟩ := and2 h
      obtain ⟨h6, h⟩ := and2 h
      obtain ⟨h7, h8⟩ := and2 h
      cases of_decide_eq_true h1
      cases of_decide_eq_true h3
      cases of_decide_eq_true h4
      exact s_rsort ok h2 h6 h5 (chk_ok xs c X _ ok h7) h8
    · cases h
theorem chkSs_ok (ok : Ok gl cf c X) : ∀ (s : ISs) (st : List Stmt), chkSs c s st = true → PSs X st (TSd X.K (exs gl cf s))
  | .nil, st, h => by
    simp only [chkSs] at h
    split at h
    · refine PSs.of pss_nil fun D σ H hh => ?_
      obtain ⟨ρ, S, env, w, en, q⟩ := hh
      exact q ρ H .refl w σ en
    · cases h
  | .cons s ss, st, h => by
    simp only [chkSs] at h
    split at h
    · obtain ⟨h1, h2⟩ := and2 h
      refine PSs.of (pss_cons (chkS_ok ok s _ h1) (chkSs_ok ok ss _ h2)) fun D σ H hh => ?_
      obtain ⟨ρ, S, env, w, en, q⟩ := hh
      simp only [exs, wp_bind] at q
      refine ⟨ρ, S, env, w, en, wp_mono q fun r S1 q ρ1 H1 st1 w1 => ?_⟩
      obtain ⟨fl, e2⟩ := r
      cases fl with
      | nx => exact fun σ' en' => ⟨ρ1, S1, e2, w1, en', wp_mono q fun r S2 p => p.step st1⟩
      | ct => exact fun σ' en' => q ρ1 H1 st1 w1 σ' en'
      | bk => exact fun σ' en' => q ρ1 H1 st1 w1 σ' en'
      | rt v => exact fun u ru => q ρ1 H1 st1 w1 u ru
    · cases h
end
end
end Dl
end

section
set_option Elab.async false
set_option linter.all false
set_option maxRecDepth 100000
set_option maxHeartbeats 2000000
/-! Dl: defs, the program, the law -/
namespace Dl
open PySem PySem.Spec PyProof.Rows L2
/-- one def of the text with its term: its slots, its term -/
structure Pd where
  d : He.DefD
  N : List Str
  fd : Fd
def Pd.ps (p : Pd) : List Str := p.N.take p.fd.np
def Pd.cst (G : List (Str × GI)) (p : Pd) : Cst := ⟨p.N, p.d.scope, fun _ => true, G, (if p.d.at_ = (p.d.qual, none) ∧ p.d.qual ∈ lamNames then some p.d.qual else none), 3⟩
def nodupB : List Str → Bool
  | [] => true
  | x :: xs => !xs.contains x && nodupB xs
theorem nodupB_ok : ∀ {l : List Str}, nodupB l = true → l.Nodup
  | [], _ => List.nodup_nil
  | x :: xs, h => by
    obtain ⟨h1, h2⟩ := and2 (show (!xs.contains x && nodupB xs) = true from h)
    exact List.nodup_cons.mpr ⟨by simpa using h1, nodupB_ok h2⟩
def Pd.ok (G : List (Str × GI)) (p : Pd) : Bool :=
  decide (p.d.scope.kind = .function) && (decide (p.d.scope.isCoroutine = false) && (decide (p.d.scope.isGenerator = false) && (nodupB p.N && (decide (p.fd.np ≤ p.N.length) && (decide (p.N.length = p.fd.nl) &&
    ((p.ps.all fun x => decide (p.d.scope.names.lookup x = some .local) || decide (p.d.scope.names.lookup x = some .cell)) && ((p.d.scope.names.all fun y => decide (y.2 ≠ .free)) && (p.d.dfl.isEmpty && (p.d.kwd.isEmpty && chkSs (p.cst G) p.fd.body p.d.body)))))))))
theorem start_env {K : PySem.W.Frag} {ρ : List Addr} {H : Hp} {N : List Str} {nl : Nat} {vs : List V} {ds : List D} (hN : N.length = nl) (r : Reps K ρ H vs ds) : EnvR K ρ H (L2.start N vs) (startE nl ds) := by
  unfold L2.start startE
  refine ⟨by rw [List.length_append, List.length_append, List.length_map, List.length_map, List.length_replicate, List.length_replicate, r.length, hN], fun i d h => ?_⟩
  by_cases hi : i < ds.length
  · rw [List.getElem?_append_left (by simpa using hi), List.getElem?_map] at h
    cases e : ds[i]? with
    | none => rw [e] at h; cases h
    | some d' =>
      rw [e] at h
      cases h
      obtain ⟨v, e1, rv⟩ := r.get e
      refine ⟨v, ?_, rv⟩
      rw [List.getElem?_append_left (by rw [List.length_map, r.length]; exact hi), List.getElem?_map, e1]
      rfl
  · rw [List.getElem?_append_right (by simpa using hi), List.getElem?_replicate] at h
    split at h <;> cases h
section
variable {P : Program} {w : World} {K : PySem.W.Frag} {mg : Str → Option Value} {base : Heap} {gl : Nat → D} {G : List (Str × GI)}
/-- the code object of the def that makes the lambda -/
def lamCode (K : PySem.W.Frag) (nm : Str) : Option Value := match K.lookup (He.fAd K (nm, none)) with
  | some ⟨_, _, .func fd, _⟩ => some fd.code
  | _ => none
theorem tabAd_of {K : PySem.W.Frag} {nm : Str} {cdv : Value} (h : lamCode K nm = some cdv) : tabAd K nm = codeTab K cdv := by
  unfold lamCode at h
  unfold tabAd
  split at h
  · rename_i e
    cases h
    first
    | rfl
    | rw [e]
  · cases h
theorem okc {K : PySem.W.Frag} {x qual : Str} {params : Arguments} {body : List Stmt} {scope : Scope} {dvs : List V} {kws : List (Str × V)} {f : Addr} {fd : FuncData} {P : Program} {w : World} {mg : Str → Option Value} {base : Heap} {CX : CXT} {N ps : List Str} {k : Nat} {sp : Sp} (F : FunD K x qual params body scope dvs kws f fd) (S : FnScope N ps scope) (len : ∀ vs H Q E, sp vs H Q E → vs.length = ps.length)
    (hbody : ∀ (cdv : Value) (A : Around) (outer : List Env) (s : Shared) (H : Hp) (vs : List V) (Q : VK) (E : XK), (∀ nm, f = He.fAd K (nm, none) → lamCode K nm = some cdv) → Room k (A.deeper (envOfC qual scope s.heap.objs.size f cdv)) → sp vs H Q E →
      ∃ t, PSs (cxOf CX P w K mg base N qual scope f cdv A outer s H E) body t ∧ t { nx := fun _ H' => Q .non H', rt := Q } (start N vs) H) : FnOk P w K mg base CX (k + 1) f fd ps sp := by
  obtain ⟨oc, od, dV, kV, doc, pm, an, cdv, ct, osl, rfl, lk, hcd, _, _⟩ := F.ex
  exact fn_of lk hcd S len fun A outer s H vs Q E hr hsp => hbody cdv A outer s H vs Q E (fun nm e => by
    unfold lamCode
    rw [← e, lk]) hr hsp
/-- the module's names -/
def GlOk (K : PySem.W.Frag) (mg : Str → Option Value) (gl : Nat → D) (ps : List Pd) (G : List (Str × GI)) : Prop := ∀ x g, G.lookup x = some g → match g with
  | .free => mg x = none
  | .bt id => mg x = some (.builtin id)
  | .cst g => ∃ u v, mg x = some u ∧ RelV v u ∧ ∀ ρ H, Rep K ρ H v (gl g)
  | .fn i => ∃ p, ps[i]? = some p ∧ mg x = some (.ref (He.fAd K p.d.at_))
  | .other => True
  | .cls i => mg x = some (.ref (He.ga K x)) ∧ ∃ p, ps[i]? = some p ∧ Mk K (He.ga K x) (He.fAd K p.d.at_)
  | .mth C m i => Cls K (He.ga K C) ∧ ∃ p, ps[i]? = some p ∧ Meth K (He.ga K C) m (He.fAd K p.d.at_)
  | .noat C f => Cls K (He.ga K C) ∧ NoAttr K (He.ga K C) f
  | .fnv z i => mg z = some (.ref (He.ga K z)) ∧ ∃ p, ps[i]? = some p ∧ He.fAd K p.d.at_ = He.ga K z
theorem fns_ok {ps : List Pd} {fds : Nat → FuncData} (hTab : ∀ nm ∈ lamNames, ∀ cdv, lamCode K nm = some cdv → ∃ cc P, cdv = .ref cc ∧ codeTab K cdv = some P ∧ LamX.TabB base mg cc P) (hG : GlOk K mg gl ps G) (hok : ∀ p ∈ ps, p.ok G = true)
    (hF : ∀ (i : Nat) (p : Pd), ps[i]? = some p → FunD K p.d.name p.d.qual p.d.params p.d.body p.d.scope (p.d.dvs K) (p.d.kws K) (He.fAd K p.d.at_) (fds i))
    (hB : ∀ (i : Nat) (p : Pd), ps[i]? = some p → Binds K (fds i) p.ps []) :
    ∀ (n i : Nat) (p : Pd), ps[i]? = some p → FnOk P w K mg base CX0 (4 * n) (He.fAd K p.d.at_) (fds i) p.ps (spD K (call gl (ps.map (·.fd)) n i))
  | 0, i, p, hp => ⟨fun vs H Q E h => by obtain ⟨ρ, S, ds, _, _, q⟩ := h; exact q.elim, fun A outer s H args us vs Q E hr he hb hv hs => by obtain ⟨ρ, S, ds, _, _, q⟩ := hs; exact q.elim⟩
  | n + 1, i, p, hp => by
    have hk := hok p (List.mem_of_getElem? hp)
    unfold Pd.ok at hk
    obtain ⟨k1, hk⟩ := and2 hk
    obtain ⟨k2, hk⟩ := and2 hk
    obtain ⟨k3, hk⟩ := and2 hk
    obtain ⟨k4, hk⟩ := and2 hk
    obtain ⟨k5, hk⟩ := and2 hk
    obtain ⟨k6, hk⟩ := and2 hk
    obtain ⟨k7, hk⟩ := and2 hk
    obtain ⟨k8, hk⟩ := and2 hk
    obtain ⟨k9, hk⟩ := and2 hk
    obtain ⟨k10, k11⟩ := and2 hk
    have k1 := of_decide_eq_true k1
    have k5 := of_decide_eq_true k5
    have k6 := of_decide_eq_true k6
    have hpl : p.ps.length = p.fd.np := by unfold Pd.ps; rw [List.length_take]; omega
    have hfs : (ps.map (·.fd))[i]? = some p.fd := by rw [List.getElem?_map, hp]; rfl
    have S : FnScope p.N p.ps p.d.scope := {
      kind := k1
      co := of_decide_eq_true k2
      gen := of_decide_eq_true k3
      nd := nodupB_ok k4
      pre := by rw [hpl]; rfl
      par := fun x hx => by
        have := List.all_eq_true.mp k7 x hx
        rcases Bool.or_eq_true_iff.mp this with q | q
        · exact .inl (of_decide_eq_true q)
        · exact .inr (of_decide_eq_true q)
      nofree := fun y hy => of_decide_eq_true (List.all_eq_true.mp k8 y hy) }
    have run : ∀ {ds : List D} {R : D → Store → Prop} {St : Store}, wp (call gl (ps.map (·.fd)) (n + 1) i ds) R St → ds.length = p.fd.np ∧ wp (exs gl (call gl (ps.map (·.fd)) n) p.fd.body (startE p.fd.nl ds)) (fun r S' => wp (ofFl r) R S') St := fun {ds R St} h => by
      unfold call at h
      rw [hfs] at h
      dsimp only at h
      by_cases hl : ds.length = p.fd.np
      · rw [if_pos hl, wp_bind] at h
        exact ⟨hl, h⟩
      · rw [if_neg hl] at h
        exact h.elim
    refine okc (k := 4 * n + 3) (hF i p hp) S (fun vs H Q E h => ?_) fun cdv A outer s H vs Q E hcdv hr h => ⟨TSd K (exs gl (call gl (ps.map (·.fd)) n) p.fd.body), PSs.nox ?_, ?_⟩
    · obtain ⟨ρ, S, ds, w', r, q⟩ := h
      rw [r.length, (run q).1, hpl]
    · refine chkSs_ok (c := p.cst G) (X := (cxOf CX0 P w K mg base p.N p.d.qual p.d.scope (He.fAd K p.d.at_) cdv A outer s H E).nox) ?_ _ _ k11
      refine ⟨rfl, S.nd, rfl, fun _ _ => rfl, rfl, rfl, ?_, fun x g hx => ?_, fun nm hl => ?_⟩
      · have := hr.un
        show (A.deeper _).units + 65 < cLine
        omega
      · have q := hG x g hx
        cases g with
        | free => exact q
        | bt id => exact q
        | cst g => exact q
        | other => trivial
        | fn j =>
          obtain ⟨p', e1, e2⟩ := q
          exact ⟨_, fds j, p'.ps, 4 * n, e2, (hF j p' e1).kp, hB j p' e1, hr, fns_ok hTab hG hok hF hB n j p' e1⟩
        | noat C f => exact q
        | cls j =>
          obtain ⟨e0, p', e1, e2⟩ := q
          exact ⟨e0, _, fds j, p'.ps, 4 * n, e2, hB j p' e1, hr, fns_ok hTab hG hok hF hB n j p' e1⟩
        | mth C m j =>
          obtain ⟨e0, p', e1, e2⟩ := q
          exact ⟨e0, _, fds j, p'.ps, 4 * n, e2, hB j p' e1, hr, fns_ok hTab hG hok hF hB n j p' e1⟩
        | fnv z j =>
          obtain ⟨e0, p', e1, e2⟩ := q
          have kp := (hF j p' e1).kp
          rw [e2] at kp
          refine ⟨e0, kp, fds j, p'.ps, 4 * n, hB j p' e1, hr, ?_⟩
          have F := fns_ok hTab hG hok hF hB n j p' e1
          rw [e2] at F
          exact F
      · have hl : (if p.d.at_ = (p.d.qual, none) ∧ p.d.qual ∈ lamNames then some p.d.qual else none) = some nm := hl
        split at hl
        · rename_i l
          obtain ⟨l1, l2⟩ := l
          cases hl
          have hc := hcdv p.d.qual (by rw [l1])
          obtain ⟨cc, P, rfl, h2, h3⟩ := hTab _ l2 cdv hc
          exact ⟨l2, cc, P, rfl, (tabAd_of hc).trans h2, h3, rfl, hr.mono (by omega)⟩
        · cases hl
    · obtain ⟨ρ, St, ds, w', r, q⟩ := h
      obtain ⟨hl, q⟩ := run q
      refine ⟨ρ, St, _, w', start_env k6 r, wp_mono q fun f S' q ρ' H' st w2 => ?_⟩
      obtain ⟨fl, e⟩ := f
      cases fl with
      | nx => exact fun σ' _ => q ρ' H' _ st w2 .non
      | rt d => exact fun v rv => q ρ' H' v st w2 rv
      | bk => exact q.elim
      | ct => exact q.elim
end
/-! ### the law -/
/-- each def's table is its own -/
def TabOne (K : PySem.W.Frag) : Prop := ∀ nm ∈ lamNames, ∀ nm' ∈ lamNames, ∀ P, tabAd K nm = some P → tabAd K nm' = some P → nm = nm'
theorem ws_nil {K : PySem.W.Frag} {H : Hp} (t1 : TabOne K) (ht : ∀ nm ∈ lamNames, ∀ P, tabAd K nm = some P → H P = some (.tbl #[])) : WS K [] [] H := ⟨List.nodup_nil, rfl, fun i a o h => by simp at h, fun nm hn P hP => LamX.TabS.nil (ht nm hn P hP), t1⟩
/-- the law's own run in data gives True -/
def LawRuns (gl : Nat → D) (fs : List Fd) (k li : Nat) : Prop := ∀ ns : List Int, ns.length ≤ 63 → wp (call gl fs k li [.ro (ns.map .int)]) (fun d _ => d = .bl true) []
theorem law_sp {K : PySem.W.Frag} {gl : Nat → D} {fs : List Fd} {k li : Nat} (h : LawRuns gl fs k li) (H : Hp) (a : Addr) (ns : List Int) (hl : ns.length ≤ 63) (t1 : TabOne K) (ht : ∀ nm ∈ lamNames, ∀ P, tabAd K nm = some P → H P = some (.tbl #[])) (hs : SqF K H a (ns.map V.int)) :
    spD K (call gl fs k li) [.ref a] H (fun v _ => v = .bl true) fun _ _ _ => False := by
  refine ⟨[], [], [.ro (ns.map .int)], ws_nil t1 ht, .cons (.ro hs (Reps.ofInts ns)) .nil, wp_mono (h ns hl) fun d S q ρ' H' v st w r => ?_⟩
  subst q
  cases r
  rfl
/-- a list that nobody else writes may be frozen at a call -/
def frzSp (sp : Sp) : Sp := fun vs H Q E => sp vs H Q E ∨ ∃ a xs, H a = some (.lst xs) ∧ ∀ od, sp vs (upd H a (.frz od (.lst xs))) Q E
theorem FnOk.freeze {P : Program} {w : World} {K : PySem.W.Frag} {mg : Str → Option Value} {base : Heap} {k : Nat} {f : Addr} {fd : FuncData} {ps : List Str} {sp : Sp} (F : FnOk P w K mg base CX0 k f fd ps sp) : FnOk P w K mg base CX0 k f fd ps (frzSp sp) := by
  refine ⟨fun vs H Q E h => ?_, fun A outer s H args us vs Q E hr e0 hb r h => ?_⟩
  · rcases h with h | ⟨a, xs, _, h⟩
    · exact F.len vs H Q E h
    · exact F.len vs _ Q E (h ⟨.none, none, .plain, #[]⟩)
  · rcases h with h | ⟨a, xs, ha, h⟩
    · exact F.run A outer s H args us vs Q E hr e0 hb r h
    · obtain ⟨hz, its, n, rv, ho⟩ := e0.hok a _ ha
      generalize hod : ({ cls := .type "list", data := .seq its.toArray n } : Obj) = od at ho
      have ne : ∀ b u, H b = some u → (∀ xs, u ≠ .lst xs) → b ≠ a := fun b u e n z => by rw [z, ha] at e; exact n _ (Option.some.inj e).symm
      have nN : ∀ b, H b = none → b ≠ a := fun b e z => by rw [z, ha] at e; cases e
      have e1 : Env0 P w K mg base A outer s (upd H a (.frz od (.lst xs))) := by
        refine ⟨e0.frames, e0.mod, fun b o e => ⟨(e0.bs b o e).1, ?_⟩, e0.bsz, e0.funs, fun b hb' => ?_, fun b u e => ?_, e0.bare⟩
        · rw [upd_ne (nN b (e0.bs b o e).2)]; exact (e0.bs b o e).2
        · rw [upd_ne (nN b (e0.frf b hb'))]; exact e0.frf b hb'
        · have st : ∀ c u, H c = some u → ObjOk P w H s.heap c u → ObjOk P w (upd H a (.frz od (.lst xs))) s.heap c u := fun c u _ x =>
            x.stay (fun b v _ q => q) (fun b q => by rw [upd_ne (ne b _ q (fun _ z => nomatch z))]; exact q) fun b xs q => by rw [upd_ne (ne b _ q (fun _ z => nomatch z))]; exact q
          by_cases hb' : b = a
          · rw [hb', upd_same] at e
            cases e
            rw [hb']
            exact ⟨ho, st a _ ha (e0.hok a _ ha)⟩
          · rw [upd_ne hb'] at e
            exact st b u e (e0.hok b u e)
      refine codeAny_mono (F.run A outer s _ args us vs Q E hr e1 hb r (h od)) fun r s' hq => ?_
      cases r with
      | error e => exact hq
      | ok fl =>
        cases fl with
        | next => exact hq
        | brk => exact hq
        | cont => exact hq
        | ret u =>
          obtain ⟨v, H', os, bare, un, hok', r', q⟩ := hq
          exact ⟨v, H', os, bare, ⟨fun b o e n => un.keep b o e (by rw [upd_ne (nN b n)]; exact n), fun b o e n => un.slot b o e (by rw [upd_ne (nN b n)]; exact n), fun b o e n => un.free b o e (by rw [upd_ne (nN b n)]; exact n), un.there,
            fun b xs e => un.tups b xs (by rw [upd_ne (ne b _ e (fun _ z => nomatch z))]; exact e), fun b o u e => un.frzs b o u (by rw [upd_ne (ne b _ e (fun _ z => nomatch z))]; exact e), fun b ps e => un.tbls b ps (by rw [upd_ne (ne b _ e (fun _ z => nomatch z))]; exact e)⟩, hok', r', q⟩

/-! ### the head: what the top leaves, by one look -/
mutual
/-- a value of the written part stands for a datum -/
def datB (K : PySem.W.Frag) : D → Value → Bool
  | .non, v => v == .none
  | .bl b, v => match v with | .bool c => b == c | _ => false
  | .int i, v => match v with | .int j _ => decide (i = j) | _ => false
  | .str x, v => match v with | .str y _ => decide (x = y) | _ => false
  | .tup ds, v => match v with
    | .ref a => match K.lookup a with
      | some ⟨.type c, od, .seq its _, _⟩ => decide (c = "tuple") && (!isKey ds && ((!isX ds || od.isNone) && (decide (its.size ≤ sizeLine) && datsB K ds its.toList)))
      | _ => false
    | _ => false
  | .ref _, _ => false
  | .ro _, _ => false
  | .fn _, _ => false
def datsB (K : PySem.W.Frag) : List D → List Value → Bool
  | [], vs => vs.isEmpty
  | d :: ds, vs => match vs with | v :: vs => datB K d v && datsB K ds vs | [] => false
end
mutual
theorem datB_ok {K : PySem.W.Frag} : ∀ (d : D) (u : Value), datB K d u = true → ∃ v, RelV v u ∧ ∀ ρ H, Rep K ρ H v d
  | .non, u, h => ⟨.non, eq_of_beq h, fun _ _ => .non⟩
  | .bl b, u, h => by
    cases u <;> simp only [datB] at h <;> try (cases h; done)
    cases eq_of_beq h
    exact ⟨.bl b, rfl, fun _ _ => .bl _⟩
  | .int b, u, h => by
    cases u <;> simp only [datB] at h <;> try (cases h; done)
    cases of_decide_eq_true h
    exact ⟨.int b, ⟨_, rfl⟩, fun _ _ => .int _⟩
  | .str b, u, h => by
    cases u <;> simp only [datB] at h <;> try (cases h; done)
    cases of_decide_eq_true h
    exact ⟨.str b, ⟨_, rfl⟩, fun _ _ => .str _⟩
  | .tup ds, u, h => by
    cases u <;> simp only [datB] at h <;> try (cases h; done)
    rename_i a
    split at h
    · rename_i c od its n sl e
      obtain ⟨h1, h⟩ := and2 h
      obtain ⟨h0, h⟩ := and2 h
      obtain ⟨hx, h⟩ := and2 h
      obtain ⟨h2, h3⟩ := and2 h
      obtain ⟨vs, r, k⟩ := datsB_ok ds _ h3
      refine ⟨.ref a, rfl, fun ρ H => .tup (xs := vs) (.inr ⟨_, its, n, e, congrArg Value.type (of_decide_eq_true h1), rfl, of_decide_eq_true h2, r⟩) (fun z => by rw [z] at h0; cases h0) (fun z => .inr ⟨_, e, by rw [z] at hx; simpa using hx⟩) (k ρ H)⟩
    · cases h
  | .ref _, u, h => by simp only [datB] at h; cases h
  | .ro _, u, h => by simp only [datB] at h; cases h
  | .fn _, u, h => by simp only [datB] at h; cases h
theorem datsB_ok {K : PySem.W.Frag} : ∀ (d : List D) (u : List Value), datsB K d u = true → ∃ v, Vals v u ∧ ∀ ρ H, Reps K ρ H v d
  | [], u, h => by
    cases u with
    | nil => exact ⟨[], .nil, fun _ _ => .nil⟩
    | cons _ _ => cases h
  | d :: ds, u, h => by
    cases u with
    | nil => simp only [datsB] at h; cases h
    | cons x xs =>
      simp only [datsB] at h
      obtain ⟨h1, h2⟩ := and2 h
      obtain ⟨v, r, k⟩ := datB_ok d x h1
      obtain ⟨vs, rs, ks⟩ := datsB_ok ds xs h2
      exact ⟨v :: vs, .cons r rs, fun ρ H => .cons (k ρ H) (ks ρ H)⟩
end
def glB (K : PySem.W.Frag) (gl : Nat → D) (ps : List Pd) (q : Str × GI) : Bool := match q.2 with
  | .free => He.eqO (PySem.W.nsIn K mainGlobals q.1) (some none)
  | .bt id => He.eqO (PySem.W.nsIn K mainGlobals q.1) (some (some (.builtin id)))
  | .cst g => match PySem.W.nsIn K mainGlobals q.1 with | some (some u) => datB K (gl g) u | _ => false
  | .fn i => match ps[i]? with | some p => He.eqO (PySem.W.nsIn K mainGlobals q.1) (some (some (.ref (He.fAd K p.d.at_)))) | none => false
  | .other => true
  | .cls i => (He.Fa.glo q.1).ok K && ((He.Fa.mkr q.1).ok K && (match ps[i]? with | some p => decide (p.d.at_ = (q.1, some ("__init__" : Str))) | none => false))
  | .mth C m i => (He.Fa.cls C).ok K && ((He.Fa.meth C m).ok K && (match ps[i]? with | some p => decide (p.d.at_ = (C, some m)) | none => false))
  | .noat C f => (He.Fa.cls C).ok K && (He.Fa.noat C f).ok K
  | .fnv z i => (He.Fa.glo z).ok K && (match ps[i]? with | some p => decide (p.d.at_ = (z, none)) | none => false)
theorem mem_of_look {α : Type} : ∀ {l : List (Str × α)} {x : Str} {g : α}, l.lookup x = some g → (x, g) ∈ l
  | (y, h) :: r, x, g, e => by
    rw [List.lookup_cons] at e
    cases q : x == y with
    | true =>
      rw [q] at e
      cases e
      rw [eq_of_beq q]
      exact List.mem_cons_self
    | false =>
      rw [q] at e
      exact List.mem_cons_of_mem _ (mem_of_look e)
theorem glB_ok {K : PySem.W.Frag} {mg : Str → Option Value} {h : Heap} {gl : Nat → D} {ps : List Pd} {G : List (Str × GI)} (X : K.In h) (N : h.Ns mainGlobals mg) (c : G.all (glB K gl ps) = true) : GlOk K mg gl ps G := by
  intro x g hx
  have q := List.all_eq_true.mp c (x, g) (mem_of_look hx)
  cases g with
  | free => exact PySem.W.mg_none_of X N (He.eqO_ok q)
  | bt id => exact PySem.W.mg_of X N (He.eqO_ok q)
  | other => trivial
  | cst g =>
    simp only [glB] at q
    split at q
    · rename_i u e
      obtain ⟨v, r, k⟩ := datB_ok _ _ q
      exact ⟨u, v, PySem.W.mg_of X N e, r, k⟩
    · cases q
  | fn i =>
    simp only [glB] at q
    split at q
    · rename_i p e
      exact ⟨p, e, PySem.W.mg_of X N (He.eqO_ok q)⟩
    · cases q
  | noat C f =>
    obtain ⟨q1, q2⟩ := and2 q
    exact ⟨He.cls_ok q1, He.noat_ok q2⟩
  | cls i =>
    obtain ⟨q1, q⟩ := and2 q
    obtain ⟨q2, q⟩ := and2 q
    refine ⟨He.glo_ok X N q1, ?_⟩
    split at q
    · rename_i p e
      refine ⟨p, e, ?_⟩
      rw [of_decide_eq_true q]
      exact He.mkr_ok q2
    · cases q
  | mth C m i =>
    obtain ⟨q1, q⟩ := and2 q
    obtain ⟨q2, q⟩ := and2 q
    refine ⟨He.cls_ok q1, ?_⟩
    split at q
    · rename_i p e
      refine ⟨p, e, ?_⟩
      rw [of_decide_eq_true q]
      exact He.meth_ok q2
    · cases q
  | fnv z i =>
    obtain ⟨q1, q⟩ := and2 q
    refine ⟨He.glo_ok X N q1, ?_⟩
    split at q
    · rename_i p e
      refine ⟨p, e, ?_⟩
      rw [of_decide_eq_true q]
      rfl
    · cases q
abbrev AlX : Type := Bool × He.AlD
def tabsB (K : PySem.W.Frag) : Bool := lamNames.all fun nm => lamNames.all fun nm' => decide (nm = nm') || (match tabAd K nm, tabAd K nm' with | some P, some P' => !(P == P') | _, _ => true)
theorem tabsB_ok {K : PySem.W.Frag} (h : tabsB K = true) : TabOne K := by
  intro nm hn nm' hn' P e e'
  have q := List.all_eq_true.mp (List.all_eq_true.mp h nm hn) nm' hn'
  rw [e, e'] at q
  rcases Bool.or_eq_true_iff.mp q with q | q
  · exact of_decide_eq_true q
  · simp at q
def obsX (gl : Nat → D) (ps : List Pd) (G : List (Str × GI)) (K : PySem.W.Frag) : AlX := (G.all (glB K gl ps) && tabsB K, He.obsD [] (ps.map (·.d)) K)
def valX (ps : List Pd) : AlX := (true, He.valD (ps.map (·.d)))
def SaysX (gl : Nat → D) (ps : List Pd) (G : List (Str × GI)) (K : PySem.W.Frag) : Prop := obsX gl ps G K = valX ps
def clsN (o : Obj) : Bool := match o.cls with | .none => false | _ => true
/-- the tables of code objects are left out -/
def notTab (g : Addr → Option Obj) (a : Addr) : Bool := match g a with | some o => clsN o | none => true
def NoTab (K : PySem.W.Frag) : Prop := ∀ a o, K.lookup a = some o → clsN o = true
theorem frG_mem {g : Addr → Option Obj} {a : Addr} {o : Obj} : ∀ as : List Addr, (He.frG g as).lookup a = some o → a ∈ as
  | [], e => nomatch (show (none : Option Obj) = some o from e)
  | b :: r, e => by
    unfold He.frG at e
    cases hb : g b with
    | none =>
      rw [List.filterMap_cons, hb] at e
      exact List.mem_cons_of_mem _ (frG_mem r e)
    | some ob =>
      rw [List.filterMap_cons, hb] at e
      simp only [Option.map_some, List.lookup_cons] at e
      cases q : a == b with
      | true => rw [eq_of_beq q]; exact List.mem_cons_self
      | false =>
        rw [q] at e
        exact List.mem_cons_of_mem _ (frG_mem r e)
def obsXG (n : Nat) (gl : Nat → D) (ps : List Pd) (G : List (Str × GI)) (g : Addr → Option Obj) : AlX := obsX gl ps G (He.frG g ((He.asD g n).filter (notTab g)))
def hookX (n : Nat) (gl : Nat → D) (ps : List Pd) (G : List (Str × GI)) : PySem.W.Hook where
  α := AlX
  obs := fun s => obsXG n gl ps G s.heap.get?
  val := fun _ => valX ps
  says := fun _ h => ∃ K : PySem.W.Frag, K.In h ∧ SaysX gl ps G K ∧ NoTab K
  of := fun _ _ e => ⟨_, He.frG_in, e, fun a o h => by
    have h1 := He.frG_at _ h
    have h2 := frG_mem _ h
    have h3 := (List.mem_filter.mp h2).2
    unfold notTab at h3
    rw [h1] at h3
    exact h3⟩
  keeps := fun _ _ _ ⟨K, hK, c, d⟩ k => ⟨K, PySem.W.Frag.In.keeps hK k, c, d⟩
theorem obsXG_eq {n : Nat} {gl : Nat → D} {ps : List Pd} {G : List (Str × GI)} {g : Addr → Option Obj} {s : Shared} (h : ∀ a, g a = s.heap.get? a) : obsXG n gl ps G g = (hookX n gl ps G).obs s := by
  have e : g = s.heap.get? := funext h
  rw [e] <;> rfl
/-- all that the walk wants -/
theorem facts {P : Program} {w : World} {K : PySem.W.Frag} {mg : Str → Option Value} {h : Heap} {gl : Nat → D} {ps : List Pd} {G : List (Str × GI)} {n li : Nat} {pl : Pd} (X : K.In h) (N : h.Ns mainGlobals mg) (c : SaysX gl ps G K) (hok : ps.all (fun p => p.ok G) = true)
    (hB : ∀ (i : Nat) (p : Pd), ps[i]? = some p → ∀ fd, FunD K p.d.name p.d.qual p.d.params p.d.body p.d.scope [] [] (He.fAd K p.d.at_) fd → Binds K fd p.ps []) (hl : ps[li]? = some pl) :
    (∀ (i : Nat) (p : Pd), ps[i]? = some p → ∃ fd, FunD K p.d.name p.d.qual p.d.params p.d.body p.d.scope [] [] (He.fAd K p.d.at_) fd) ∧
    ∃ fd : FuncData, FunD K pl.d.name pl.d.qual pl.d.params pl.d.body pl.d.scope [] [] (He.fAd K pl.d.at_) fd ∧ ∀ base : Heap, K.In base → base.Ns mainGlobals mg → (∀ nm ∈ lamNames, ∀ cdv, lamCode K nm = some cdv → ∃ cc P, cdv = .ref cc ∧ codeTab K cdv = some P ∧ LamX.TabB base mg cc P) →
      FnOk P w K mg base CX0 (4 * n) (He.fAd K pl.d.at_) fd pl.ps (spD K (call gl (ps.map (·.fd)) n li)) := by
  have c1 : G.all (glB K gl ps) = true := (and2 (congrArg (fun z : AlX => z.1) c)).1
  have c2 : He.SaysD [] (ps.map (·.d)) K := congrArg (fun z : AlX => z.2) c
  have hk : ∀ p ∈ ps, p.ok G = true := List.all_eq_true.mp hok
  have emp : ∀ p ∈ ps, p.d.dvs K = [] ∧ p.d.kws K = [] := fun p hp => by
    have q := hk p hp
    unfold Pd.ok at q
    simp only [Bool.and_eq_true] at q
    obtain ⟨_, _, _, _, _, _, _, _, q1, q2, _⟩ := q
    unfold He.DefD.dvs He.DefD.kws
    rw [List.isEmpty_iff.mp q1, List.isEmpty_iff.mp q2]
    exact ⟨rfl, rfl⟩
  have ex : ∀ i : Nat, ∃ fd : FuncData, ∀ p : Pd, ps[i]? = some p → FunD K p.d.name p.d.qual p.d.params p.d.body p.d.scope (p.d.dvs K) (p.d.kws K) (He.fAd K p.d.at_) fd := fun i => by
    cases e : ps[i]? with
    | none => exact ⟨PySem.W.fnOf "" "" ⟨[], [], none, [], [], none, []⟩ [] ⟨.function, [], false, false, []⟩ .none .none .none .none none .none .none, fun p hp => by cases hp⟩
    | some p =>
      obtain ⟨fd, F⟩ := c2.def_ i (d := p.d) (by rw [List.getElem?_map, e]; rfl)
      exact ⟨fd, fun p' hp => by cases hp; exact F⟩
  let fds := fun i => Classical.choose (ex i)
  have hF : ∀ (i : Nat) (p : Pd), ps[i]? = some p → FunD K p.d.name p.d.qual p.d.params p.d.body p.d.scope (p.d.dvs K) (p.d.kws K) (He.fAd K p.d.at_) (fds i) := fun i p hp => Classical.choose_spec (ex i) p hp
  have hF0 : ∀ (i : Nat) (p : Pd), ps[i]? = some p → FunD K p.d.name p.d.qual p.d.params p.d.body p.d.scope [] [] (He.fAd K p.d.at_) (fds i) := fun i p hp => by
    have F := hF i p hp
    obtain ⟨e1, e2⟩ := emp p (List.mem_of_getElem? hp)
    rw [e1, e2] at F
    exact F
  exact ⟨fun i p hp => ⟨fds i, hF0 i p hp⟩, fds li, hF0 li pl hl, fun base _ _ hT => fns_ok hT (glB_ok X N c1) hk hF (fun i p hp => hB i p hp _ (hF0 i p hp)) n li pl hl⟩
/-- the law's promise, where defs of the list make a lambda -/
theorem each_of {R : Str → Addr × Addr → Prop} : ∀ {l : List Str}, (∀ nm ∈ l, ∃ p, R nm p) → ∃ cs : List (Addr × Addr), (∀ p ∈ cs, ∃ nm ∈ l, R nm p) ∧ ∀ nm ∈ l, ∃ p ∈ cs, R nm p
  | [], _ => ⟨[], fun p h => by simp at h, fun nm h => by simp at h⟩
  | nm :: l, h => by
    obtain ⟨p, hp⟩ := h nm List.mem_cons_self
    obtain ⟨cs, h1, h2⟩ := each_of (l := l) fun nm' hn => h nm' (List.mem_cons_of_mem _ hn)
    refine ⟨p :: cs, fun q hq => ?_, fun nm' hn => ?_⟩
    · rcases List.mem_cons.mp hq with rfl | hq
      · exact ⟨nm, List.mem_cons_self, hp⟩
      · obtain ⟨nm', h3, h4⟩ := h1 q hq
        exact ⟨nm', List.mem_cons_of_mem _ h3, h4⟩
    · rcases List.mem_cons.mp hn with rfl | hn
      · exact ⟨p, List.mem_cons_self, hp⟩
      · obtain ⟨q, h3, h4⟩ := h2 nm' hn
        exact ⟨q, List.mem_cons_of_mem _ h3, h4⟩
/-- what the head leaves of a def that makes a lambda -/
def LamHd (mg : Str → Option Value) (h : Heap) (nm : Str) : Prop := ∃ (a' c' P' : Addr) (o' : Obj) (fd' : FuncData), mg nm = some (.ref a') ∧ h.get? a' = some o' ∧ o'.data = .func fd' ∧ fd'.code = .ref c' ∧ PySem.W.CodeHd h c' P' ∧ h.get? P' = some { cls := .none, data := .fields #[] }
theorem law_at {l : PySem.W.OpenLaw} {w : World} {K : PySem.W.Frag} {mg : Str → Option Value} {h : Heap} {gl : Nat → D} {ps : List Pd} {G : List (Str × GI)} {n li : Nat} {pl : Pd} {fa : Addr} {x : Str} (X : K.In h) (N : h.Ns mainGlobals mg) (c : SaysX gl ps G K) (nt : NoTab K) (hok : ps.all (fun p => p.ok G) = true)
    (hB : ∀ (i : Nat) (p : Pd), ps[i]? = some p → ∀ fd, FunD K p.d.name p.d.qual p.d.params p.d.body p.d.scope [] [] (He.fAd K p.d.at_) fd → Binds K fd p.ps []) (hl : ps[li]? = some pl) (hx : pl.ps = [x]) (hbd : ∀ fd, FunD K pl.d.name pl.d.qual pl.d.params pl.d.body pl.d.scope [] [] (He.fAd K pl.d.at_) fd → ∀ (s : Shared) (u : Value), BindsTo s fd ⟨[u], []⟩ [(x, u)]) (hfa : mg pl.d.name = some (.ref fa)) (gli : G.lookup pl.d.name = some (.fn li))
    (hlam : ∀ nm ∈ lamNames, ∃ j pj, G.lookup nm = some (.fn j) ∧ ps[j]? = some pj ∧ pj.d.at_ = (nm, none)) (hm : ∀ nm ∈ lamNames, LamHd mg h nm)
    (runs : LawRuns gl (ps.map (·.fd)) n li) : LamX.LawAtS l w K CX0 (4 * n) 63 x mg fa h := by
  obtain ⟨all, fd, F, hF⟩ := facts (P := l.prog) (w := w) (n := n) X N c hok hB hl
  obtain ⟨c1, c2⟩ := and2 (congrArg (fun z : AlX => z.1) c)
  have gok := glB_ok X N c1
  have one := tabsB_ok c2
  have ef : fa = He.fAd K pl.d.at_ := by
    obtain ⟨p, e1, e2⟩ := gok pl.d.name (.fn li) gli
    rw [hl] at e1
    cases e1
    rw [hfa] at e2
    exact PySem.Value.ref.inj (Option.some.inj e2)
  have lcs : ∀ nm ∈ lamNames, ∃ p : Addr × Addr, PySem.W.CodeHd h p.1 p.2 ∧ h.get? p.2 = some { cls := .none, data := .fields #[] } ∧ lamCode K nm = some (.ref p.1) ∧ codeTab K (.ref p.1) = some p.2 := fun nm hn => by
    obtain ⟨a', c', P', o', fd', m1, m2, m3, m4, m5, m6⟩ := hm nm hn
    obtain ⟨j, pj, glj, hj, atj⟩ := hlam nm hn
    have ea : a' = He.fAd K (nm, none) := by
      obtain ⟨p, e1, e2⟩ := gok nm (.fn j) glj
      rw [hj] at e1
      cases e1
      rw [m1, atj] at e2
      exact PySem.Value.ref.inj (Option.some.inj e2)
    refine ⟨(c', P'), m5, m6, ?_⟩
    obtain ⟨fdj, Fj⟩ := all j pj hj
    obtain ⟨oc, od, dV, kV, doc, pm, an, cdv, ct, osl, rfl, lk, hcd, _, _⟩ := Fj.ex
    rw [atj, ← ea] at lk
    have z := X _ _ lk
    rw [m2] at z
    cases z
    cases m3
    have m4 : cdv = .ref c' := m4
    subst m4
    constructor
    · unfold lamCode
      rw [← ea, lk]
    · unfold PySem.W.codeIn at hcd
      dsimp only at hcd
      unfold codeTab
      dsimp only
      cases q : K.lookup c' with
      | none => rw [q] at hcd; cases hcd
      | some oo =>
        rw [q] at hcd
        obtain ⟨cl, dd, dat, sl⟩ := oo
        cases dat <;> dsimp only at hcd <;> try (cases hcd; done)
        rename_i vs
        obtain ⟨o2, vs2, file, tf, flags, tg, inF, text, tt, e1, _, e3, e4, _⟩ := m5
        rw [X _ _ q] at e1
        cases e1
        cases e3
        dsimp only
        rw [e4]
        rfl
  obtain ⟨cs, k1, k2⟩ := each_of lcs
  subst ef
  refine ⟨fd, cs, frzSp (spD K (call gl (ps.map (·.fd)) n li)), fun p hp => ?_, fun p hp => ?_, fun p hp => ?_, fun s u => ?_, fun H a ns hn _ hT hS => ?_, fun base h1 h2 hT => ?_⟩
  · obtain ⟨nm, _, _, m6, _⟩ := k1 p hp
    exact m6
  · obtain ⟨nm, _, _, m6, _⟩ := k1 p hp
    cases q : K.lookup p.2 with
    | none => rfl
    | some o =>
      have z := X _ _ q
      rw [m6] at z
      cases z
      have := nt _ _ q
      cases this
  · obtain ⟨nm, _, m5, _⟩ := k1 p hp
    exact m5
  · exact hbd fd F s u
  · have tab : ∀ nm ∈ lamNames, ∀ P, tabAd K nm = some P → H P = some (.tbl #[]) := fun nm hnm P e => by
      obtain ⟨p, hp, _, _, e1, e2⟩ := k2 nm hnm
      rw [tabAd_of e1, e2] at e
      cases e
      exact hT p hp
    rcases hS with (hS | hS) | hS
    · refine .inr ⟨a, _, hS, fun od => law_sp runs _ a ns hn one (fun nm hnm P e => ?_) (.inl ⟨od, upd_same⟩)⟩
      rw [upd_ne (fun z => by have := tab nm hnm P e; rw [z, hS] at this; cases this)]
      exact tab nm hnm P e
    · exact .inl (law_sp runs H a ns hn one tab (.inl hS))
    · exact .inl (law_sp runs H a ns hn one tab (.inr hS))
  · have F2 := hF base h1 h2 fun nm hnm cdv e => by
      obtain ⟨p, hp, _, _, e1, e2⟩ := k2 nm hnm
      rw [e1] at e
      cases e
      exact ⟨p.1, p.2, rfl, e2, hT p hp⟩
    have F3 := FnOk.freeze F2
    rw [hx] at F3
    exact F3
/-- the end of a law whose program has defs that make a lambda -/
theorem walk_lam {l : PySem.W.OpenLaw} {n k : Nat} {q : Program} {loose : List Str} {XP : (Str → Option Value) → Heap → Prop} {YP : World → Heap → Prop} {d : DefRec} {x : Str}
    (hn : l.most = some n) (hn2 : n ≤ sizeLine) (hdf : d.params.defaults = []) (hr : Room k callerA) (hrec : (lamNames.all fun nm => (recsOf q).any fun e => e.name == nm) = true)
    (F : ∀ (w : World) (mg : Str → Option Value) (fa : Addr) (h : Heap), YP w h → h.Ns mainGlobals mg → mg d.name = some (.ref fa) → (∀ nm ∈ lamNames, LamHd mg h nm) → ∃ K : PySem.W.Frag, K.In h ∧ LamX.LawAtS l w K CX0 k n x mg fa h) :
    PySem.W.WalkO q loose XP YP l.row.toRowW d [] (fun f vs => PySem.call f vs) := by
  refine Att.attach_callB hn hdf fun w s₀ s₁ mg mb fa o pm cd doc a vs ns G Y ho hd hcd hmg hobj hints hlen hbits hg => ?_
  obtain ⟨K, KX, fd, cs, sp, hT, nT, C, hb, hsp, hF⟩ := F w mg fa _ Y G.T.g hmg fun nm hnm => by
    obtain ⟨dL, hm, hn1⟩ := List.any_eq_true.mp (List.all_eq_true.mp hrec nm hnm)
    have hn3 : dL.name = nm := beq_iff_eq.mp hn1
    obtain ⟨a', o', fd', c', P', h1, h2, h3, h4, h5, h6⟩ := G.T.tab dL hm
    rw [hn3] at h1
    exact ⟨a', c', P', o', fd', h1, h2, h3, h4, PySem.W.CodeHd.of h5 h6, h6.2⟩
  exact LamX.law_callTs KX G.T.g G.T.b G.T.builtins G.T.nolimit hg hT nT C G.T.bmain hobj hints (Nat.le_trans hlen hn2) hr hF hb (fun H hH hS => hsp H a ns hlen hbits hH hS) fun H e s' z => z
end Dl
end

section
set_option Elab.async false
set_option linter.all false
namespace K76
open PySem PySem.Spec L2 Dl
theorem runs : LawRuns gl fds 48 f_law := fun ns hn => (law_wq (n := 0) hn fun _ => rfl).out
end K76
end

set_option Elab.async false
set_option linter.all false
set_option maxRecDepth 100000
set_option maxHeartbeats 4000000
namespace K76
open PySem PySem.Spec PyProof.Rows L2 Dl
abbrev PW : PySem.Program := PySem.Challenge.pw_idealstold_k76_papers_written_and_read
def topS (i : Nat) : Stmt := PW.main.body.getD i (.Pass ⟨0, 0, 0, 0⟩)
def clsB (s : Stmt) : List Stmt := match s with | .ClassDef _ _ _ b _ _ _ _ _ _ _ => b | _ => []
def topM (i j : Nat) : Stmt := (clsB (topS i)).getD j (.Pass ⟨0, 0, 0, 0⟩)
def p__wall : Pd := ⟨⟨("_wall", none), "_wall", "_wall", defArgs (topS 0), defBody (topS 0), defScope (topS 0), [], []⟩, ["k"], d__wall⟩
def p_run_end : Pd := ⟨⟨("run_end", none), "run_end", "run_end", defArgs (topS 8), defBody (topS 8), defScope (topS 8), [], []⟩, ["line", "index", "chars", "end"], d_run_end⟩
def p_token_from : Pd := ⟨⟨("token_from", none), "token_from", "token_from", defArgs (topS 9), defBody (topS 9), defScope (topS 9), [], []⟩, ["line", "index", "char", "end"], d_token_from⟩
def p_tokens_of : Pd := ⟨⟨("tokens_of", none), "tokens_of", "tokens_of", defArgs (topS 10), defBody (topS 10), defScope (topS 10), [], []⟩, ["line", "tokens", "index", "kind", "value", "end"], d_tokens_of⟩
def p_Line___init__ : Pd := ⟨⟨("Line", some ("__init__" : PySem.Str)), "__init__", "Line.__init__", defArgs (topM 11 0), defBody (topM 11 0), defScope (topM 11 0), [], []⟩, ["self", "text", "row_number"], d_Line___init__⟩
def p_Line_kind_here : Pd := ⟨⟨("Line", some ("kind_here" : PySem.Str)), "kind_here", "Line.kind_here", defArgs (topM 11 1), defBody (topM 11 1), defScope (topM 11 1), [], []⟩, ["self"], d_Line_kind_here⟩
def p_Line_value_here : Pd := ⟨⟨("Line", some ("value_here" : PySem.Str)), "value_here", "Line.value_here", defArgs (topM 11 2), defBody (topM 11 2), defScope (topM 11 2), [], []⟩, ["self"], d_Line_value_here⟩
def p_Line_refuse : Pd := ⟨⟨("Line", some ("refuse" : PySem.Str)), "refuse", "Line.refuse", defArgs (topM 11 3), defBody (topM 11 3), defScope (topM 11 3), [], []⟩, ["self"], d_Line_refuse⟩
def p_Line_refuse_at : Pd := ⟨⟨("Line", some ("refuse_at" : PySem.Str)), "refuse_at", "Line.refuse_at", defArgs (topM 11 4), defBody (topM 11 4), defScope (topM 11 4), [], []⟩, ["self", "index"], d_Line_refuse_at⟩
def p_Line_take : Pd := ⟨⟨("Line", some ("take" : PySem.Str)), "take", "Line.take", defArgs (topM 11 5), defBody (topM 11 5), defScope (topM 11 5), [], []⟩, ["self", "kind", "value"], d_Line_take⟩
def p_Line_take_one : Pd := ⟨⟨("Line", some ("take_one" : PySem.Str)), "take_one", "Line.take_one", defArgs (topM 11 6), defBody (topM 11 6), defScope (topM 11 6), [], []⟩, ["self", "words"], d_Line_take_one⟩
def p_Line_take_signed : Pd := ⟨⟨("Line", some ("take_signed" : PySem.Str)), "take_signed", "Line.take_signed", defArgs (topM 11 7), defBody (topM 11 7), defScope (topM 11 7), [], []⟩, ["self"], d_Line_take_signed⟩
def p_Line_close : Pd := ⟨⟨("Line", some ("close" : PySem.Str)), "close", "Line.close", defArgs (topM 11 8), defBody (topM 11 8), defScope (topM 11 8), [], []⟩, ["self"], d_Line_close⟩
def p_leaf_text : Pd := ⟨⟨("leaf_text", none), "leaf_text", "leaf_text", defArgs (topS 14), defBody (topS 14), defScope (topS 14), [], []⟩, ["thing"], d_leaf_text⟩
def p_write_paper : Pd := ⟨⟨("write_paper", none), "write_paper", "write_paper", defArgs (topS 15), defBody (topS 15), defScope (topS 15), [], []⟩, ["paper", "told", "waiting", "thing", "behind", "index"], d_write_paper⟩
def p_take_leaf : Pd := ⟨⟨("take_leaf", none), "take_leaf", "take_leaf", defArgs (topS 16), defBody (topS 16), defScope (topS 16), [], []⟩, ["line", "word"], d_take_leaf⟩
def p_read_paper : Pd := ⟨⟨("read_paper", none), "read_paper", "read_paper", defArgs (topS 17), defBody (topS 17), defScope (topS 17), [], []⟩, ["text", "line", "levels", "found"], d_read_paper⟩
def p__law_draws : Pd := ⟨⟨("_law_draws", none), "_law_draws", "_law_draws", defArgs (topS 19), defBody (topS 19), defScope (topS 19), [], []⟩, ["script", "many", "cells", "left", "draws", "k", "place", "mixed", "cell"], d__law_draws⟩
def p__law_take : Pd := ⟨⟨("_law_take", none), "_law_take", "_law_take", defArgs (topS 20), defBody (topS 20), defScope (topS 20), [], []⟩, ["draws", "many"], d__law_take⟩
def p__law_pick : Pd := ⟨⟨("_law_pick", none), "_law_pick", "_law_pick", defArgs (topS 21), defBody (topS 21), defScope (topS 21), [], []⟩, ["draws", "row"], d__law_pick⟩
def p__law_same : Pd := ⟨⟨("_law_same", none), "_law_same", "_law_same", defArgs (topS 22), defBody (topS 22), defScope (topS 22), [], []⟩, ["actual", "due", "k"], d__law_same⟩
def p__law_words : Pd := ⟨⟨("_law_words", none), "_law_words", "_law_words", defArgs (topS 23), defBody (topS 23), defScope (topS 23), [], []⟩, ["draws", "many", "words", "k", "size", "word", "j", "other"], d__law_words⟩
def p__law_paper_text : Pd := ⟨⟨("_law_paper_text", none), "_law_paper_text", "_law_paper_text", defArgs (topS 24), defBody (topS 24), defScope (topS 24), [], []⟩, ["thing", "one"], d__law_paper_text⟩
def p__law_are_apart : Pd := ⟨⟨("_law_are_apart", none), "_law_are_apart", "_law_are_apart", defArgs (topS 25), defBody (topS 25), defScope (topS 25), [], []⟩, ["token", "other", "letters", "figures"], d__law_are_apart⟩
def p__law_spread : Pd := ⟨⟨("_law_spread", none), "_law_spread", "_law_spread", defArgs (topS 26), defBody (topS 26), defScope (topS 26), [], []⟩, ["draws", "tokens", "text", "k"], d__law_spread⟩
def p__law_run : Pd := ⟨⟨("_law_run", none), "_law_run", "_law_run", defArgs (topS 27), defBody (topS 27), defScope (topS 27), [], []⟩, ["text", "place", "signs", "end", "k"], d__law_run⟩
def p__law_tokens_of : Pd := ⟨⟨("_law_tokens_of", none), "_law_tokens_of", "_law_tokens_of", defArgs (topS 28), defBody (topS 28), defScope (topS 28), [], []⟩, ["text", "rows", "place", "step", "sign", "end"], d__law_tokens_of⟩
def p__law_thing : Pd := ⟨⟨("_law_thing", none), "_law_thing", "_law_thing", defArgs (topS 29), defBody (topS 29), defScope (topS 29), [], []⟩, ["draws", "words", "depth", "kind", "k"], d__law_thing⟩
def p__law_paper_tokens : Pd := ⟨⟨("_law_paper_tokens", none), "_law_paper_tokens", "_law_paper_tokens", defArgs (topS 30), defBody (topS 30), defScope (topS 30), [], []⟩, ["thing", "row"], d__law_paper_tokens⟩
def p_law : Pd := ⟨⟨("law", none), "law", "law", defArgs (topS 31), defBody (topS 31), defScope (topS 31), [], []⟩, ["script", "draws", "words", "things", "k", "deep", "thing", "told", "word"], d_law⟩
def pds : List Pd := [p__wall, p_run_end, p_token_from, p_tokens_of, p_Line___init__, p_Line_kind_here, p_Line_value_here, p_Line_refuse, p_Line_refuse_at, p_Line_take, p_Line_take_one, p_Line_take_signed, p_Line_close, p_leaf_text, p_write_paper, p_take_leaf, p_read_paper, p__law_draws, p__law_take, p__law_pick, p__law_same, p__law_words, p__law_paper_text, p__law_are_apart, p__law_spread, p__law_run, p__law_tokens_of, p__law_thing, p__law_paper_tokens, p_law]
def GG : List (PySem.Str × GI) := [(("DIGITS" : PySem.Str), (.cst 1 : GI)), (("LETTERS" : PySem.Str), (.cst 0 : GI)), (("Line" : PySem.Str), (.cls f_Line___init__ : GI)), (("Line.close" : PySem.Str), (.mth "Line" "close" f_Line_close : GI)), (("Line.kind_here" : PySem.Str), (.mth "Line" "kind_here" f_Line_kind_here : GI)), (("Line.refuse" : PySem.Str), (.mth "Line" "refuse" f_Line_refuse : GI)), (("Line.take" : PySem.Str), (.mth "Line" "take" f_Line_take : GI)), (("Line.take_signed" : PySem.Str), (.mth "Line" "take_signed" f_Line_take_signed : GI)), (("Line.value_here" : PySem.Str), (.mth "Line" "value_here" f_Line_value_here : GI)), (("Line:row_number" : PySem.Str), (.noat "Line" "row_number" : GI)), (("Line:taken" : PySem.Str), (.noat "Line" "taken" : GI)), (("Line:tokens" : PySem.Str), (.noat "Line" "tokens" : GI)), (("NONE_WORD" : PySem.Str), (.cst 3 : GI)), (("SIGNS" : PySem.Str), (.cst 2 : GI)), (("_law_are_apart" : PySem.Str), (.fn f__law_are_apart : GI)), (("_law_draws" : PySem.Str), (.fn f__law_draws : GI)), (("_law_paper_text" : PySem.Str), (.fn f__law_paper_text : GI)), (("_law_paper_tokens" : PySem.Str), (.fn f__law_paper_tokens : GI)), (("_law_pick" : PySem.Str), (.fn f__law_pick : GI)), (("_law_run" : PySem.Str), (.fn f__law_run : GI)), (("_law_same" : PySem.Str), (.fn f__law_same : GI)), (("_law_spread" : PySem.Str), (.fn f__law_spread : GI)), (("_law_take" : PySem.Str), (.fn f__law_take : GI)), (("_law_thing" : PySem.Str), (.fn f__law_thing : GI)), (("_law_tokens_of" : PySem.Str), (.fn f__law_tokens_of : GI)), (("_law_words" : PySem.Str), (.fn f__law_words : GI)), (("_wall" : PySem.Str), (.fn f__wall : GI)), (("bool" : PySem.Str), (.free : GI)), (("int" : PySem.Str), (.free : GI)), (("isinstance" : PySem.Str), (.free : GI)), (("law" : PySem.Str), (.fn f_law : GI)), (("leaf_text" : PySem.Str), (.fn f_leaf_text : GI)), (("len" : PySem.Str), (.free : GI)), (("list" : PySem.Str), (.free : GI)), (("max" : PySem.Str), (.free : GI)), (("range" : PySem.Str), (.free : GI)), (("read_paper" : PySem.Str), (.fn f_read_paper : GI)), (("run_end" : PySem.Str), (.fn f_run_end : GI)), (("str" : PySem.Str), (.free : GI)), (("take_leaf" : PySem.Str), (.fn f_take_leaf : GI)), (("token_from" : PySem.Str), (.fn f_token_from : GI)), (("tokens_of" : PySem.Str), (.fn f_tokens_of : GI)), (("tuple" : PySem.Str), (.free : GI)), (("write_paper" : PySem.Str), (.fn f_write_paper : GI))]

theorem oks : pds.all (fun p => p.ok GG) = true := by decide +kernel
abbrev RWL : PySem.W.OpenLaw := PySem.Challenge.rw_idealstold_k76_papers_written_and_read
abbrev R : PySem.W.OpenRow := PySem.W.OpenLaw.row RWL
abbrev hk : PySem.W.Hook := hookX 5 gl pds GG
def ob (s : PySem.W.SharedT) : AlX := obsXG 5 gl pds GG (HandSHeadRun.getT s)
theorem ob_eq (s : PySem.W.SharedT) : ob s = hk.obs s.abs := obsXG_eq (HandSHeadRun.getT_eq s)
def loose : List PySem.Str := (["_wall", "run_end", "token_from", "tokens_of", "leaf_text", "write_paper", "take_leaf", "read_paper", "_law_draws", "_law_take", "_law_pick", "_law_same", "_law_words", "_law_paper_text", "_law_are_apart", "_law_spread"] : List PySem.Str) ++ ([ "_law_run", "_law_tokens_of", "_law_thing", "_law_paper_tokens", "IdealError", "BadText", "Line", "LETTERS", "DIGITS", "SIGNS", "NONE_WORD"] : List PySem.Str)
theorem run (w : World) : HandSHeadRun.RunEqI R (PySem.W.view R.prog [31]) hk ob 1680 loose w := by
  unfold HandSHeadRun.RunEqI
  kernel_rfl
theorem lams : ∀ nm ∈ Dl.lamNames, ∃ j pj, GG.lookup nm = some (.fn j) ∧ pds[j]? = some pj ∧ pj.d.at_ = (nm, none) := by
  intro nm h
  unfold Dl.lamNames at h
  cases h
theorem binds : ∀ (K : PySem.W.Frag) (i : Nat) (p : Pd), pds[i]? = some p → ∀ fd, FunD K p.d.name p.d.qual p.d.params p.d.body p.d.scope [] [] (He.fAd K p.d.at_) fd → Binds K fd p.ps [] := by
  intro K i p h fd F
  match i, h with
  | 0, h => cases h; exact F.bindsN fun _ _ _ _ _ _ us hl => match us, hl with | [_], _ => rfl
  | 1, h => cases h; exact F.bindsN fun _ _ _ _ _ _ us hl => match us, hl with | [_, _, _], _ => rfl
  | 2, h => cases h; exact F.bindsN fun _ _ _ _ _ _ us hl => match us, hl with | [_, _], _ => rfl
  | 3, h => cases h; exact F.bindsN fun _ _ _ _ _ _ us hl => match us, hl with | [_], _ => rfl
  | 4, h => cases h; exact F.bindsN fun _ _ _ _ _ _ us hl => match us, hl with | [_, _, _], _ => rfl
  | 5, h => cases h; exact F.bindsN fun _ _ _ _ _ _ us hl => match us, hl with | [_], _ => rfl
  | 6, h => cases h; exact F.bindsN fun _ _ _ _ _ _ us hl => match us, hl with | [_], _ => rfl
  | 7, h => cases h; exact F.bindsN fun _ _ _ _ _ _ us hl => match us, hl with | [_], _ => rfl
  | 8, h => cases h; exact F.bindsN fun _ _ _ _ _ _ us hl => match us, hl with | [_, _], _ => rfl
  | 9, h => cases h; exact F.bindsN fun _ _ _ _ _ _ us hl => match us, hl with | [_, _], _ => rfl
  | 10, h => cases h; exact F.bindsN fun _ _ _ _ _ _ us hl => match us, hl with | [_, _], _ => rfl
  | 11, h => cases h; exact F.bindsN fun _ _ _ _ _ _ us hl => match us, hl with | [_], _ => rfl
  | 12, h => cases h; exact F.bindsN fun _ _ _ _ _ _ us hl => match us, hl with | [_], _ => rfl
  | 13, h => cases h; exact F.bindsN fun _ _ _ _ _ _ us hl => match us, hl with | [_], _ => rfl
  | 14, h => cases h; exact F.bindsN fun _ _ _ _ _ _ us hl => match us, hl with | [_], _ => rfl
  | 15, h => cases h; exact F.bindsN fun _ _ _ _ _ _ us hl => match us, hl with | [_], _ => rfl
  | 16, h => cases h; exact F.bindsN fun _ _ _ _ _ _ us hl => match us, hl with | [_], _ => rfl
  | 17, h => cases h; exact F.bindsN fun _ _ _ _ _ _ us hl => match us, hl with | [_, _], _ => rfl
  | 18, h => cases h; exact F.bindsN fun _ _ _ _ _ _ us hl => match us, hl with | [_, _], _ => rfl
  | 19, h => cases h; exact F.bindsN fun _ _ _ _ _ _ us hl => match us, hl with | [_, _], _ => rfl
  | 20, h => cases h; exact F.bindsN fun _ _ _ _ _ _ us hl => match us, hl with | [_, _], _ => rfl
  | 21, h => cases h; exact F.bindsN fun _ _ _ _ _ _ us hl => match us, hl with | [_, _], _ => rfl
  | 22, h => cases h; exact F.bindsN fun _ _ _ _ _ _ us hl => match us, hl with | [_], _ => rfl
  | 23, h => cases h; exact F.bindsN fun _ _ _ _ _ _ us hl => match us, hl with | [_, _], _ => rfl
  | 24, h => cases h; exact F.bindsN fun _ _ _ _ _ _ us hl => match us, hl with | [_, _], _ => rfl
  | 25, h => cases h; exact F.bindsN fun _ _ _ _ _ _ us hl => match us, hl with | [_, _, _], _ => rfl
  | 26, h => cases h; exact F.bindsN fun _ _ _ _ _ _ us hl => match us, hl with | [_], _ => rfl
  | 27, h => cases h; exact F.bindsN fun _ _ _ _ _ _ us hl => match us, hl with | [_, _, _], _ => rfl
  | 28, h => cases h; exact F.bindsN fun _ _ _ _ _ _ us hl => match us, hl with | [_], _ => rfl
  | 29, h => cases h; exact F.bindsN fun _ _ _ _ _ _ us hl => match us, hl with | [_], _ => rfl
  | i + 30, h => cases h
end K76

open PySem PySem.W PySem.Calls PyProof.Rows
set_option maxHeartbeats 0 in
theorem PySem.Challenge.cw_idealstold_k76_papers_written_and_read_holds : PySem.Challenge.rw_idealstold_k76_papers_written_and_read.Holds := by
  w_on; o_law
  refine HandSHeadRun.head_imp (r := OpenLaw.row PySem.Challenge.rw_idealstold_k76_papers_written_and_read) (q := view (OpenLaw.row PySem.Challenge.rw_idealstold_k76_papers_written_and_read).prog [31]) (H := K76.hk) (ob := K76.ob) (M := 1680) (loose := K76.loose) (d := HandSHeadRun.topDef (OpenLaw.row PySem.Challenge.rw_idealstold_k76_papers_written_and_read).prog 31) (kwd := []) K76.ob_eq
    K76.run (by kernel_rfl) (by kernel_rfl) (by kernel_rfl) (by rfl) (by first | assumption | decide +kernel) (by decide +kernel) ⟨rfl, rfl, rfl, rfl, rfl, by decide +kernel⟩ ?hw ?hc
  case hw => w_witness2
  case hc =>
    refine Dl.walk_lam (l := PySem.Challenge.rw_idealstold_k76_papers_written_and_read) (n := 63) (k := 4 * 48) (x := "script") rfl (by decide) (by kernel_rfl) ⟨rfl, by decide, by decide⟩ (by kernel_rfl) ?F
    intro w mg fa h Y G hmg0 hL
    obtain ⟨K, KX, c, nt⟩ := Y
    have hmg : mg ("law" : PySem.Str) = some (.ref fa) := by
      have e : (HandSHeadRun.topDef (OpenLaw.row PySem.Challenge.rw_idealstold_k76_papers_written_and_read).prog 31).name = ("law" : PySem.Str) := by kernel_rfl
      rw [← e]
      exact hmg0
    exact ⟨K, KX, Dl.law_at (n := 48) (li := 29) (pl := K76.p_law) KX G c nt K76.oks (K76.binds K) rfl rfl
      (fun fd F s v => (L2.FunD.bindsA (ps := ["script"]) F fun _ _ _ _ _ _ us hl => match us, hl with | [_], _ => rfl) s [v] rfl) hmg (by decide +kernel) K76.lams hL K76.runs⟩
