import PyProof.Rows.All
import Wide.All
import OpenK.AllK
import Wide.FinOn
import KE.KStateDown
import Lean
import HandS.Head3
import HandS.ForMost
import HandS.TupMul
import HandS.TupAny
import HandS.TupLe
import HandS.Deep
import KE.LtSeq
import KE.DataFind
import HandS.Style
import KE.SortKeyHeap
import HandS.SortKw
import KE.KDictKeyed
import HandS.Dict
import HandS.Keys
import HandS.EndTab
import HandS.Nested
import HandS.Words
import HandS.Iter
import KE.SortData
import HandS.HeadHook1
import HandS.HeadHook2
import HandS.Wide
import HandS.Gcd
import HandS.IsInst
import KE.DataMinMax
import HandS.DictComp
import HandS.Flow
import HandS.Zip
import HandS.TryOnly
import HandS.Conv
import HandS.Defaults
import HandS.HeadEnd
import HandS.Head0
import HandS.Head1
import HandS.Head2
import PySem.Challenge.RW_idealstold_k05_whole_reckoning_with_poly

section
set_option Elab.async false
set_option linter.all false
set_option maxRecDepth 100000
set_option maxHeartbeats 4000000
/-! rules that the hand layer lacks: t[::-1], t * 1, sum of a tuple, t > u -/
namespace Dl
open PySem PySem.Spec PyProof.Rows L2 HT

/-! ### t[::-1] of a tuple -/
section
variable {prog : Program} {w : World} {A : Around} {E : Value → Shared → Prop} {s : Shared}
theorem sliceApplied_rev {sl : Addr} {vl vu vs : Value} {n : Nat} {Q : Int × Int × Nat → Shared → Prop} (hs : s.heap.IsSliceOf sl vl vu vs) (pl : IsPart vl none) (pu : IsPart vu none) (ps : IsPart vs (some (-1)))
    (h : Q ((n : Int) - 1, -1, n) s) : wpAny (model prog w) A (Builtin.Slice.sliceApplied (.ref sl) (pure (n : Int))) Q E s := by
  obtain ⟨os, hos, hcs, hds⟩ := id hs
  unfold Builtin.Slice.sliceApplied Builtin.Slice.sliceFields
  refine wpAny_bind (wpAny_bind (wpAny_field hos hds (x := vl) rfl (wpAny_bind (wpAny_field hos hds (x := vu) rfl (wpAny_bind (wpAny_field hos hds (x := vs) rfl (wpAny_pure ?_)))))))
  refine wpAny_bind (slicePart_ ps ?_)
  show wpAny _ _ (if ((-1 : Int) == 0) = true then _ else _) _ _ s
  rw [if_neg (by decide)]
  refine wpAny_bind (slicePart_ pl (wpAny_bind (slicePart_ pu (wpAny_bind (wpAny_pure ?_)))))
  have e : Builtin.Slice.slicePlaces ((n : Int) - 1) (-1) (-1) = n := by
    unfold Builtin.Slice.slicePlaces
    simp only [show ¬ ((-1 : Int) > 0) by decide, if_false, show (- (-1 : Int)) = 1 by decide, Int.ediv_one]
    split <;> omega
  show wpAny _ _ (pure ((n : Int) - 1, (-1 : Int), Builtin.Slice.slicePlaces ((n : Int) - 1) (-1) (-1))) _ _ s
  rw [e]
  exact wpAny_pure h
theorem fm_congr {α β : Type} {f g : α → Option β} : ∀ l : List α, (∀ x ∈ l, f x = g x) → l.filterMap f = l.filterMap g
  | [], _ => rfl
  | a :: l, h => by rw [List.filterMap_cons, List.filterMap_cons, h a List.mem_cons_self, fm_congr l fun x hx => h x (List.mem_cons_of_mem _ hx)]
theorem pick_rev (items : Array Value) : ((List.range items.size).filterMap fun (k : Nat) => items[(((items.size : Int) - 1) + (k : Int) * (-1)).toNat]?).toArray = items.toList.reverse.toArray := by
  have e : ((List.range items.size).filterMap fun (k : Nat) => items[(((items.size : Int) - 1) + (k : Int) * (-1)).toNat]?) = ((List.range items.size).map fun k => items.size - 1 - k).filterMap (items[·]?) := by
    rw [List.filterMap_map]
    refine fm_congr _ fun k hk => ?_
    have := List.mem_range.mp hk
    show items[(((items.size : Int) - 1) + (k : Int) * (-1)).toNat]? = items[items.size - 1 - k]?
    rw [show (((items.size : Int) - 1) + (k : Int) * (-1)).toNat = items.size - 1 - k by omega]
  rw [e, PySem.W.krv_range, List.filterMap_reverse, PySem.W.krv_all]
theorem getItem_tuple_rev {t sl : Addr} {items : Array Value} {vl vu vs : Value} {Q : Value → Shared → Prop} (ht : IsTup s.heap t items) (hs : s.heap.IsSliceOf sl vl vu vs) (pl : IsPart vl none) (pu : IsPart vu none) (ps : IsPart vs (some (-1)))
    (h : Q (.ref s.heap.objs.size) { s with heap := s.heap.push { cls := .type "tuple", data := .seq items.toList.reverse.toArray } })
    (hsz : items.size ≤ sizeLine) : wpAny (model prog w) A (getItem (.ref t) (.ref sl)) Q E s := by
  have htake : sizeOk (.seq items.toList.reverse.toArray) := by
    show items.toList.reverse.toArray.size ≤ sizeLine
    rw [List.size_toArray, List.length_reverse, Array.length_toList]
    exact hsz
  obtain ⟨os, hos, hcs, hds⟩ := id hs
  have hTs : s.TypeIs (.ref sl) "slice" := ⟨os, hos, hcs⟩
  unfold getItem
  try with_reducible refine wpAny_holding ?_
  first | refine wpAny_bind (wpAny_pure ?_) | skip
  refine wpAny_bind (wpAny_sequenceKey ht.typeIs (by decide) ?_)
  refine wpAny_bind (wpAny_callSpecial?_slot (name := Str.ofString "__getitem__") ht.typeIs PyProof.Rows.slot_tuple_getitem
    (wpAny_call_entry PyProof.Rows.slot_tuple_getitem ht.typeIs entry_tuple_getitem ?_ (args_tuple_getitem _ _)))
  show wpAny _ _ (Builtin.Tuple.tupleItemsOf (.ref t) >>= _) _ _ s
  refine wpAny_bind (tupleItemsOf_ ht ?_)
  refine wpAny_bind (wpAny_typeOf hTs ?_)
  rw [if_pos (by decide)]
  refine wpAny_bind (sliceApplied_rev hs pl pu ps ?_)
  have hno : ¬ ((((items.size : Int) - 1) == 0 && (-1 : Int) == 1 && items.size == items.size) = true) := by
    intro q
    rw [Bool.and_eq_true, Bool.and_eq_true] at q
    exact absurd q.1.2 (by decide)
  show wpAny _ _ (if (((items.size : Int) - 1) == 0 && (-1 : Int) == 1 && items.size == items.size) = true then _ else _) _ _ s
  rw [if_neg hno, pick_rev]
  first
    | exact wpAny_bind (m := Builtin.Tuple.tupleExact _) (wpAny_newObj_type (wpAny_pure ⟨_, rfl, wpAny_pure h⟩) htake)
    | exact wpAny_bind (m := Builtin.Tuple.tupleExact _) (wpAny_newObj_type (wpAny_bind (wpAny_pure (wpAny_pure ⟨_, rfl, wpAny_pure h⟩))) htake)
    | exact wpAny_bind (wpAny_bind (m := Builtin.Tuple.tupleExact _) (wpAny_newObj_type (wpAny_pure (wpAny_pure ⟨_, rfl, wpAny_pure h⟩)) htake))
    | exact wpAny_bind (wpAny_bind (m := Builtin.Tuple.tupleExact _) (wpAny_newObj_type (wpAny_pure ⟨_, rfl, wpAny_pure h⟩) htake))
/-! ### sum of a tuple -/
theorem sum_rawT {l : Addr} {its : List Value} {ns : List Int} {Q : Value → Shared → Prop} (hh : A.handled = none) (hl : s.heap.IsTuple l its.toArray) (hi : IntsAre its ns)
    (h : ∀ h' tk t', (∀ b o, s.heap.get? b = some o → h'.get? b = some o) → Q (.int ns.sum t') { s with heap := h', toks := tk }) : wpAny (model prog w) A (call (.builtin "sum") [.ref l]) Q E s := by
  obtain ⟨xs, e⟩ := hi.allInts.items
  have hn : numsOf (intItems xs).toList = ns := by rw [← e]; exact hi.numsOf
  rw [nums_intItems] at hn
  rw [e] at hl
  have hlt : l < s.heap.objs.size := by obtain ⟨_, e, _⟩ := hl; exact Heap.lt_size e
  have kp : ∀ b o, s.heap.get? b = some o → (s.heap.push { cls := .type "tuple_iterator", data := .fields #[.ref l, .int 0 0] }).get? b = some o := fun b o e => Heap.get?_push_of_some _ e
  refine call_sum_walkG (wpAny_pyIter_tuple hl ?_)
  refine ⟨_, [s.heap.objs.size, l], [s.heap.objs.size], _, _, _, numAt xs, rfl, Walks.tuple (A := A.in1) hh s.heap.objs.size l (Nat.ne_of_lt hlt) (intItems xs), ⟨⟨_, Heap.get?_push_size _ rfl, rfl, rfl⟩, ?_⟩, fun b hb => ?_, (fun _ _ => intItems_at), fun h' tk t' hk => ?_⟩
  · obtain ⟨o, e1, e2⟩ := hl
    exact ⟨o, kp _ _ e1, e2⟩
  · show b < (s.heap.push _).objs.size
    rw [Heap.size_push]
    rcases List.mem_cons.mp hb with rfl | hb
    · exact Nat.lt_succ_self _
    · rcases List.mem_cons.mp hb with rfl | hb
      · exact Nat.lt_succ_of_lt hlt
      · cases hb
  · have := h h' tk t' fun b o e => hk b o (by simp; exact Nat.ne_of_lt (Heap.lt_size e)) (kp _ _ e)
    rw [← hn] at this
    simpa [preSum_eq, intItems, List.take_of_length_le] using this
/-! ### t * 1 -/
theorem tuple_mul1 (l : Addr) (items : Array Value) (n : Nat) (dd : Option Addr) (sl : Array (Option Value)) (u : Tok) :
    Meets (Builtin.«tuple.__mul__» ⟨[.ref l, .int 1 u], []⟩) (fun _ R s => s.heap.get? l = some { cls := .type "tuple", dict := dd, data := .seq items n, slots := sl } ∧
      R (.ok (.ret (Value.ref l))) s) :=
  .of_wp fun prog w A R s h => by
    obtain ⟨hp, g, d, tk, os⟩ := s
    obtain ⟨hl, h⟩ := h
    have f1 := AutoSeq1.idx_int
    have c1 : (items.isEmpty || (1 : Int) == 1) = true := by simp
    wp_walk using wpAny_loadPart' hl
    repeat (first
      | (refine wpAny_ite_false (decide_eq_false (by decide)) ?_; wp_walk using wpAny_loadPart' hl)
      | (refine wpAny_ite_true (decide_eq_true c1) ?_; wp_walk using wpAny_loadPart' hl))
    exact ⟨_, rfl, h⟩
end
section
variable {X : Cx}
def tRevT (K : PySem.W.Frag) (te : TE) : TE := fun σ H Q => te σ H fun x H1 => ∃ a xs, x = .ref a ∧ SqT K H1 a xs ∧ ∀ p, H1 p = none → Q (.ref p) (upd H1 p (.tup xs.reverse))
def rRepT1 (K : PySem.W.Frag) : R2 := fun x y H Q => ∃ l xs, x = .ref l ∧ y = .int 1 ∧ SqT K H l xs ∧ Q (.ref l) H
theorem op_repT1 : OpR X (binaryOp .Mult) (rRepT1 X.K) := by
  intro pins s σ H x y v u Q I rx ry h
  obtain ⟨l, xs, rfl, rfl, hT, q⟩ := h
  cases rx
  obtain ⟨t, rfl⟩ := ry
  obtain ⟨its, r, ⟨⟨cls, dd, data, sl⟩, ho, hc, n, hd⟩, hs⟩ := I.tuple hT
  simp only at hc hd
  subst hc hd
  refine wpAny_binaryOp_repeat_ref (T := "tuple") (U := "int") (by decide) ⟨_, ho, rfl⟩ (fun s' => typeIs_int s' 1 t) noFill_tuple_mul F.fills_int_mul F.slot_int_rmul repeat_tuple F.slot_int_index.lookup
    (call_meets F.slot_int_rmul (typeIs_int s 1 t) F.entry_int_rmul (F.args_int_rmul_2 _ _) (int_rmul_tuple 1 t l its.toArray n dd sl)
      ⟨ho, rfl, ⟨_, ho, rfl⟩, call_meets F.slot_tuple_mul ⟨_, ho, rfl⟩ F.entry_tuple_mul (F.args_tuple_mul_2 _ _) (tuple_mul1 l its.toArray n dd sl t) ⟨ho, ?_⟩⟩)
  exact ⟨.ref l, H, I, rfl, q⟩
def rSumT (K : PySem.W.Frag) : List V → Hp → VK → Prop := fun vs H Q => ∃ (a : Addr) (ns : List Int), vs = [V.ref a] ∧ SqT K H a (ns.map V.int) ∧ Q (.int ns.sum) H
theorem cr_sumT (hc : X.calm = true) : CallR X (.builtin "sum") (rSumT X.K) := by
  intro pins s σ H vs us Q I r h
  obtain ⟨a, ns, rfl, hs, q⟩ := h
  obtain ⟨its, rv, hl, _⟩ := I.tuple hs
  rw [Vals.ref1 r]
  exact sum_rawT (I.ok.hd hc) hl rv.ints fun h' tk t' hk => ⟨.int _, H, I.kept hk, ⟨_, rfl⟩, q⟩
/-- lexicographic order of lists of ints -/
def lexC : List Int → List Int → Ordering
  | [], [] => .eq
  | [], _ :: _ => .lt
  | _ :: _, [] => .gt
  | x :: xs, y :: ys => if x < y then .lt else if y < x then .gt else lexC xs ys
theorem lexAt_gt (ns ms : List Int) : ∀ (k i : Nat), k + i = min ns.length ms.length →
    Ob.lexAt (fun j => decide (ns.getD j 0 = ms.getD j 0)) (fun j => decide (ms.getD j 0 < ns.getD j 0)) (decide (ns.length > ms.length)) i k = (lexC (ns.drop i) (ms.drop i) == .gt)
  | 0, i, h => by
    rw [Ob.lexAt_zero]
    by_cases h1 : ns.length > ms.length
    · rw [decide_eq_true h1]
      have e : i = ms.length := by omega
      rw [e, List.drop_length]
      cases q : ns.drop ms.length with
      | nil => have := List.drop_eq_nil_iff.mp q; omega
      | cons a b => rfl
    · rw [decide_eq_false h1]
      have e : i = ns.length := by omega
      rw [e, List.drop_length]
      cases q : ms.drop ns.length with
      | nil => rfl
      | cons a b => rfl
  | k + 1, i, h => by
    have h1 : i < ns.length := by omega
    have h2 : i < ms.length := by omega
    rw [Ob.lexAt_succ, List.drop_eq_getElem_cons h1, List.drop_eq_getElem_cons h2]
    have g1 : ns.getD i 0 = ns[i] := by simp [h1]
    have g2 : ms.getD i 0 = ms[i] := by simp [h2]
    simp only [g1, g2]
    by_cases he : ns[i] = ms[i]
    · simp only [he, decide_true, if_true]
      rw [lexAt_gt ns ms k (i + 1) (by omega)]
      simp [lexC]
    · simp only [he, decide_false, Bool.false_eq_true, if_false]
      unfold lexC
      by_cases hl : ns[i] < ms[i]
      · have : ¬ ms[i] < ns[i] := by omega
        simp [hl, this]
      · have : ms[i] < ns[i] := by omega
        simp [hl, this]
theorem lexAt_lt (ns ms : List Int) : ∀ (k i : Nat), k + i = min ns.length ms.length →
    Ob.lexAt (fun j => decide (ns.getD j 0 = ms.getD j 0)) (fun j => decide (ns.getD j 0 < ms.getD j 0)) (decide (ns.length < ms.length)) i k = (lexC (ns.drop i) (ms.drop i) == .lt)
  | 0, i, h => by
    rw [Ob.lexAt_zero]
    by_cases h1 : ns.length < ms.length
    · rw [decide_eq_true h1]
      have e : i = ns.length := by omega
      rw [e, List.drop_length]
      cases q : ms.drop ns.length with
      | nil => have := List.drop_eq_nil_iff.mp q; omega
      | cons a b => rfl
    · rw [decide_eq_false h1]
      have e : i = ms.length := by omega
      rw [e, List.drop_length]
      cases q : ns.drop ms.length with
      | nil => rfl
      | cons a b => rfl
  | k + 1, i, h => by
    have h1 : i < ns.length := by omega
    have h2 : i < ms.length := by omega
    rw [Ob.lexAt_succ, List.drop_eq_getElem_cons h1, List.drop_eq_getElem_cons h2]
    have g1 : ns.getD i 0 = ns[i] := by simp [h1]
    have g2 : ms.getD i 0 = ms[i] := by simp [h2]
    simp only [g1, g2]
    by_cases he : ns[i] = ms[i]
    · simp only [he, decide_true, if_true]
      rw [lexAt_lt ns ms k (i + 1) (by omega)]
      simp [lexC]
    · simp only [he, decide_false, Bool.false_eq_true, if_false]
      unfold lexC
      by_cases hl : ns[i] < ms[i]
      · simp [hl]
      · have : ms[i] < ns[i] := by omega
        simp [hl, this]
def rGtT (K : PySem.W.Frag) : R2 := fun x y H Q => ∃ (a b : Addr) (ns ms : List Int), x = .ref a ∧ y = .ref b ∧ SqT K H a (ns.map V.int) ∧ SqT K H b (ms.map V.int) ∧ Q (.bl (lexC ns ms == .gt)) H
def rLtU (K : PySem.W.Frag) : R2 := fun x y H Q => ∃ (a b : Addr) (ns ms : List Int), x = .ref a ∧ y = .ref b ∧ SqT K H a (ns.map V.int) ∧ SqT K H b (ms.map V.int) ∧ Q (.bl (lexC ns ms == .lt)) H
theorem op_gtT (hu : X.A.units < cLine) : OpR X (compareOp .Gt) (rGtT X.K) := by
  intro pins s σ H x y v u Q I rx ry h
  obtain ⟨a, b, ns, ms, rfl, rfl, ha, hb, q⟩ := h
  cases rx
  cases ry
  obtain ⟨its, r1, p1, _⟩ := I.tuple ha
  obtain ⟨its2, r2, p2, _⟩ := I.tuple hb
  have i1 : IntsAre its ns := Vals.ints r1
  have i2 : IntsAre its2 ms := Vals.ints r2
  have e1 : its.toArray.size = ns.length := by rw [List.size_toArray]; exact i1.length
  have e2 : its2.toArray.size = ms.length := by rw [List.size_toArray]; exact i2.length
  have at1 : ∀ j (h1 : j < its.toArray.size), ∃ t, its.toArray[j] = .int (ns.getD j 0) t := fun j h1 => PyProof.Rows.IntsAre.int_at i1 _ _ (by simp at h1; simp [h1])
  have at2 : ∀ j (h1 : j < its2.toArray.size), ∃ t, its2.toArray[j] = .int (ms.getD j 0) t := fun j h1 => PyProof.Rows.IntsAre.int_at i2 _ _ (by simp at h1; simp [h1])
  have R := Ob.RcOp.tuples_gt (A := X.A) (s := s) (e := fun j => decide (ns.getD j 0 = ms.getD j 0)) (r := fun j => decide (ms.getD j 0 < ns.getD j 0)) p1 p2 hu (fun j h1 h2 => by
    obtain ⟨t, et⟩ := at1 j h1
    obtain ⟨t', et'⟩ := at2 j h2
    rw [et, et']
    have z : (ns.getD j 0 == ms.getD j 0) = decide (ns.getD j 0 = ms.getD j 0) := by
      by_cases q : ns.getD j 0 = ms.getD j 0
      · rw [decide_eq_true q]; exact beq_iff_eq.mpr q
      · rw [decide_eq_false q]; exact beq_eq_false_iff_ne.mpr q
    rw [← z]
    exact SeqAt.EqAt.int_int _ _ _ _) (fun j h1 h2 _ => by
    obtain ⟨t, et⟩ := at1 j h1
    obtain ⟨t', et'⟩ := at2 j h2
    rw [et, et']
    exact Ob.RcOp.gt_int _ _ _ _)
  rw [e1, e2, lexAt_gt ns ms _ 0 (by omega)] at R
  have z : wpAny (model X.prog X.w) X.A (compareOp .Gt (.ref a) (.ref b)) (EP X pins σ Q) X.xe s := R X.prog X.w X.xe (EP X pins σ Q) ⟨.bl _, H, I, rfl, q⟩
  exact z
theorem op_ltU (hu : X.A.units < cLine) : OpR X (compareOp .Lt) (rLtU X.K) := by
  intro pins s σ H x y v u Q I rx ry h
  obtain ⟨a, b, ns, ms, rfl, rfl, ha, hb, q⟩ := h
  cases rx
  cases ry
  obtain ⟨its, r1, p1, _⟩ := I.tuple ha
  obtain ⟨its2, r2, p2, _⟩ := I.tuple hb
  have i1 : IntsAre its ns := Vals.ints r1
  have i2 : IntsAre its2 ms := Vals.ints r2
  have e1 : its.toArray.size = ns.length := by rw [List.size_toArray]; exact i1.length
  have e2 : its2.toArray.size = ms.length := by rw [List.size_toArray]; exact i2.length
  have at1 : ∀ j (h1 : j < its.toArray.size), ∃ t, its.toArray[j] = .int (ns.getD j 0) t := fun j h1 => PyProof.Rows.IntsAre.int_at i1 _ _ (by simp at h1; simp [h1])
  have at2 : ∀ j (h1 : j < its2.toArray.size), ∃ t, its2.toArray[j] = .int (ms.getD j 0) t := fun j h1 => PyProof.Rows.IntsAre.int_at i2 _ _ (by simp at h1; simp [h1])
  have R := Ob.RcOp.tuples_lt (A := X.A) (s := s) (e := fun j => decide (ns.getD j 0 = ms.getD j 0)) (r := fun j => decide (ns.getD j 0 < ms.getD j 0)) p1 p2 hu (fun j h1 h2 => by
    obtain ⟨t, et⟩ := at1 j h1
    obtain ⟨t', et'⟩ := at2 j h2
    rw [et, et']
    have z : (ns.getD j 0 == ms.getD j 0) = decide (ns.getD j 0 = ms.getD j 0) := by
      by_cases q : ns.getD j 0 = ms.getD j 0
      · rw [decide_eq_true q]; exact beq_iff_eq.mpr q
      · rw [decide_eq_false q]; exact beq_eq_false_iff_ne.mpr q
    rw [← z]
    exact SeqAt.EqAt.int_int _ _ _ _) (fun j h1 h2 _ => by
    obtain ⟨t, et⟩ := at1 j h1
    obtain ⟨t', et'⟩ := at2 j h2
    rw [et, et']
    exact Ob.RcOp.lt_int _ _ _ _)
  rw [e1, e2, lexAt_lt ns ms _ 0 (by omega)] at R
  have z : wpAny (model X.prog X.w) X.A (compareOp .Lt (.ref a) (.ref b)) (EP X pins σ Q) X.xe s := R X.prog X.w X.xe (EP X pins σ Q) ⟨.bl _, H, I, rfl, q⟩
  exact z
def rLtL (K : PySem.W.Frag) : R2 := fun x y H Q => ∃ (a b : Addr) (ns ms : List Int), x = .ref a ∧ y = .ref b ∧ SqL K H a (ns.map V.int) ∧ SqL K H b (ms.map V.int) ∧ Q (.bl (lexC ns ms == .lt)) H
theorem firstLt_lexAt {e r : Nat → Bool} {z : Bool} : ∀ (k i : Nat), SeqAt.firstLt e r z (List.range' i k) = Ob.lexAt e r z i k
  | 0, i => by rw [List.range'_zero, Ob.lexAt_zero]; rfl
  | k + 1, i => by
    rw [List.range'_succ, Ob.lexAt_succ, ← firstLt_lexAt k (i + 1)]
    rfl
theorem op_ltL (hu : X.A.units < cLine) : OpR X (compareOp .Lt) (rLtL X.K) := by
  intro pins s σ H x y v u Q I rx ry h
  obtain ⟨a, b, ns, ms, rfl, rfl, ha, hb, q⟩ := h
  cases rx
  cases ry
  obtain ⟨its, r1, ⟨o1, n1, ho1, hc1, hd1, ht1⟩, _⟩ := I.list ha
  obtain ⟨its2, r2, ⟨o2, n2, ho2, hc2, hd2, ht2⟩, _⟩ := I.list hb
  have i1 : IntsAre its ns := Vals.ints r1
  have i2 : IntsAre its2 ms := Vals.ints r2
  have e1 : its.toArray.size = ns.length := by rw [List.size_toArray]; exact i1.length
  have e2 : its2.toArray.size = ms.length := by rw [List.size_toArray]; exact i2.length
  have at1 : ∀ j (h1 : j < its.toArray.size), ∃ t, its.toArray[j] = .int (ns.getD j 0) t := fun j h1 => PyProof.Rows.IntsAre.int_at i1 _ _ (by simp at h1; simp [h1])
  have at2 : ∀ j (h1 : j < its2.toArray.size), ∃ t, its2.toArray[j] = .int (ms.getD j 0) t := fun j h1 => PyProof.Rows.IntsAre.int_at i2 _ _ (by simp at h1; simp [h1])
  have R := SeqAt.RcLt.lists (A := X.A) (s := s) (l := a) (b := b) (items := its.toArray) (items2 := its2.toArray) (e := fun j => decide (ns.getD j 0 = ms.getD j 0)) (r := fun j => decide (ns.getD j 0 < ms.getD j 0)) ⟨_, ho1, hc1, _, ht1⟩ ⟨_, ho2, hc2, _, ht2⟩ hu (fun j h1 h2 => by
    obtain ⟨t, et⟩ := at1 j h1
    obtain ⟨t', et'⟩ := at2 j h2
    rw [et, et']
    have z : (ns.getD j 0 == ms.getD j 0) = decide (ns.getD j 0 = ms.getD j 0) := by
      by_cases q : ns.getD j 0 = ms.getD j 0
      · rw [decide_eq_true q]; exact beq_iff_eq.mpr q
      · rw [decide_eq_false q]; exact beq_eq_false_iff_ne.mpr q
    rw [← z]
    exact SeqAt.EqAt.int_int _ _ _ _) (fun j h1 h2 _ => by
    obtain ⟨t, et⟩ := at1 j h1
    obtain ⟨t', et'⟩ := at2 j h2
    rw [et, et']
    exact Ob.RcOp.lt_int _ _ _ _)
  rw [e1, e2, List.range_eq_range', firstLt_lexAt, lexAt_lt ns ms _ 0 (by omega)] at R
  have z : wpAny (model X.prog X.w) X.A (compareOp .Lt (.ref a) (.ref b)) (EP X pins σ Q) X.xe s := R X.prog X.w X.xe (EP X pins σ Q) ⟨.bl _, H, I, rfl, q⟩
  exact z
/-- l.remove(x), data of any depth -/
def rRemoveD (K : PySem.W.Frag) : V → List V → Hp → VK → Prop := fun x xs H Q => ∃ (a : Addr) (zs : List V) (y : V) (d : PyData) (ds : List PyData) (j : Nat), x = V.ref a ∧ xs = [y] ∧ H a = some (.lst zs) ∧ DpAll K H zs ds ∧ Dp K H y d ∧
  SeqAt.shaped (.list ds) = true ∧ SeqAt.shaped d = true ∧ (ds.findIdx? fun z => PyData.eqv z d) = some j ∧ Q .non (upd H a (.lst (zs.eraseIdx j)))
theorem mt_removeD (hu : X.A.units + 65 < cLine) : MtR X "list.remove" (rRemoveD X.K) := by
  intro pins s σ H x xs v us Q I rx rxs h
  obtain ⟨a, zs, y, d, ds, j, rfl, rfl, hH, ha, hy, sl, sd, hp, q⟩ := h
  cases rx
  cases rxs with
  | cons ry rt =>
    rename_i uy ut
    cases rt
    obtain ⟨bs, r1⟩ := Dp.reads I d y uy hy ry
    have hxs : PyData.canLayAll0 ds = true := SeqAt.canLay_of_shaped sl
    have hroom : X.A.units + 1 + min (PyData.depthAll ds) d.depth < cLine := room_in_shaped sd hu
    obtain ⟨z, its, n, rv, hl, e0⟩ := I.lstM hH
    obtain ⟨as, h4⟩ := Dp.readsAll I ds _ its ha rv
    have hn : its.length = ds.length := SeqAt.ReadsAll.length ds its as h4
    have hmap : its.map (SeqAt.readOf s.heap) = ds := SeqAt.readsAll_map ds its as hxs h4
    obtain ⟨hjd, hz, hno⟩ := List.findIdx?_eq_some_iff_getElem.mp hp
    have hjl : j < its.length := by omega
    have hj : j < its.toArray.size := by simpa using hjl
    have at_ : ∀ (m : Nat) (hm : m < its.toArray.size) (z' : PyData), ds[m]? = some z' → SeqAt.readOf s.heap its.toArray[m] = z' := by
      intro m hm z' hz'
      have hml : m < its.length := by simpa using hm
      rw [← hmap, List.getElem?_map, List.getElem?_eq_getElem hml] at hz'
      have e1 : SeqAt.readOf s.heap its[m] = z' := Option.some.inj (show some (SeqAt.readOf s.heap its[m]) = some z' from hz')
      simpa using e1
    refine call_meets PySem.F.slot_list_remove ⟨_, e0, rfl⟩ PySem.F.entry_list_remove (PySem.F.args_list_remove_2 _ _)
      (SeqAt.list_removeAt a its.toArray n none #[] uy (fun u => PyData.eqv (SeqAt.readOf s.heap u) d) j hj ?_ ?_ (by rw [List.size_toArray, ← hl]; exact z)) ⟨e0, SeqAt.items_eqAt (vs := its.toArray) (show ReadsAll s.heap its.toArray.toList ds as from h4) r1 hxs (SeqAt.canLay_of_shaped sd) hroom, ?_⟩
    · show PyData.eqv (SeqAt.readOf s.heap its.toArray[j]) d = true
      rw [at_ j hj _ (List.getElem?_eq_getElem hjd)]
      exact hz
    · intro m hm hmj
      have hmd : m < ds.length := by omega
      show PyData.eqv (SeqAt.readOf s.heap its.toArray[m]) d = false
      rw [at_ m hm _ (List.getElem?_eq_getElem hmd)]
      have := hno m hmj
      simpa using this
    · refine ⟨.non, _, I.lset (its' := its.eraseIdx j) hH e0 ?_ (rv.eraseIdx j) ?_, rfl, q⟩
      · show its.toArray.eraseIdxIfInBounds j = (its.eraseIdx j).toArray
        rw [List.eraseIdxIfInBounds_toArray]
      · have := List.length_eraseIdx_le zs j
        omega
end
end Dl
end

section
set_option Elab.async false
set_option linter.all false
set_option maxRecDepth 100000
set_option maxHeartbeats 2000000
/-! Dl: sorted(xs, key=f) where f's calls keep an invariant of the whole state -/
namespace Dl
open PySem PySem.Calls PyProof.Rows PySem.W
/-- what stands at the two addresses that the sort itself writes -/
structure SortAt (a k : Addr) (e1 : Nat) (keys : List Value) (s : Shared) : Prop where
  at_ : s.heap.get? a = some (seqObj "list" #[] e1)
  keys : ∃ e, s.heap.get? k = some (seqObj "list" keys.toArray e)
section
variable {prog : Program} {w : World} {A : Around} {E : Value → Shared → Prop} {s : Shared} {a k : Addr} {b : Bool} {vs : List Value} {e1 : Nat} {P : PySem.Fin → Shared → Prop} {kz : List PyData} {J : Nat → List Value → Shared → Prop}
theorem sortJ_rest {f : Value} (hne : k ≠ a) (j0 : J 0 [] s) (nk : s.heap.get? k = some (seqObj "list" #[] 0)) (na : s.heap.get? a = some (seqObj "list" #[] e1))
    (hlen : kz.length = vs.length) (hZ : vs.length ≤ sizeLine) (hal : AllAlike kz) (hsk : Sortable kz) (hu : ∀ d, d ∈ kz → A.units + d.depth < cLine)
    (up : ∀ i us (s' : Shared) h' tk, J i us s' → (∀ c o, c ≠ a → c ≠ k → s'.heap.get? c = some o → h'.get? c = some o) → J i us { s' with heap := h', toks := tk })
    (turn : ∀ (i : Nat) (v : Value) (us : List Value) (s' : Shared), vs[i]? = some v → us.length = i → J i us s' → SortAt a k e1 us s' →
      wpAny (model prog w) A (call f [v]) (fun u s'' => J (i + 1) (us ++ [u]) s'' ∧ SortAt a k e1 us s'') (fun _ _ => False) s')
    (reads : ∀ us s', J vs.length us s' → EachIs (fun u d => ∃ as, Reads s'.heap u d as) us kz)
    (h : ∀ us s' out c, J vs.length us s' → s'.heap.get? a = some (seqObj "list" (List.toArray out) c) → KeyedOut b kz vs out → P (.done (.ret .none)) s') :
    wpAny (model prog w) A (ksk_rest a f b vs.toArray e1 (.ref k)) P E s := by
  unfold ksk_rest
  refine wpAny_bind (wpAny_rule ?_)
  first
    | rw [List.forIn_toArray]
    | (rw [← Array.forIn_toList]; simp only [List.toList_toArray])
    | rw [← Array.forIn_toList]
  refine wpAny_bind (ksk_fold (fun i s' => ∃ us, us.length = i ∧ J i us s' ∧ SortAt a k e1 us s') vs 0 s ⟨[], rfl, j0, na, 0, nk⟩ ?step ?done)
  case step =>
    rintro j x s' hx ⟨us, hl, jj, at_⟩
    simp only [Nat.zero_add] at hl jj ⊢
    have hj : j < vs.length := (List.getElem?_eq_some_iff.mp hx).1
    refine wpAny_bind (wpAny_attempt (wpAny_mono (turn j x us s' hx hl jj at_) (fun v s'' he => ?_) fun _ _ hF => hF.elim))
    obtain ⟨j2, at2⟩ := he
    try dsimp only
    obtain ⟨e, nk2⟩ := at2.keys
    have na2 := at2.at_
    have s1 := Heap.SameBut.update s''.heap k (Obj.mapSeq (·.push v))
    obtain ⟨c2, hc2⟩ : ∃ c2, (s''.heap.update k (Obj.mapSeq (·.push v))).get? k = some (seqObj "list" (us.toArray.push v) c2) := ⟨_, get?_update_seq nk2 (·.push v)⟩
    have ea : us.toArray.push v = (us ++ [v]).toArray := by simp
    have hz : us.toArray.size ≤ sizeLine := by rw [List.size_toArray]; omega
    refine wpAny_bind (listUpdate_at nk2 rfl ?_ hz (Nat.le_trans (Nat.le_of_eq (Array.size_push ..)) (Nat.succ_le_succ hz)))
    refine wpAny_pure ⟨rfl, us ++ [v], by simp [hl], up _ _ _ _ _ j2 (fun c o _ hc q => (s1.2 c hc).trans q), (s1.2 a hne.symm).trans na2, c2, ?_⟩
    rw [← ea]
    exact hc2
  case done =>
    rintro s' ⟨us, hl, jj, at_⟩
    simp only [Nat.zero_add] at hl jj
    obtain ⟨e, nk'⟩ := at_.keys
    have na' := at_.at_
    have hk' := reads us s' jj
    try dsimp only
    refine wpAny_bind (listItems_at nk' rfl ?_)
    have hsz : us.toArray.size = vs.length := by rw [List.size_toArray]; exact hl
    have nka : (hideAll s'.heap [k]).get? k = none := hideAll_none [k] (by simp)
    have kp : KeepsBut a (hideAll s'.heap [k]) s'.heap := fun c o _ q => of_hideAll [k] q
    refine keyH_end (κ := dataKind s'.heap kz) (s := s') (h₁ := hideAll s'.heap [k]) kp nka nk' na' hne (SortsAt.data (s := s') (by simpa using hk') hal hsk hu) hsz hZ fun h3 tk3 c k3 n3 => ?_
    have old : ∀ c o, c ≠ a → c ≠ k → s'.heap.get? c = some o → h3.get? c = some o := fun c o h1 h2 q => k3 c o h1 (hideAll_get [k] q (by simpa using h2))
    refine h us _ _ c (up _ _ _ _ _ jj old) n3 ⟨s'.heap, us.toArray.toList, hal, rfl, by simpa using hk'⟩
end
section
variable {prog : Program} {w : World} {A : Around} {E : Value → Shared → Prop} {s : Shared} {b : Bool} {vs : List Value} {kz : List PyData} {J : Addr → Addr → Nat → List Value → Shared → Prop}
/-- sorted(xs, key=f[, reverse=b]): J a k i us: behind i turns, the keys us; a, k: what the sort itself writes -/
theorem sortJ {β : Type} {R : Value → β → Prop} {bs : List β} (enc : β → PyData) {l : Addr} {f : Value} {kw : List (Str × Value)} {Q : Value → Shared → Prop} (hl : s.heap.IsList l vs.toArray) (e : EachIs R vs bs) (hal : AllAlike (bs.map enc)) (hsk : Sortable (bs.map enc)) (hL : bs.length ≤ sizeLine)
    (hu : ∀ x, x ∈ bs → A.units + 2 + (enc x).depth < cLine) (ha1 : argsOk "sorted" ⟨[.ref l], kw⟩) (ha2 : ∀ x, argsOk "list.sort" ⟨[.ref x], kw⟩) (ht : ∀ x, Builtin.«list.sort» ⟨[.ref x], kw⟩ = ksk_tree x f b)
    (j0 : ∀ a k h' tk, s.heap.objs.size ≤ a → s.heap.objs.size ≤ k → k ≠ a → (∀ c o, s.heap.get? c = some o → h'.get? c = some o) → J a k 0 [] { s with heap := h', toks := tk })
    (up : ∀ a k i us (s' : Shared) h' tk, J a k i us s' → (∀ c o, c ≠ a → c ≠ k → s'.heap.get? c = some o → h'.get? c = some o) → J a k i us { s' with heap := h', toks := tk })
    (turn : ∀ (a k : Addr) (e1 : Nat) (i : Nat) (v : Value) (x : β) (us : List Value) (s' : Shared), vs[i]? = some v → bs[i]? = some x → R v x → us.length = i → J a k i us s' → SortAt a k e1 us s' →
      wpAny (model prog w) A.in1.in1 (call f [v]) (fun u s'' => J a k (i + 1) (us ++ [u]) s'' ∧ SortAt a k e1 us s'') (fun _ _ => False) s')
    (reads : ∀ a k us s', J a k bs.length us s' → EachIs (fun u d => ∃ as, Reads s'.heap u (enc d) as) us bs)
    (h : ∀ a k us s' out c, J a k bs.length us s' → s'.heap.get? a = some (seqObj "list" (List.toArray out) c) → out.length = bs.length → EachIs R out (bs.mergeSort (dataLe b enc)) → Q (.ref a) s') :
    wpAny (model prog w) A (call (.builtin "sorted") [.ref l] kw) Q E s := by
  have el := e.length
  refine sorted_of_sort hl (by rw [el]; exact hL) ha1 ha2 fun E' => ?_
  rw [ht]
  have ho := copyHeap_at s.heap vs
  generalize hh : copyHeap s.heap vs = g at ho ⊢
  have old : ∀ c o, s.heap.get? c = some o → c ≠ s.heap.objs.size + 1 ∧ g.get? c = some o := fun c o q => by
    rw [← hh]
    exact ⟨Nat.ne_of_lt (Nat.lt_succ_of_lt (Heap.lt_size q)), copyHeap_old q⟩
  generalize ha : s.heap.objs.size + 1 = a at ho old ⊢
  have hag : a < g.objs.size := Heap.lt_size ho
  have hsa : s.heap.objs.size ≤ a := by omega
  obtain ⟨e1, ho1⟩ : ∃ e1, (g.update a (Obj.mapSeq fun _ => (#[] : Array Value))).get? a = some (seqObj "list" #[] e1) := ⟨_, get?_update_seq ho fun _ => #[]⟩
  have s1 := Heap.SameBut.update g a (Obj.mapSeq fun _ => (#[] : Array Value))
  have hkS : ((g.update a (Obj.mapSeq fun _ => (#[] : Array Value))).push (seqObj "tuple" vs.toArray 0)).objs.size = g.objs.size + 1 := by rw [size_push', Heap.size_update]
  unfold ksk_tree
  refine wpAny_bind (listItems_at ho rfl ?_)
  refine wpAny_bind (listUpdate_at ho rfl ?_ (by rw [List.size_toArray, el]; exact hL) (Nat.zero_le _))
  refine wpAny_bind (seqEpoch_at ho1 rfl ?_)
  refine wpAny_bind (wpAny_newTuple ?_ (by show vs.length ≤ _; rw [el]; exact hL))
  refine wpAny_bind (wpAny_newList ?_ (Nat.zero_le _))
  refine wpAny_holding ?_
  rw [hkS]
  refine sortJ_rest (J := J a (g.objs.size + 1)) (kz := bs.map enc) (s := { s with heap := ((g.update a (Obj.mapSeq fun _ => (#[] : Array Value))).push (seqObj "tuple" vs.toArray 0)).push (seqObj "list" #[] 0) })
    (Nat.ne_of_gt (Nat.lt_succ_of_lt hag)) (j0 a _ _ _ hsa (Nat.le_trans hsa (Nat.le_succ_of_le (Nat.le_of_lt hag))) (Nat.ne_of_gt (Nat.lt_succ_of_lt hag)) fun c o q => ?_) ?_ (Heap.get?_push_of_some _ (Heap.get?_push_of_some _ ho1)) (by rw [List.length_map, el]) (by rw [el]; exact hL) hal hsk (bound_map (A := A.in1.in1) hu)
    (fun i us s' h' tk => up a _ i us s' h' tk) (fun i v us s' hv hi jj at_ => ?_) (fun us s' jj => ?_) fun us s' out c jj hD ko => ⟨rfl, ?_⟩
  · obtain ⟨h1, h2⟩ := old c o q
    exact Heap.get?_push_of_some _ (Heap.get?_push_of_some _ ((s1.2 c h1).trans h2))
  · rw [← hkS]
    exact Heap.get?_push_size _ rfl
  · have hib : i < bs.length := by rw [← el]; exact (List.getElem?_eq_some_iff.mp hv).1
    have hx : bs[i]? = some bs[i] := List.getElem?_eq_getElem hib
    have hz : (v, bs[i]) ∈ vs.zip bs := List.mem_of_getElem? (i := i) (by rw [List.getElem?_zip_eq_some]; exact ⟨hv, hx⟩)
    exact turn a _ e1 i v bs[i] us s' hv hx (e.zip _ hz) hi jj at_
  · rw [el] at jj
    exact each_map (R := fun u d => ∃ as, Reads s'.heap u d as) enc (reads a _ us s' jj)
  · rw [el] at jj
    exact h a _ us s' out c jj hD ((ko.length (by rw [List.length_map]; exact el.symm)).trans el) (keyedOut_each enc ko e)
end
end Dl
end

section
set_option Elab.async false
set_option linter.all false
set_option maxRecDepth 100000
set_option maxHeartbeats 2000000
/-! Dl: raw rules: pop of a dict with tuple keys, sorted of data, a lambda made and handed to sorted -/
namespace Dl
open PySem PySem.Spec PyProof.Rows L2 LamX NdefX
/-! ### d.pop(k) -/
theorem KT.drop {H : Hp} {kvs : List (List Key × V)} {xs : List (List Key × Addr × Value)} (r : KT H kvs xs) (k : List Key) : KT H (dropK kvs k) (withoutH xs k) := by
  unfold dropK withoutH
  induction r with
  | nil => exact .nil
  | @cons p q ps qs h t ih =>
    rw [List.filter_cons, List.filter_cons]
    by_cases e : p.1 = k
    · have a : ¬ decide (p.1 ≠ k) = true := by simp [e]
      have b : ¬ decide (q.1 ≠ k) = true := by simp [h.1.symm.trans e]
      rw [if_neg a, if_neg b]; exact ih
    · have e' : ¬ q.1 = k := fun z => e (h.1.trans z)
      have a : decide (p.1 ≠ k) = true := by simp [e]
      have b : decide (q.1 ≠ k) = true := by simp [e']
      rw [if_pos a, if_pos b]; exact .cons h ih
def tDPopT (td ty : TE) : TE := fun σ H Q => td σ H fun x H1 => ∃ a, x = .ref a ∧ IsD H1 a ∧ ty σ H1 fun y H2 => ∃ kvs k b v, H2 a = some (.dT kvs) ∧ y = .ref b ∧ H2 b = some (.tup (k.map kV)) ∧ valV kvs k = some v ∧ Q v (upd H2 a (.dT (dropK kvs k)))
section
variable {X : Cx} {o e : Expr} {apos cpos : Pos} {td ty : TE}
theorem d_popT {pins : List (Addr × Obj)} {σ : L2.St} {H : Hp} {s : Shared} {a b : Addr} {kvs : List (List Key × V)} {k : List Key} {v : V} {E : Value → Shared → Prop} {A : Around} {Q : Value → Shared → Prop} (hu : A.units + 1 < cLine) (I : Inv X pins σ H s) (e : H a = some (.dT kvs))
    (eb : H b = some (.tup (k.map kV))) (l : valV kvs k = some v) (h : ∀ w' s', Inv X pins σ (upd H a (.dT (dropK kvs k))) s' → RelV v w' → Q w' s') : wpAny (model X.prog X.w) A (call (.builtin "dict.pop") [.ref a, .ref b]) Q E s := by
  obtain ⟨z, hd, xs, rel, dd⟩ := dt_of I.hok e
  obtain ⟨w', hw, rw'⟩ := RelO.some_of (v := v) (o := (atKey xs k).map (·.2)) (by rw [← l]; exact rel.val k)
  obtain ⟨p, hp, hp2⟩ := Option.map_eq_some_iff.mp hw
  have hz : xs.length ≤ sizeLine := by rw [← Paired.length rel]; exact z
  refine call_pop_heap (hsz := hz) (.inl rfl) (PySem.F.args_dict_pop_2 _ _) (tupleKind_room_in1 hu) (key_of I.hok eb) hd dd hp fun h' dd' hs => ?_
  obtain ⟨q, es, ep, hq, h2, h3, h4, _, h5⟩ := dd'
  rw [hp2]
  refine h _ _ (d_write I (by rw [e]; exact True.intro) hs ⟨q, hq⟩ ⟨Nat.le_trans (List.length_filter_le _ _) z, hd, _, (KT.drop rel k).keeps fun c ys ec => ?_, q, es, ep, hq, h2, h3, h4, h5⟩) rw'
  rw [upd_ne (ne_of ec e (fun z => nomatch z))]
  exact ec
theorem pe_dpopT (hu : X.A.units + 1 < cLine) (ho : PE X o td) (he : PE X e ty) (m : M1 X o "pop" apos e cpos) : PE X (.Call (.Attribute o "pop" apos) [e] [] cpos) (tDPopT td ty) := by
  refine ⟨fun pins s σ H Q I h => ?_⟩
  refine wpAny_Call_method m.base m.few m.line PySem.F.plainAttrs_dict PySem.F.slot_dict_pop PySem.F.type_dict_pop (thn (ho.run pins s σ H _ I h) fun u s1 ⟨x, H1, I1, rx, a, ex, d, q1⟩ => ?_)
  subst ex
  obtain rfl : u = Value.ref a := rx
  obtain ⟨t1, t2, _⟩ := isD_at I1 d
  refine ⟨t1, t2, ?_⟩
  rw [m.trees]
  refine Calls.callWith_builtin rfl (Calls.evalArgs_plain (Calls.spliced_cons (thn (he.run pins s1 σ H1 _ I1 q1) fun iv s2 ⟨y, H2, I2, ry, kvs, k, b, v, ea, ey, eb, l, q2⟩ => Calls.spliced_nil ?_)))
  subst ey
  obtain rfl : iv = Value.ref b := ry
  exact d_popT hu I2 ea eb l fun w' s3 I3 rw' => ⟨v, _, I3, rw', q2⟩
end
/-! ### sorted(xs, reverse=True) of data -/
def rSortD (K : PySem.W.Frag) : List V → List V → Hp → VK → Prop := fun vs zs H Q => ∃ (a : Addr) (xs : List V) (ps : List PyData), vs = [V.ref a] ∧ zs = [.bl true] ∧ SqL K H a xs ∧ DpAll K H xs ps ∧ PySem.W.AllAlike ps ∧ PySem.W.Sortable ps ∧ (∀ p ∈ ps, p.depth ≤ 60) ∧
  ∀ p, H p = none → Q (.ref p) (upd H p (.lst (((xs.zip ps).mergeSort (PySem.W.dataLe true (·.2))).map (·.1))))
theorem DpAll.length {K : PySem.W.Frag} {H : Hp} : ∀ {xs : List V} {ps : List PyData}, DpAll K H xs ps → xs.length = ps.length
  | _, _, .nil => rfl
  | _, _, .cons _ t => congrArg Nat.succ (DpAll.length t)
theorem each_zip {X : Cx} {pins : List (Addr × Obj)} {σ : L2.St} {H : Hp} {s : Shared} (I : Inv X pins σ H s) : ∀ {xs : List V} {ps : List PyData} {us : List Value}, DpAll X.K H xs ps → Vals xs us →
    PySem.W.EachIs (fun u (b : V × PyData) => RelV b.1 u ∧ ∃ as, Reads s.heap u b.2 as) us (xs.zip ps)
  | _, _, _, .nil, .nil => .nil
  | _, _, _, .cons h t, .cons r rs => .cons ⟨r, Dp.reads I _ _ _ h r⟩ (each_zip I t rs)
theorem vals_each : ∀ {us : List Value} {bs : List (V × PyData)}, PySem.W.EachIs (fun u (b : V × PyData) => RelV b.1 u) us bs → Vals (bs.map (·.1)) us
  | _, _, .nil => .nil
  | _, _, .cons h t => .cons h (vals_each t)
theorem cr_sortD {X : Cx} (hu : X.A.units + 65 < cLine) : CallRK X (.builtin "sorted") [Str.ofString "reverse"] (rSortD X.K) := by
  intro pins s σ H vs zs us ws Q I r rz h
  obtain ⟨a, xs, ps, rfl, rfl, hs, hd, hal, hsk, hdp, q⟩ := h
  obtain rfl := Vals.ref1 r
  obtain ⟨w1, rfl, e1⟩ := vals1 rz
  obtain rfl : w1 = Value.bool true := e1
  obtain ⟨its, rv, hl, hz⟩ := I.list hs
  have hlen := DpAll.length hd
  have e := each_zip I hd rv
  have em : (xs.zip ps).map (·.2) = ps := List.map_snd_zip (by omega)
  have ezl : (xs.zip ps).length = xs.length := by rw [List.length_zip]; omega
  refine PySem.W.sorted_rev_data (R := fun u (b : V × PyData) => RelV b.1 u) (bs := xs.zip ps) (enc := fun b => b.2) hl.isList (e.mono fun _ _ z => z.1) (e.mono fun _ _ z => z.2) (by rw [em]; exact hal) (by rw [em]; exact hsk) (by rw [ezl]; exact hz)
    (fun b hb => by have := hdp b.2 (by rw [← em]; exact List.mem_map_of_mem hb); omega) fun out hlo eo => ?_
  obtain ⟨ep, he'⟩ := PyProof.Rows.sortedAll_at s.heap its (List.toArray out)
  refine ⟨.ref _, upd H (s.heap.objs.size + 1) (.lst _), I.laid (t' := s.toks) (fun _ _ => PyProof.Rows.sortedAll_old) (Nat.le_succ _) ⟨?_, _, ep, vals_each eo, he'⟩, rfl, q _ (I.hok.fresh (Nat.le_succ _))⟩
  rw [List.length_map, List.length_mergeSort, ezl]
  exact hz
/-! ### a lambda is made -/
def LamO (f : Addr) (q : Str) (params : Arguments) (body : Expr) (scope : Scope) (cl : List (Str × Addr)) (c' : Addr) : HO := .ext fun h => ∃ (pm ctv : Value), h.get? f = some (PySem.W.kla_obj "<lambda>" q params body scope cl pm c' ctv)
theorem lamO_ne {f : Addr} {q : Str} {params : Arguments} {body : Expr} {scope : Scope} {cl : List (Str × Addr)} {c' : Addr} (ps : Array Value) : LamO f q params body scope cl c' ≠ .tbl ps := fun z => by
  unfold LamO at z
  cases z
theorem lamO_at {P : Program} {w : World} {H : Hp} {h : Heap} {f : Addr} {q : Str} {params : Arguments} {body : Expr} {scope : Scope} {cl : List (Str × Addr)} {c' : Addr} (hok : HOk P w H h) (e : H f = some (LamO f q params body scope cl c')) : ∃ (pm ctv : Value), h.get? f = some (PySem.W.kla_obj "<lambda>" q params body scope cl pm c' ctv) := by
  obtain ⟨z, _, _⟩ := hok f _ e
  exact z
section
variable {X : Cx} {pins : List (Addr × Obj)} {σ : L2.St} {H : Hp} {s : Shared}
theorem inv_lam {q : Str} {params : Arguments} {body : Expr} {scope : Scope} {cl : List (Str × Addr)} {c' : Addr} {pm ctv : Value} {t' : Nat} (I : Inv X pins σ H s) :
    Inv X pins σ (upd H s.heap.objs.size (LamO s.heap.objs.size q params body scope cl c')) { s with heap := s.heap.push (PySem.W.kla_obj "<lambda>" q params body scope cl pm c' ctv), toks := t' } := by
  refine I.laid (a := s.heap.objs.size) (fun b u e => Heap.get?_push_of_some _ e) (Nat.le_refl _) ?_
  have e : (s.heap.push (PySem.W.kla_obj "<lambda>" q params body scope cl pm c' ctv)).get? s.heap.objs.size = some (PySem.W.kla_obj "<lambda>" q params body scope cl pm c' ctv) := Heap.get?_push_size _ rfl
  exact ⟨⟨pm, ctv, e⟩, ⟨_, e⟩, fun h1 h2 ⟨p, t, z⟩ st => ⟨p, t, st _ z⟩⟩
theorem lam_make {c P : Addr} {params : Arguments} {body : Expr} {scope : Scope} {pos : Pos} {E : Value → Shared → Prop} {Q : Value → Shared → Prop} (I : Inv X pins σ H s) (TB : TabB X.base X.mg c P) (hcode : X.env.code = .ref c)
    (hT : TabS H P (X.env.qual ++ "<lambda>")) (hdef : defaultsOf params X.env = ([], [])) (hfree : ∀ y ∈ scope.names, y.2 = .free → ∃ c, X.env.cells.lookup y.1 = some c)
    (h : ∀ (f c' : Addr) (H1 : Hp) (s' : Shared), Inv X pins σ H1 s' → (∀ b o, b ≠ P → H b = some o → H1 b = some o) → (∀ b, H1 b = Option.none → H b = Option.none) → TabS H1 P (X.env.qual ++ "<lambda>") → H f = none →
      H1 f = some (LamO f (X.env.qual ++ "<lambda>") params body scope (cloFrom X.env.cells scope.names []) c') → H1 c' = some (CodeO c' (X.env.qual ++ "<lambda>")) → Q (.ref f) s') :
    wpAny (model X.prog X.w) X.A (eval (.Lambda params body scope pos) X.env) Q E s := by
  obtain ⟨ps, hP, ht, ha⟩ := hT
  refine PySem.W.kla_eval hdef ?_
  have bP : s.heap.BuiltinsAt X.mg P := TB.bm.keeps I.bk
  have hP' : s.heap.get? P = some { cls := .none, data := .fields ps } := I.hok P _ hP
  cases hc : codeAmong pos ps.toList with
  | none =>
    refine PySem.W.kla_makeFunction (mg := X.mg) (c := c) (P := P) (ps := ps) (closure_ok hfree) I.ok.glob (I.mod.glob.keeps I.bk) hcode (TB.code.keeps I.bk) hP' ht hc TB.gP bP fun c' ctv h' tk hx hge hlt hrec htb => ?_
    obtain ⟨c2, oc, vs, t, e2, hoc, hd, hv⟩ := hrec
    cases e2
    have nC : H c' = none := I.hok.fresh hge
    have I1 := inv_table (t' := tk) (more := #[rawInt pos.line, rawInt pos.col, .ref c']) (h' := h') I hP (fun b o hb e => hx b o hb e) htb hge ⟨oc, vs, t, hoc, hd, hv⟩
    have hE : ExtN H (upd (upd H P (.tbl (ps ++ #[rawInt pos.line, rawInt pos.col, .ref c']))) c' (CodeO c' (X.env.qual ++ "<lambda>"))) := fun b o e n => by
      rw [upd_ne (ne_of_none e nC), upd_ne (fun z => n ps (Option.some.inj (e.symm.trans (by rw [z]; exact hP))))]
      exact e
    have eL : (ps ++ #[rawInt pos.line, rawInt pos.col, .ref c']).toList = ps.toList ++ [rawInt pos.line, rawInt pos.col, .ref c'] := by simp
    have T1 : TabS (upd (upd H P (.tbl (ps ++ #[rawInt pos.line, rawInt pos.col, .ref c']))) c' (CodeO c' (X.env.qual ++ "<lambda>"))) P (X.env.qual ++ "<lambda>") := by
      refine ⟨_, by rw [upd_ne (ne_of_none hP nC), upd_same], by rw [eL]; exact PySem.TriplesOk_snoc _ _ _ _ ht, fun p' cv hcv => ?_⟩
      rw [eL] at hcv
      rcases among_app _ ht hcv with z | z
      · obtain ⟨c0, e1, e2⟩ := ha p' cv z
        exact ⟨c0, e1, hE _ _ e2 codeO_ne⟩
      · exact ⟨c', z, upd_same⟩
    have nF := I1.hok.fresh (Nat.le_refl _)
    have I2 := inv_lam (q := X.env.qual ++ "<lambda>") (params := params) (body := body) (scope := scope) (cl := cloFrom X.env.cells scope.names []) (c' := c') (pm := (X.mg "__name__").getD .none) (ctv := ctv) (t' := tk) I1
    refine h h'.objs.size c' _ _ I2 (fun b o n e => ?_) (fun b e => upd_none (upd_none (upd_none e))) (T1.ext fun b o e => ?_) (I.hok.fresh (Nat.le_trans hge (Nat.le_of_lt hlt))) upd_same ?_
    · have e1 : upd (upd H P (.tbl (ps ++ #[rawInt pos.line, rawInt pos.col, .ref c']))) c' (CodeO c' (X.env.qual ++ "<lambda>")) b = some o := by
        rw [upd_ne (ne_of_none e nC), upd_ne n]
        exact e
      exact (upd_ne (ne_of_none e1 nF)).trans e1
    · exact (upd_ne (ne_of_none e nF)).trans e
    · exact (upd_ne (Nat.ne_of_lt hlt)).trans upd_same
  | some cv =>
    obtain ⟨c', e, hco⟩ := ha pos cv hc
    subst e
    refine PySem.W.kla_makeFunctionHit (mg := X.mg) (c := c) (P := P) (ps := ps) (closure_ok hfree) I.ok.glob (I.mod.glob.keeps I.bk) hcode (TB.code.keeps I.bk) hP' ht hc bP fun ctv h' tk hx hsz => ?_
    have I1 : Inv X pins σ H { s with heap := h', toks := tk } := I.kept hx
    have nF : H h'.objs.size = none := I1.hok.fresh (Nat.le_refl _)
    have I2 := inv_lam (q := X.env.qual ++ "<lambda>") (params := params) (body := body) (scope := scope) (cl := cloFrom X.env.cells scope.names []) (c' := c') (pm := (X.mg "__name__").getD .none) (ctv := ctv) (t' := tk) I1
    refine h h'.objs.size c' _ _ I2 (fun b o n e => ?_) (fun b e => upd_none e) ((show TabS H P _ from ⟨ps, hP, ht, ha⟩).ext fun b o e => ?_) nF upd_same ?_
    · exact (upd_ne (ne_of_none e nF)).trans e
    · exact (upd_ne (ne_of_none e nF)).trans e
    · exact (upd_ne (ne_of_none hco nF)).trans hco
/-- the reading of a lambda -/
def tLamO (P : Addr) (q : Str) (mk : Addr → Addr → HO) : TE := fun _ H Q => TabS H P q ∧ ∀ (f c' : Addr) (H1 : Hp), (∀ b o, b ≠ P → H b = some o → H1 b = some o) → (∀ b, H1 b = Option.none → H b = Option.none) → TabS H1 P q → H f = none → H1 f = some (mk f c') → H1 c' = some (CodeO c' q) → Q (.ref f) H1
theorem pe_lam {c P : Addr} {params : Arguments} {body : Expr} {scope : Scope} {pos : Pos} (TB : TabB X.base X.mg c P) (hcode : X.env.code = .ref c) (hdef : defaultsOf params X.env = ([], []))
    (hfree : ∀ y ∈ scope.names, y.2 = .free → X.env.scope.names.lookup y.1 = some .cell ∨ X.env.scope.names.lookup y.1 = some .free) :
    PE X (.Lambda params body scope pos) (tLamO P (X.env.qual ++ "<lambda>") fun f c' => LamO f (X.env.qual ++ "<lambda>") params body scope (cloFrom X.env.cells scope.names []) c') := by
  refine ⟨fun pins s σ H Q I h => ?_⟩
  obtain ⟨hT, h⟩ := h
  have hfr : ∀ y ∈ scope.names, y.2 = .free → ∃ c, X.env.cells.lookup y.1 = some c := fun y hy e => (hfree y hy e).elim (fun z => I.ok.has _ (.inl z)) fun z => I.ok.has _ (.inr z)
  exact lam_make I TB hcode hT hdef hfr fun f c' H1 s' I1 eN nn T1 f0 f1 c1 => ⟨.ref f, H1, I1, rfl, h f c' H1 eN nn T1 f0 f1 c1⟩
end
end Dl
end

section
set_option Elab.async false
set_option linter.all false
set_option maxRecDepth 100000
set_option maxHeartbeats 2000000
/-! Dl: raw rules: a lambda with one parameter is called by a built-in -/
namespace Dl
open PySem PySem.Spec PyProof.Rows L2 LamX NdefX
section
variable {X : Cx} {pins : List (Addr × Obj)} {σ : L2.St} {H : Hp} {s : Shared}
abbrev lamF (q : Str) (params : Arguments) (scope : Scope) (cl : List (Str × Addr)) (c' : Addr) : NF := ⟨"<lambda>", q, params, [], scope, cl, c'⟩
theorem lam_call {A : Around} {N ps fr : List Str} {js : List Nat} {q : Str} {params : Arguments} {body : Expr} {scope : Scope} {cl : List (Str × Addr)} {f c' : Addr} {v : V} {u : Value} {Q : VK} {tb : TE}
    (hA : A.frames = X.A.frames) (hd : A.handled = none) (hroom : A.depth < recursionLimit) (S : NScope N ps fr scope) (hps : ps.length = 1) (cp : Caps X cl fr js)
    (hbind : ∀ (pm ctv u : Value), bindArgs (PySem.W.kla_fn "<lambda>" q params body scope cl pm (.ref c') ctv) ⟨[u], []⟩ = pure (ps.zip [u]))
    (hbody : PE (ncx CX0 X.prog X.w X.K X.mg X.base N (lamF q params scope cl c') f A X.stack s H E0).nox body tb)
    (I : Inv X pins σ H s) (hf : H f = some (LamO f q params body scope cl c')) (hc : H c' = some (CodeO c' q)) (rv : RelV v u) (ht : tb (startF N [v] (js.map (slotAt σ))) H Q) :
    wpAny (model X.prog X.w) A (call (.ref f) [u]) (fun w' s' => CE X.stack X.prog X.w H s Q w' s') (fun _ _ => False) s := by
  have e0' := I.env0
  have e0 : Env0 X.prog X.w X.K X.mg X.base A X.stack s H := ⟨hA.trans e0'.frames, e0'.mod, e0'.bs, e0'.bsz, e0'.funs, e0'.frf, e0'.hok, e0'.bare⟩
  obtain ⟨pm, ctv, ho⟩ := lamO_at I.hok hf
  have hcr := codeO_at I.hok hc
  have lim : s.heap.NoLimit := e0.mod.nolimit.keeps fun b o e => (e0.bs b o e).1
  have rc : codeAny (model X.prog X.w) A (.call (.ref f) ⟨[u], []⟩) (fun r s' => match r with | .ok (.ret w') => CE X.stack X.prog X.w H s Q w' s' | _ => False) s := by
    refine PySem.W.kla_callFunE hroom ho rfl S.co S.gen rfl hcr ?_
    rw [hbind]
    refine wpAny_pure (wpAny_newFunctionEnv S.nocell (fun ⟨n, _⟩ hy => S.par n (List.of_mem_zip hy).1) (fun h₁ hns hsb => ⟨lim.fresh _ hsb, ?_⟩) S.kind)
    show codeAny _ _ (.expr body (envF (lamF q params scope cl c') f s.heap.objs.size)) _ _
    have kp : ∀ b o, s.heap.get? b = some o → h₁.get? b = some o := fun b o e => hsb.extBut b o (Nat.ne_of_lt (Heap.lt_size e)) (Heap.get?_push_of_some _ e)
    have J : Inv (ncx CX0 X.prog X.w X.K X.mg X.base N (lamF q params scope cl c') f A X.stack s H E0) [] (startF N [v] (js.map (slotAt σ))) H { s with heap := h₁, toks := s.toks + (ps.zip [u]).length } :=
      inv_startN (us := [u]) S hd e0 (by rw [hps]; rfl) (.cons rv .nil) (cells_of I cp) hns kp
    refine PySem.W.kla_codeExpr (wpAny_mono (hbody.run [] _ _ H Q (J.wish _) ht) (fun w' s' hq => ?_) fun e s' hq => hq.elim)
    obtain ⟨v', H', J', rv', q'⟩ := hq
    have J' := J'.unwish
    exact ⟨v', H', J'.os, J'.bare, J'.base, J'.hok, rv', q'⟩
  refine wpAny_call (codeAny_mono rc fun r s' hq => ?_)
  cases r with
  | error e => exact hq.elim
  | ok fl =>
    cases fl with
    | ret u => exact hq
    | next => exact hq.elim
    | brk => exact hq.elim
    | cont => exact hq.elim
end
/-! ### sorted(xs, key=lambda p: .., reverse=True) -/
/-- G: what holds of the heap behind i turns, with the keys so far as values -/
def rSortLam (X : Cx) (σ : L2.St) (mk : Addr → Addr → HO) (q : Str) (N : List Str) (js : List Nat) (tb : TE) : List V → List V → Hp → VK → Prop := fun vs zs H Q =>
  ∃ (a f c' : Addr) (xs : List V) (ks : List PyData) (G : Nat → List V → Hp → Prop), vs = [V.ref a] ∧ zs = [.ref f, .bl true] ∧ SqL X.K H a xs ∧ ks.length = xs.length ∧ PySem.W.AllAlike ks ∧ PySem.W.Sortable ks ∧ (∀ p ∈ ks, p.depth ≤ 60) ∧
    (∀ i us H', G i us H' → H' f = some (mk f c') ∧ H' c' = some (CodeO c' q)) ∧ G 0 [] H ∧
    (∀ i x us H', xs[i]? = some x → us.length = i → G i us H' → tb (startF N [x] (js.map (slotAt σ))) H' fun u H'' => G (i + 1) (us ++ [u]) H'') ∧
    (∀ us H', G xs.length us H' → DpAll X.K H' us ks) ∧
    ∀ us H' p, G xs.length us H' → H' p = none → Q (.ref p) (upd H' p (.lst (((xs.zip ks).mergeSort (PySem.W.dataLe true (·.2))).map (·.1))))
theorem each_zip2 : ∀ {xs : List V} {ps : List PyData} {us : List Value}, xs.length = ps.length → Vals xs us → PySem.W.EachIs (fun u (b : V × PyData) => RelV b.1 u) us (xs.zip ps)
  | [], [], _, _, .nil => .nil
  | [], _ :: _, _, h, _ => by simp at h
  | _ :: _, [], _, h, _ => by simp at h
  | x :: xs, p :: ps, _, h, .cons r rs => .cons r (each_zip2 (by simpa using h) rs)
theorem each_zip3 {X : Cx} {pins : List (Addr × Obj)} {σ : L2.St} {H : Hp} {s : Shared} (I : Inv X pins σ H s) : ∀ {xs ws : List V} {ps : List PyData} {us : List Value}, xs.length = ps.length → DpAll X.K H ws ps → Vals ws us →
    PySem.W.EachIs (fun u (b : V × PyData) => ∃ as, Reads s.heap u b.2 as) us (xs.zip ps)
  | [], _, _, _, _, .nil, .nil => .nil
  | [], _, _, _, h, .cons _ _, _ => by simp at h
  | _ :: _, _, _, _, h, .nil, _ => by simp at h
  | x :: xs, _, _, _, hl, .cons h t, .cons r rs => .cons (Dp.reads I _ _ _ h r) (each_zip3 I (by simpa using hl) t rs)
theorem cr_sortLam {X : Cx} {σ : L2.St} {N ps fr : List Str} {js : List Nat} {q : Str} {params : Arguments} {body : Expr} {scope : Scope} {cl : List (Str × Addr)} {tb : TE} {pins : List (Addr × Obj)} {s : Shared} {H : Hp} {xs zs : List V} {us ws : List Value} {Q : VK}
    (hdn : X.A.handled = none) (hroom : X.A.depth < recursionLimit) (hu : X.A.units + 65 < cLine) (S : NScope N ps fr scope) (hps : ps.length = 1) (cp : X.Ok → Caps X cl fr js)
    (hbind : ∀ (c' : Addr) (pm ctv u : Value), bindArgs (PySem.W.kla_fn "<lambda>" q params body scope cl pm (.ref c') ctv) ⟨[u], []⟩ = pure (ps.zip [u]))
    (hbody : ∀ (f c' : Addr) (s : Shared) (H : Hp), PE (ncx CX0 X.prog X.w X.K X.mg X.base N (lamF q params scope cl c') f X.A.in1.in1 X.stack s H E0).nox body tb)
    (I : Inv X pins σ H s) (r : Vals xs us) (rz : Vals zs ws) (h : rSortLam X σ (fun f c' => LamO f q params body scope cl c') q N js tb xs zs H Q) :
    wpAny (model X.prog X.w) X.A (call (.builtin "sorted") us ([Str.ofString "key", Str.ofString "reverse"].zip ws)) (EP X pins σ Q) X.xe s := by
  obtain ⟨a, f, c', xs, ks, G, rfl, rfl, hs, hlk, hal, hsk, hdp, gf, g0, gt, gd, gq⟩ := h
  obtain rfl := Vals.ref1 r
  obtain ⟨w1, w2, rfl, e1, e2⟩ := vals2 rz
  obtain rfl : w1 = Value.ref f := e1
  obtain rfl : w2 = Value.bool true := e2
  obtain ⟨its, rv, hl, hz⟩ := I.list hs
  have hlen : xs.length = ks.length := hlk.symm
  have em : (xs.zip ks).map (·.2) = ks := List.map_snd_zip (by omega)
  have ezl : (xs.zip ks).length = xs.length := by rw [List.length_zip]; omega
  refine sortJ (R := fun u (b : V × PyData) => RelV b.1 u) (bs := xs.zip ks) (fun b => b.2) (f := .ref f) (kw := [(Str.ofString "key", .ref f), (Str.ofString "reverse", .bool true)]) (b := true)
    (J := fun a k i us s' => ∃ H' vs, Inv X pins σ H' s' ∧ FpOk X pins H' a ∧ FpOk X pins H' k ∧ Vals vs us ∧ G i vs H')
    hl.isList (each_zip2 hlen rv) (by rw [em]; exact hal) (by rw [em]; exact hsk) (by rw [ezl]; exact hz) (fun b hb => by have := hdp b.2 (by rw [← em]; exact List.mem_map_of_mem hb); omega)
    (PyProof.Rows.ksk_s2 _ _ _) (fun _ => PyProof.Rows.ksk_l2 _ _ _) (fun _ => PyProof.Rows.ksk_t2 _ _ _) (fun a k h' tk ha hk hne kp => ?_) (fun a k i us s' h' tk jj kp => ?_)
    (fun a k e1 i v x us s' hv hx hR hi jj at_ => ?_) (fun a k us s' jj => ?_) (fun a k us s' out c jj hD hlo eo => ?_)
  · exact ⟨H, [], I.kept kp, I.fpOk ha (I.hok.fresh ha), I.fpOk hk (I.hok.fresh hk), .nil, g0⟩
  · obtain ⟨H', vs, I', fa, fk, rvs, g⟩ := jj
    refine ⟨H', vs, I'.turnedL (ch := [a, k]) (fun b o hb e => ?_) (fun b hb => ?_), fa, fk, rvs, g⟩
    · exact kp b o (fun z => hb (by rw [z]; exact List.mem_cons_self)) (fun z => hb (by rw [z]; exact List.mem_cons_of_mem _ List.mem_cons_self)) e
    · rcases List.mem_cons.mp hb with z | z
      · rw [z]; exact fa
      · rw [List.mem_singleton.mp z]; exact fk
  · obtain ⟨H', vs, I', fa, fk, rvs, g⟩ := jj
    obtain ⟨k1, k2⟩ := gf _ _ _ g
    have hxi : xs[i]? = some x.1 := by
      obtain ⟨z1, z2⟩ := List.getElem?_zip_eq_some.mp hx
      exact z1
    have ht := gt i x.1 vs H' hxi (by rw [rvs.length]; exact hi) g
    refine wpAny_mono (lam_call (X := X) (A := X.A.in1.in1) rfl hdn hroom S hps (cp I'.ok) (hbind c') (hbody f c' s' H') I' k1 k2 hR ht) (fun u s'' hq => ?_) fun _ _ z => z
    obtain ⟨v', H'', os, bare, un, hok, rv', g'⟩ := hq
    have keep : ∀ b, FpOk X pins H' b → ∀ o, s'.heap.get? b = some o → s''.heap.get? b = some o ∧ H'' b = none := fun b fb o e => by
      have nb : b ∉ frs X.stack := fun z => by
        rcases List.mem_cons.mp (I'.stkSub _ z) with e' | e'
        · exact fb.2.1 e'
        · exact fb.2.2.1 e'
      exact ⟨un.keep b o e fb.1 nb (by simp), un.free b o e fb.1 (by simp)⟩
    obtain ⟨ek, nk⟩ := at_.keys
    obtain ⟨a1, a2⟩ := keep a fa _ at_.at_
    obtain ⟨b1, b2⟩ := keep k fk _ nk
    exact ⟨⟨H'', vs ++ [v'], I'.call' (ch := []) os un hok bare (fun b z => absurd z (by simp)), ⟨a2, fa.2⟩, ⟨b2, fk.2⟩, rvs.append (.cons rv' .nil), g'⟩, a1, ek, b1⟩
  · obtain ⟨H', vs, I', fa, fk, rvs, g⟩ := jj
    rw [ezl] at g
    exact each_zip3 I' hlen (gd vs H' g) rvs
  · obtain ⟨H', vs, I', fa, fk, rvs, g⟩ := jj
    rw [ezl] at g
    refine ⟨.ref a, _, I'.take (it := a) (o := .lst (((xs.zip ks).mergeSort (PySem.W.dataLe true (·.2))).map (·.1))) (h' := s'.heap) (t' := s'.toks) (fun b ob _ e => e) fa ⟨?_, out, c, vals_each eo, hD⟩, rfl, gq vs H' a g fa.1⟩
    rw [List.length_map, List.length_mergeSort, ezl]
    exact hz
section
variable {X : Cx}
def tSortLam (X : Cx) (P : Addr) (mk : Addr → Addr → HO) (q : Str) (N : List Str) (js : List Nat) (te tb : TE) : TE := fun σ H Q => te σ H fun v H1 => tLamO P q mk σ H1 fun f H2 => rSortLam X σ mk q N js tb [v] [f, .bl true] H2 Q
theorem pe_sortLam {P c : Addr} {N ps fr : List Str} {js : List Nat} {params : Arguments} {body e1 : Expr} {scope : Scope} {te tb : TE} {p pos lpos cp kp1 kp2 : Pos} {k0 : Nat} (hg : Gl X "sorted") (hm : X.mg "sorted" = none) (hp : starEach [e1] X.env = (false, eval e1 X.env) :: starEach [] X.env)
    (TB : TabB X.base X.mg c P) (hcode : X.env.code = .ref c) (hdef : defaultsOf params X.env = ([], [])) (hfree : ∀ y ∈ scope.names, y.2 = .free → X.env.scope.names.lookup y.1 = some .cell ∨ X.env.scope.names.lookup y.1 = some .free)
    (hdn : X.A.handled = none) (hroom : X.A.depth < recursionLimit) (hu : X.A.units + 65 < cLine) (S : NScope N ps fr scope) (hps : ps.length = 1) (cp' : X.Ok → Caps X (cloFrom X.env.cells scope.names []) fr js)
    (hbind : ∀ (c' : Addr) (pm ctv u : Value), bindArgs (PySem.W.kla_fn "<lambda>" (X.env.qual ++ "<lambda>") params body scope (cloFrom X.env.cells scope.names []) pm (.ref c') ctv) ⟨[u], []⟩ = pure (ps.zip [u]))
    (hbody : ∀ (f c' : Addr) (s : Shared) (H : Hp), PE (ncx CX0 X.prog X.w X.K X.mg X.base N (lamF (X.env.qual ++ "<lambda>") params scope (cloFrom X.env.cells scope.names []) c') f X.A.in1.in1 X.stack s H E0).nox body tb)
    (h1 : PE X e1 te) :
    PE X (.Call (.Name "sorted" p) [e1] [⟨some "key", .Lambda params body scope lpos, kp1⟩, ⟨some "reverse", .Constant (.bool true) k0 cp, kp2⟩] pos)
      (tSortLam X P (fun f c' => LamO f (X.env.qual ++ "<lambda>") params body scope (cloFrom X.env.cells scope.names []) c') (X.env.qual ++ "<lambda>") N js te tb) := by
  refine ⟨fun pins s σ H Q I h => ?_⟩
  have hks : (backToKw pos (keywordEach [(⟨some "key", .Lambda params body scope lpos, kp1⟩ : Keyword), ⟨some "reverse", .Constant (.bool true) k0 cp, kp2⟩] X.env)).filterMap (·.1) = [Str.ofString "key", Str.ofString "reverse"] := by rfl
  have hk := pk_cons (nm := some "key") (kpos := kp1) (pe_lam (pos := lpos) (body := body) TB hcode hdef hfree) (pk_cons (nm := some "reverse") (kpos := kp2) (pe_bl (X := X) (b := true) (j := k0) (pos := cp)) pk_nil)
  refine wpAny_Call_Name_kw (ld_blt I hg hm (u := .builtin "sorted") (by decide +kernel) ?_ (by decide +kernel) (by decide +kernel))
  have ha : PA X [e1] (tCons te tNil) := pa_cons h1 pa_nil hp
  refine PyProof.Rows.callWith_kw (thn (ha.run pos pins s σ H (fun vs H1 => tLamO P (X.env.qual ++ "<lambda>") (fun f c' => LamO f (X.env.qual ++ "<lambda>") params body scope (cloFrom X.env.cells scope.names []) c') σ H1 fun f H2 => rSortLam X σ (fun f c' => LamO f (X.env.qual ++ "<lambda>") params body scope (cloFrom X.env.cells scope.names []) c') (X.env.qual ++ "<lambda>") N js tb vs [f, .bl true] H2 Q) I h) fun us s1 ⟨vs, H1, I1, r1, q1⟩ => thn (hk.run pos pins s1 σ H1 (fun zs H2 => rSortLam X σ (fun f c' => LamO f (X.env.qual ++ "<lambda>") params body scope (cloFrom X.env.cells scope.names []) c') (X.env.qual ++ "<lambda>") N js tb vs zs H2 Q) I1 ?_) fun ws s2 ⟨zs, H2, I2, r2, q2⟩ => ?_) (by rw [hp]; rfl) (by rw [hp]; rfl) rfl rfl
  · exact q1
  · rw [hks]
    exact cr_sortLam hdn hroom hu S hps cp' hbind hbody I2 r1 r2 q2
end
end Dl
end

section
set_option Elab.async false
set_option linter.all false
set_option maxRecDepth 100000
/-! Dl: deep data over the hand layer. Data, a store of mutable objects, a small language, its big step meaning. -/
namespace Dl
open PySem PySem.Spec PyProof.Rows L2

/-- a datum: tuples are deep, lists and dicts stand in the store, ro is a list that is never written -/
inductive D where
  | non | bl (b : Bool) | int (i : Int) | str (x : Str) | tup (ds : List D) | ref (l : Nat) | ro (ds : List D)
  deriving Inhabited

mutual
def D.beq : D → D → Bool
  | .non, .non => true
  | .bl a, .bl b => a == b
  | .int a, .int b => decide (a = b)
  | .str a, .str b => decide (a = b)
  | .tup a, .tup b => D.beqs a b
  | .ref a, .ref b => a == b
  | .ro a, .ro b => D.beqs a b
  | _, _ => false
def D.beqs : List D → List D → Bool
  | [], [] => true
  | a :: as, b :: bs => D.beq a b && D.beqs as bs
  | _, _ => false
end
mutual
theorem D.eq_of_beq : ∀ a b : D, D.beq a b = true → a = b
  | .non, b, h => by cases b <;> first | rfl | simp [D.beq] at h
  | .bl x, b, h => by cases b <;> simp [D.beq] at h; subst h; rfl
  | .int x, b, h => by cases b <;> simp [D.beq] at h; subst h; rfl
  | .str x, b, h => by cases b <;> simp [D.beq] at h; subst h; rfl
  | .tup x, b, h => by
    cases b with
    | tup y => rw [D.eqs_of_beqs x y (by simpa [D.beq] using h)]
    | _ => simp [D.beq] at h
  | .ref x, b, h => by cases b <;> simp [D.beq] at h; subst h; rfl
  | .ro x, b, h => by
    cases b with
    | ro y => rw [D.eqs_of_beqs x y (by simpa [D.beq] using h)]
    | _ => simp [D.beq] at h
theorem D.eqs_of_beqs : ∀ a b : List D, D.beqs a b = true → a = b
  | [], [], _ => rfl
  | [], _ :: _, h => by simp [D.beqs] at h
  | _ :: _, [], h => by simp [D.beqs] at h
  | a :: as, b :: bs, h => by
    simp only [D.beqs, Bool.and_eq_true] at h
    rw [D.eq_of_beq a b h.1, D.eqs_of_beqs as bs h.2]
end
mutual
theorem D.beq_self : ∀ a : D, D.beq a a = true
  | .non => rfl
  | .bl x => by simp [D.beq]
  | .int x => by simp [D.beq]
  | .str x => by simp [D.beq]
  | .tup x => by simp only [D.beq]; exact D.beqs_self x
  | .ref x => by simp [D.beq]
  | .ro x => by simp only [D.beq]; exact D.beqs_self x
theorem D.beqs_self : ∀ a : List D, D.beqs a a = true
  | [] => rfl
  | a :: as => by simp only [D.beqs, D.beq_self a, D.beqs_self as, Bool.and_self]
end
instance : DecidableEq D := fun a b => if h : D.beq a b = true then isTrue (D.eq_of_beq a b h) else isFalse fun e => h (e ▸ D.beq_self a)

/-- an object of the store -/
inductive Ob where
  | lst (ds : List D)
  | dk (kvs : List (Key × D))
  | dt (lk : Bool) (kvs : List (List Key × D))
  deriving DecidableEq, Inhabited

abbrev Store := List Ob
/-- the slots of a def -/
abbrev Sl := List (Option D)
def M (α : Type) := Store → Option (α × Store)
@[inline] def M.pur {α : Type} (a : α) : M α := fun S => some (a, S)
@[inline] def M.bnd {α β : Type} (m : M α) (f : α → M β) : M β := fun S => match m S with | some (a, S') => f a S' | none => none
instance : Monad M := { pure := M.pur, bind := M.bnd }
def fail {α : Type} : M α := fun _ => none
def getO (l : Nat) : M Ob := fun S => match S[l]? with | some o => some (o, S) | none => none
def setO (l : Nat) (o : Ob) : M Unit := fun S => if l < S.length then some ((), S.set l o) else none
def newO (o : Ob) : M D := fun S => some (.ref S.length, S ++ [o])
def need (b : Bool) : M Unit := fun S => if b then some ((), S) else none

/-- what holds behind a run that ends -/
def wp {α : Type} (m : M α) (Q : α → Store → Prop) (S : Store) : Prop := match m S with | some (a, S') => Q a S' | none => False
section
variable {α β : Type}
@[simp] theorem wp_pure (a : α) (Q : α → Store → Prop) (S : Store) : wp (pure a : M α) Q S = Q a S := rfl
@[simp] theorem wp_bind (m : M α) (f : α → M β) (Q : β → Store → Prop) (S : Store) : wp (m >>= f) Q S = wp m (fun a S' => wp (f a) Q S') S := by
  show (match (match m S with | some (a, S') => f a S' | none => none) with | some (a, S') => Q a S' | none => False) = _
  unfold wp
  cases m S with
  | none => rfl
  | some p => rfl
@[simp] theorem wp_fail (Q : α → Store → Prop) (S : Store) : wp (fail : M α) Q S = False := rfl
theorem wp_mono {m : M α} {Q R : α → Store → Prop} {S : Store} (h : wp m Q S) (k : ∀ a S', Q a S' → R a S') : wp m R S := by
  unfold wp at *
  cases e : m S with
  | none => rw [e] at h; exact h
  | some p => rw [e] at h; exact k _ _ h
theorem wp_of {m : M α} {Q : α → Store → Prop} {S S' : Store} {a : α} (e : m S = some (a, S')) (h : Q a S') : wp m Q S := by unfold wp; rw [e]; exact h
theorem wp_some {m : M α} {Q : α → Store → Prop} {S : Store} (h : wp m Q S) : ∃ a S', m S = some (a, S') ∧ Q a S' := by
  unfold wp at h
  cases e : m S with
  | none => rw [e] at h; exact h.elim
  | some p => rw [e] at h; exact ⟨p.1, p.2, rfl, h⟩
@[simp] theorem wp_getO (l : Nat) (Q : Ob → Store → Prop) (S : Store) : wp (getO l) Q S = ∃ o, S[l]? = some o ∧ Q o S := by
  unfold wp getO
  cases S[l]? with
  | none => simp
  | some o => simp
@[simp] theorem wp_setO (l : Nat) (o : Ob) (Q : Unit → Store → Prop) (S : Store) : wp (setO l o) Q S = (l < S.length ∧ Q () (S.set l o)) := by
  unfold wp setO
  by_cases h : l < S.length <;> simp [h]
@[simp] theorem wp_newO (o : Ob) (Q : D → Store → Prop) (S : Store) : wp (newO o) Q S = Q (.ref S.length) (S ++ [o]) := rfl
@[simp] theorem wp_need (b : Bool) (Q : Unit → Store → Prop) (S : Store) : wp (need b) Q S = (b = true ∧ Q () S) := by
  unfold wp need
  cases b <;> simp
theorem wp_ite (c : Bool) (a b : M α) (Q : α → Store → Prop) (S : Store) : wp (if c = true then a else b) Q S = if c = true then wp a Q S else wp b Q S := by cases c <;> rfl
end

/-! ### operations on data -/
/-- numbers whose product the machine takes -/
def mulFits (i j : Int) : Bool := decide (i.natAbs.log2 + j.natAbs.log2 < 1000000)
def getL (d : D) : M (List D) := match d with
  | .ref l => do match ← getO l with | .lst ds => pure ds | _ => fail
  | .ro ds => pure ds
  | _ => fail
/-- the items of a list or a tuple -/
def getS (d : D) : M (List D) := match d with
  | .tup ds => pure ds
  | d => getL d
def lens (n : Nat) : Bool := decide (n ≤ sizeLine)
/-- of the data that == compares -/
def flat : D → Bool
  | .non => true | .bl _ => true | .int _ => true | .str _ => true | _ => false
mutual
def pyOf : D → Option PyData
  | .non => some .none
  | .bl b => some (.bool b)
  | .int i => some (.int i)
  | .str x => some (.str x)
  | .tup ds => (pysOf ds).map .tuple
  | .ref _ => none
  | .ro _ => none
def pysOf : List D → Option (List PyData)
  | [] => some []
  | d :: ds => match pyOf d, pysOf ds with
    | some a, some b => some (a :: b)
    | _, _ => none
end
/-- a datum to be compared by ==: lists one deep -/
def pyAt (S : Store) : D → Option PyData
  | .ref l => match S[l]? with | some (.lst ds) => (pysOf ds).map .list | _ => none
  | d => pyOf d
def pysAt (S : Store) : List D → Option (List PyData)
  | [] => some []
  | d :: ds => match pyAt S d, pysAt S ds with
    | some a, some b => some (a :: b)
    | _, _ => none
/-- the first place of an item that is == d -/
def remAt (xs : List D) (d : D) : M Nat := fun S => match pysAt S xs, pyAt S d with
  | some ps, some p => if SeqAt.shaped (.list ps) && SeqAt.shaped p then (match ps.findIdx? fun z => PyData.eqv z p with | some j => some (j, S) | none => none) else none
  | _, _ => none
def eqD (a b : D) : M Bool := fun S => match pyAt S a, pyAt S b with
  | some x, some y => if SeqAt.shaped x && SeqAt.shaped y then some (PyData.eqv x y, S) else none
  | _, _ => none
def intsOf : List D → Option (List Int)
  | [] => some []
  | .int i :: ds => (intsOf ds).map (i :: ·)
  | _ => none
def blsOf : List D → Option (List Bool)
  | [] => some []
  | .bl i :: ds => (blsOf ds).map (i :: ·)
  | _ => none
/-- a tuple of ints as a key -/
def keyI : D → Option (List Key)
  | .tup ds => match intsOf ds with
    | some (i :: is) => some ((i :: is).map Sum.inl)
    | _ => none
  | _ => none
def isKey (ds : List D) : Bool := (keyI (.tup ds)).isSome
/-- a key as a tuple -/
def unkey (k : List Key) : D := .tup (k.map fun x => match x with | .inl i => .int i | .inr x => .str x)
def findT (kvs : List (List Key × D)) (k : List Key) : Option D := (kvs.find? fun kv => decide (kv.1 = k)).map (·.2)
/-- in its place, or at the end -/
def putT (kvs : List (List Key × D)) (k : List Key) (d : D) : List (List Key × D) :=
  if (kvs.any fun kv => decide (kv.1 = k)) = true then kvs.map (fun kv => if kv.1 = k then (kv.1, d) else kv) else kvs ++ [(k, d)]
def dropT (kvs : List (List Key × D)) (k : List Key) : List (List Key × D) := kvs.filter fun kv => decide (kv.1 ≠ k)
/-- a dict: is it locked, what it holds -/
def getT (d : D) : M (Bool × List (List Key × D)) := match d with
  | .ref l => do match ← getO l with | .dt b kvs => pure (b, kvs) | _ => fail
  | _ => fail
def toKey (d : D) : M (List Key) := match keyI d with | some k => pure k | none => fail
def dgetD (x y : D) : M D := do
  let t ← getT x
  let k ← toKey y
  match findT t.2 k with | some d => pure d | none => fail
def dinD (y x : D) : M Bool := do
  let t ← getT x
  let k ← toKey y
  pure (findT t.2 k).isSome
def isT (d : D) : M Unit := do let _ ← getT d; pure ()
def dget2D (x y z : D) : M D := do
  let t ← getT x
  let k ← toKey y
  pure ((findT t.2 k).getD z)
def dpopD (x y : D) : M D := match x with
  | .ref l => do
    match ← getO l with
    | .dt false kvs => do
      let k ← toKey y
      match findT kvs k with
      | some d => do setO l (.dt false (dropT kvs k)); pure d
      | none => fail
    | _ => fail
  | _ => fail
def dputD (x y z : D) : M Unit := match x with
  | .ref l => do
    match ← getO l with
    | .dt false kvs => do
      let k ← toKey y
      need (decide (kvs.length < sizeLine))
      setO l (.dt false (putT kvs k z))
    | _ => fail
  | _ => fail
/-- pairs of tuples of ints -/
def pairI : D → Option (List Int × List Int)
  | .tup [.tup a, .tup b] => match intsOf a, intsOf b with
    | some m, some n => some (m, n)
    | _, _ => none
  | _ => none
def pairsI : List D → Option (List (List Int × List Int))
  | [] => some []
  | d :: ds => match pairI d, pairsI ds with
    | some p, some ps => some (p :: ps)
    | _, _ => none
def encI (k : List Int) : PyData := .tuple (k.map .int)
def encP (p : List Int × List Int) : PyData := .tuple [encI p.1, encI p.2]
/-- downwards by the keys, stable -/
def sortBy (ds : List D) (ks : List PyData) : List D := ((ds.zip ks).mergeSort (PySem.W.dataLe true (·.2))).map (·.1)
def sortPD (x : D) : M D := do
  let ds ← getL x
  match pairsI ds with
  | some ps => newO (.lst (sortBy ds (ps.map encP)))
  | none => fail
/-- the greatest of numbers -/
def maxI (n : Int) (ns : List Int) : Int := ns.foldl max n
def maxLD (x : D) : M D := do
  let ds ← getL x
  match intsOf ds with
  | some (n :: ns) => pure (.int (maxI n ns))
  | _ => fail
def maxDD (x y : D) : M D := do
  let ds ← getL x
  match intsOf ds with
  | some [] => pure y
  | some (n :: ns) => pure (.int (maxI n ns))
  | none => fail
/-- the keys of the items, one after another -/
def keyOfD : D → Option (List Int)
  | .tup ks => match intsOf ks with
    | some (i :: is) => some (i :: is)
    | _ => none
  | _ => none
def keysL (g : D → M D) : List D → M (List (List Int))
  | [] => pure []
  | d :: ds => do
    let k ← g d
    match keyOfD k with
    | some z => do let r ← keysL g ds; pure (z :: r)
    | none => fail
def bop (o : Operator) (a b : D) : M D := match o, a, b with
  | .Add, .int i, .int j => pure (.int (i + j))
  | .Add, .tup x, .tup y => do need (lens (x.length + y.length)); pure (.tup (x ++ y))
  | .Add, .ref x, .ref y => do
    match ← getO x, ← getO y with
    | .lst ds, .lst es => do need (lens (ds.length + es.length)); newO (.lst (ds ++ es))
    | _, _ => fail
  | .Add, .str x, .str y => do need (lens (x.length + y.length)); pure (.str (x ++ y))
  | .Sub, .int i, .int j => pure (.int (i - j))
  | .Mult, .int i, .int j => do need (mulFits i j); pure (.int (i * j))
  | .Mult, .tup x, .int k => do need (decide (x ≠ []) && decide (1 ≤ k) && decide (k ≤ 1000) && decide (x.length ≤ 1000)); pure (.tup (List.replicate k.toNat x).flatten)
  | .Mult, .ref x, .int k => do
    match ← getO x with
    | .lst ds => do need (decide (-(2 ^ 63) ≤ k) && decide (k < 2 ^ 63) && lens (ds.length * k.toNat)); newO (.lst (List.replicate k.toNat ds).flatten)
    | _ => fail
  | .FloorDiv, .int i, .int j => do need (decide (j ≠ 0) && decide (j.natAbs.log2 < 9000)); pure (.int (i.fdiv j))
  | .Mod, .int i, .int j => do need (decide (j ≠ 0)); pure (.int (i.fmod j))
  | .Pow, .int i, .int j => do need (decide (0 ≤ j) && decide (j ≤ 1000000) && decide (i.natAbs < 2 ^ 64)); pure (.int (i ^ j.toNat))
  | .LShift, .int i, .int j => do need (decide (0 ≤ j) && decide (j ≤ 1000000) && decide (i.natAbs < 2 ^ 64)); pure (.int (i * 2 ^ j.toNat))
  | _, _, _ => fail
/-- x op= y that is x = x op y -/
def augOk (o : Operator) (a b : D) : Bool := match o, a, b with
  | .Add, .int _, .int _ => true
  | .Sub, .int _, .int _ => true
  | _, _, _ => false
/-- x in xs of flat items, == between flat data -/
def eqF : D → D → Bool
  | .non, .non => true
  | .bl a, .bl b => a == b
  | .bl a, .int b => (if a then 1 else 0) == b
  | .int a, .bl b => a == (if b then 1 else 0)
  | .int a, .int b => a == b
  | .str a, .str b => a == b
  | _, _ => false
def inF (x : D) (ds : List D) : Bool := ds.any fun y => eqF y x
def keysD : List D → Option (List Key)
  | [] => some []
  | .int i :: ds => (keysD ds).map (Sum.inl i :: ·)
  | .str x :: ds => (keysD ds).map (Sum.inr x :: ·)
  | _ => none
def cop (o : CmpOp) (a b : D) : M Bool := match o, a, b with
  | .Lt, .int i, .int j => pure (decide (i < j))
  | .LtE, .int i, .int j => pure (decide (i ≤ j))
  | .Gt, .int i, .int j => pure (decide (j < i))
  | .GtE, .int i, .int j => pure (decide (j ≤ i))
  | .Lt, .tup x, .tup y => match intsOf x, intsOf y with
    | some m, some n => pure (lexC m n == .lt)
    | _, _ => fail
  | .Gt, .tup x, .tup y => match intsOf x, intsOf y with
    | some m, some n => pure (lexC m n == .gt)
    | _, _ => fail
  | .Lt, .ref x, .ref y => do
    match ← getO x, ← getO y with
    | .lst ds, .lst es => match intsOf ds, intsOf es with
      | some m, some n => pure (lexC m n == .lt)
      | _, _ => fail
    | _, _ => fail
  | .Eq, a, b => eqD a b
  | .NotEq, a, b => do pure (!(← eqD a b))
  | .Is, a, .non => pure (decide (a = .non))
  | .IsNot, a, .non => pure (!decide (a = .non))
  | .Is, .bl a, .bl b => pure (decide (a = b))
  | .IsNot, .bl a, .bl b => pure (!decide (a = b))
  | .In, x, y => do
    let ds ← getS y
    need (flat x && ds.all flat)
    pure (inF x ds)
  | .NotIn, x, y => do
    let ds ← getS y
    need (flat x && ds.all flat)
    pure (!inF x ds)
  | _, _, _ => fail
def truth (d : D) : M Bool := match d with
  | .non => pure false
  | .bl b => pure b
  | .int i => pure (i != 0)
  | .str x => do need (lens x.length); pure ((x.length : Int) != 0)
  | .tup ds => pure (!ds.isEmpty)
  | .ref l => do match ← getO l with | .lst ds => pure (!ds.isEmpty) | _ => fail
  | .ro ds => pure (!ds.isEmpty)
/-- xs[i] -/
def ixD (a b : D) : M D := match b with
  | .int i => match a with
    | .str z => do need (lens z.length); match atI z.cps.toList i with | some c => pure (.str ⟨#[c]⟩) | none => fail
    | a => do let ds ← getS a; match atI ds i with | some d => pure d | none => fail
  | _ => fail
def cutD (ds : List D) (lo hi : Option Int) : List D := (ds.drop (HT.sIx ds.length 0 lo)).take (HT.sIx ds.length ds.length hi - HT.sIx ds.length 0 lo)
def slD (a : D) (lo hi : Option Int) : M D := match a with
  | .tup ds => pure (.tup (cutD ds lo hi))
  | .ref l => do match ← getO l with | .lst ds => newO (.lst (cutD ds lo hi)) | _ => fail
  | .ro ds => newO (.lst (cutD ds lo hi))
  | .str z => do need (lens z.length); pure (.str (cutS z lo hi))
  | _ => fail
/-- xs[::-1] -/
def revD (a : D) : M D := match a with
  | .tup ds => pure (.tup ds.reverse)
  | .ref l => do match ← getO l with | .lst ds => newO (.lst ds.reverse) | _ => fail
  | _ => fail

/-- built-in functions by name -/
inductive Bi where
  | len | sum | abs | int | max | min | tuple | list | all | any | gcd
  deriving DecidableEq, Repr
def biRun (b : Bi) (ds : List D) : M D := match b, ds with
  | .len, [.str x] => do need (lens x.length); pure (.int x.length)
  | .len, [d] => do let ds ← getS d; pure (.int ds.length)
  | .sum, [d] => do let ds ← getS d; match intsOf ds with | some ns => pure (.int ns.sum) | none => fail
  | .abs, [.int i] => pure (.int (if i < 0 then -i else i))
  | .int, [.int i] => pure (.int i)
  | .int, [.bl b] => pure (.int (if b then 1 else 0))
  | .max, [.int i, .int j] => pure (.int (if j > i then j else i))
  | .min, [.int i, .int j] => pure (.int (if j < i then j else i))
  | .tuple, [d] => do let ds ← getS d; pure (.tup ds)
  | .list, [d] => do let ds ← getS d; newO (.lst ds)
  | .all, [d] => do let ds ← getL d; match blsOf ds with | some bs => pure (.bl (bs.all id)) | none => fail
  | .any, [d] => do let ds ← getL d; match blsOf ds with | some bs => pure (.bl (bs.any id)) | none => fail
  | .gcd, [.int a, .int b] => pure (.int ((Nat.gcd a.natAbs b.natAbs : Nat) : Int))
  | _, _ => fail
/-- methods of lists -/
inductive Me where
  | append | pop | popAt | reverse | remove
  deriving DecidableEq, Repr
def meRun (m : Me) (o : D) (ds : List D) : M D := match o with
  | .ref l => do
    match ← getO l with
    | .lst xs => match m, ds with
      | .append, [d] => do need (decide (xs.length < sizeLine)); setO l (.lst (xs ++ [d])); pure .non
      | .pop, [] => match xs[xs.length - 1]? with
        | some y => do setO l (.lst xs.dropLast); pure y
        | none => fail
      | .popAt, [.int i] => do
        need (decide (-(2 ^ 63) ≤ i) && decide (i < 2 ^ 63))
        match ixN xs.length i with
        | some k => match xs[k]? with
          | some y => do setO l (.lst (xs.eraseIdx k)); pure y
          | none => fail
        | none => fail
      | .reverse, [] => do setO l (.lst xs.reverse); pure .non
      | .remove, [d] => do let j ← remAt xs d; setO l (.lst (xs.eraseIdx j)); pure .non
      | _, _ => fail
    | _ => fail
  | _ => fail
def isL (d : D) : M Unit := match d with
  | .ref l => do match ← getO l with | .lst _ => pure () | _ => fail
  | _ => fail
/-- kinds for isinstance -/
inductive Ty where | int | str | bool | tuple | list
  deriving DecidableEq, Repr
def Ty.name : Ty → String
  | .int => "int" | .str => "str" | .bool => "bool" | .tuple => "tuple" | .list => "list"
def isTy (S : Store) (d : D) (t : Ty) : Option Bool := match d with
  | .non => some false
  | .bl _ => some (t == .bool || t == .int)
  | .int _ => some (t == .int)
  | .str _ => some (t == .str)
  | .tup _ => some (t == .tuple)
  | .ref l => match S[l]? with | some (.lst _) => some (t == .list) | _ => none
  | .ro _ => some (t == .list)
def anyTy (S : Store) (d : D) : List Ty → Option Bool
  | [] => some false
  | t :: ts => match isTy S d t with
    | some true => some true
    | some false => anyTy S d ts
    | none => none
def isiRun (d : D) (ts : List Ty) : M D := fun S => match anyTy S d ts with | some b => some (.bl b, S) | none => none
def setIx (o i v : D) : M Unit := match o, i with
  | .ref l, .int k => do
    match ← getO l with
    | .lst xs => match ixN xs.length k with | some j => setO l (.lst (xs.set j v)) | none => fail
    | _ => fail
  | _, _ => fail

/-! ### the language -/
mutual
inductive IE where
  | var (i : Nat) | int (z : Int) | bl (b : Bool) | non | str (x : Str) | glo (g : Nat)
  | tup (es : IEs) | lst (es : IEs)
  | op (o : Operator) (a b : IE) | neg (a : IE) | not (a : IE) | and (a b : IE) | or (a b : IE)
  | cmp (o : CmpOp) (a b : IE) | chain (o o2 : CmpOp) (a b c : IE) | ite (c a b : IE)
  | ix (a b : IE) | sl (a : IE) (lo hi : IO) | rev (a : IE)
  | call (f : Nat) (es : IEs) | bi (b : Bi) (es : IEs) | me (m : Me) (o : IE) (es : IEs) | isi (a : IE) (t : Ty) | isis (a : IE) (ts : List Ty)
  | comp (t : TG) (own : List Nat) (it : II) (cond : IC) (e : IE) | tupr (a : IE) | lstr (a : IE)
  | dnew | dget (a b : IE) | din (a b : IE) | dget2 (a b c : IE) | dpop (a b : IE) | dcomp (i : Nat) (t : TG) (own : List Nat) (cond : IC) (e : IE) | sortp (a : IE)
  | maxl (a : IE) | maxd (a b : IE) | dmk (t : TG) (own : List Nat) (it : II) (k v : IE)
inductive IEs where
  | nil | cons (e : IE) (es : IEs)
inductive IO where
  | no | so (e : IE)
inductive IC where
  | no | so (e : IE)
inductive II where
  | seq (e : IE) | rng1 (e : IE) | rng2 (a b : IE) | zip (a b : IE)
inductive TG where
  | nm (i : Nat) | tp (ts : TGs) | ixs (o i : IE)
inductive TGs where
  | nil | cons (t : TG) (ts : TGs)
end
mutual
inductive IS where
  | asg (t : TG) (e : IE) | par (i j : Nat) (a b : IE) | aug (i : Nat) (o : Operator) (e : IE) | expr (e : IE) | ret (e : IE) | retN
  | ite (c : IE) (a b : ISs) | forr (t : TG) (it : II) (b : ISs) | whl (c : IE) (b : ISs) | pass | brk | cnt
  | dput (o i v : IE) | rsort (i : Nat) (xs e : IE)
inductive ISs where
  | nil | cons (s : IS) (ss : ISs)
end

inductive Fl where
  | nx | rt (d : D) | bk | ct
/-- the machine's bound of a while loop's turns -/
def bigN : Nat := 2 ^ 60

/-- what is walked: the items, and the list that must not change meanwhile -/
structure Src where
  items : List D
  guard : Option (Nat × List D) := none
  guard2 : Option (Nat × List D) := none
def grd1 : Option (Nat × List D) → M Unit
  | none => pure ()
  | some (l, ds) => fun S => if S[l]? = some (.lst ds) then some ((), S) else none
def Src.grd (s : Src) : M Unit := do grd1 s.guard; grd1 s.guard2
def rngItems (i j : Int) : List D := (List.range (j - i).toNat).map fun (k : Nat) => .int (i + k)
def seqSrc (d : D) : M Src := match d with
  | .tup ds => pure ⟨ds, none, none⟩
  | .ro ds => pure ⟨ds, none, none⟩
  | .ref l => do match ← getO l with | .lst ds => pure ⟨ds, some (l, ds), none⟩ | _ => fail
  | _ => fail
def isTup : D → Bool
  | .tup _ => true
  | _ => false
def zipSrc (a b : D) : M Src := do
  need (isTup a == isTup b)
  let x ← seqSrc a
  let y ← seqSrc b
  pure ⟨(x.items.zip y.items).map fun p => .tup [p.1, p.2], x.guard, y.guard⟩
def small62 (i : Int) : Bool := decide (-(2 ^ 62) ≤ i) && decide (i < 2 ^ 62)
def rngSrc (a b : D) : M Src := match a, b with
  | .int i, .int j => do need (small62 i && small62 j); pure ⟨rngItems i j, none, none⟩
  | _, _ => fail
/-- range(n) as a value that is used up at once -/
def rngOk (i : Int) : Bool := small62 i && decide (i ≤ 16777216)
/-- the turns of a comprehension -/
def compL (s : Src) (f : D → M (Option D)) : List D → List D → M (List D)
  | [], acc => do s.grd; pure acc
  | d :: ds, acc => do
    s.grd
    match ← f d with
    | some y => do need (decide (acc.length < sizeLine)); compL s f ds (acc ++ [y])
    | none => compL s f ds acc
/-- the turns of a comprehension that makes a dict -/
def dcL (s : Src) (f : D → M (D × D)) : List D → List (List Key × D) → M (List (List Key × D))
  | [], acc => do s.grd; pure acc
  | d :: ds, acc => do
    s.grd
    let r ← f d
    let k ← toKey r.1
    need (decide (acc.length < sizeLine))
    dcL s f ds (putT acc k r.2)
/-- the turns of a for -/
def forL (s : Src) (f : D → Sl → M (Fl × Sl)) : List D → Sl → M (Fl × Sl)
  | [], env => do s.grd; pure (.nx, env)
  | d :: ds, env => do
    s.grd
    match ← f d env with
    | (.nx, e) => forL s f ds e
    | (.ct, e) => forL s f ds e
    | (.bk, e) => pure (.nx, e)
    | (.rt v, e) => pure (.rt v, e)
def whlL (c : Sl → M Bool) (b : Sl → M (Fl × Sl)) : Nat → Sl → M (Fl × Sl)
  | 0, _ => fail
  | n + 1, env => do
    if ← c env then
      match ← b env with
      | (.nx, e) => whlL c b n e
      | (.ct, e) => whlL c b n e
      | (.bk, e) => pure (.nx, e)
      | (.rt v, e) => pure (.rt v, e)
    else pure (.nx, env)
def wipeE (env : Sl) : List Nat → Sl
  | [] => env
  | v :: vs => (wipeE env vs).set v none

section
variable (gl : Nat → D) (cf : Nat → List D → M D)
def asInt : D → M (Option Int)
  | .int i => pure (some i)
  | _ => fail
def unpk (d : D) (n : Nat) : M (List D) := do let ds ← getS d; need (decide (ds.length = n)); pure ds
def TGs.len : TGs → Nat
  | .nil => 0
  | .cons _ ts => ts.len + 1
mutual
def ev : IE → Sl → M D
  | .var i, env => match env[i]? with | some (some d) => pure d | _ => fail
  | .int z, _ => pure (.int z)
  | .bl b, _ => pure (.bl b)
  | .non, _ => pure .non
  | .str x, _ => pure (.str x)
  | .glo g, _ => pure (gl g)
  | .tup es, env => do let ds ← evs es env; need (lens ds.length); pure (.tup ds)
  | .lst es, env => do let ds ← evs es env; need (lens ds.length); newO (.lst ds)
  | .op o a b, env => do let x ← ev a env; let y ← ev b env; bop o x y
  | .neg a, env => do match ← ev a env with | .int i => pure (.int (-i)) | _ => fail
  | .not a, env => do let x ← ev a env; let b ← truth x; pure (.bl (!b))
  | .and a b, env => do let x ← ev a env; if ← truth x then ev b env else pure x
  | .or a b, env => do let x ← ev a env; if ← truth x then pure x else ev b env
  | .cmp o a b, env => do let x ← ev a env; let y ← ev b env; let r ← cop o x y; pure (.bl r)
  | .chain o o2 a b c, env => do
    let x ← ev a env
    let y ← ev b env
    if ← cop o x y then
      let z ← ev c env
      let r ← cop o2 y z
      pure (.bl r)
    else pure (.bl false)
  | .ite c a b, env => do if ← tst c env then ev a env else ev b env
  | .ix a b, env => do let x ← ev a env; let y ← ev b env; ixD x y
  | .sl a lo hi, env => do let x ← ev a env; let l ← evo lo env; let h ← evo hi env; slD x l h
  | .rev a, env => do let x ← ev a env; revD x
  | .call f es, env => do let ds ← evs es env; cf f ds
  | .bi b es, env => do let ds ← evs es env; biRun b ds
  | .me m o es, env => do let x ← ev o env; isL x; let ds ← evs es env; meRun m x ds
  | .isi a t, env => do let x ← ev a env; isiRun x [t]
  | .isis a ts, env => do let x ← ev a env; isiRun x ts
  | .comp t own it cond e, env => do
    let s ← evi it env
    let env0 := wipeE env own
    let r ← compL s (fun d => do
      let env1 ← asg t d env0
      if ← evc cond env1 then
        let y ← ev e env1
        pure (some y)
      else pure none) s.items []
    newO (.lst r)
  | .tupr a, env => do match ← ev a env with | .int i => (do need (rngOk i); pure (.tup (rngItems 0 i))) | _ => fail
  | .lstr a, env => do match ← ev a env with | .int i => (do need (rngOk i); newO (.lst (rngItems 0 i))) | _ => fail
  | .dnew, _ => newO (.dt false [])
  | .dget a b, env => do let x ← ev a env; let y ← ev b env; dgetD x y
  | .din a b, env => do let y ← ev a env; let x ← ev b env; let r ← dinD y x; pure (.bl r)
  | .dget2 a b c, env => do let x ← ev a env; isT x; let y ← ev b env; let z ← ev c env; dget2D x y z
  | .dpop a b, env => do let x ← ev a env; isT x; let y ← ev b env; dpopD x y
  | .dcomp i t own cond e, env => do
    match env[i]? with
    | some (some (.ref l)) => do
      match ← getO l with
      | .dt false kvs => do
        setO l (.dt true kvs)
        let r ← compL ⟨kvs.map fun kv => unkey kv.1, none, none⟩ (fun d => do
          let env1 ← asg t d (wipeE env own)
          if ← evc cond env1 then
            let y ← ev e env1
            pure (some y)
          else pure none) (kvs.map fun kv => unkey kv.1) []
        match ← getO l with
        | .dt true kvs2 => do setO l (.dt false kvs2); newO (.lst r)
        | _ => fail
      | _ => fail
    | _ => fail
  | .sortp a, env => do let x ← ev a env; sortPD x
  | .maxl a, env => do let x ← ev a env; maxLD x
  | .maxd a b, env => do let x ← ev a env; let y ← ev b env; maxDD x y
  | .dmk t own it k v, env => do
    let s ← evi it env
    let env0 := wipeE env own
    let r ← dcL s (fun d => do
      let env1 ← asg t d env0
      let y ← ev k env1
      let z ← ev v env1
      pure (y, z)) s.items []
    newO (.dt false r)
def evs : IEs → Sl → M (List D)
  | .nil, _ => pure []
  | .cons e es, env => do let d ← ev e env; let ds ← evs es env; pure (d :: ds)
def evo : IO → Sl → M (Option Int)
  | .no, _ => pure none
  | .so e, env => do let d ← ev e env; asInt d
def evc : IC → Sl → M Bool
  | .no, _ => pure true
  | .so e, env => tst e env
/-- an expression as a test -/
def tst : IE → Sl → M Bool
  | .and a b, env => do if ← tst a env then tst b env else pure false
  | .or a b, env => do if ← tst a env then pure true else tst b env
  | .not a, env => do let b ← tst a env; pure (!b)
  | .cmp o a b, env => do let x ← ev a env; let y ← ev b env; cop o x y
  | .chain o o2 a b c, env => do
    let x ← ev a env
    let y ← ev b env
    if ← cop o x y then
      let z ← ev c env
      cop o2 y z
    else pure false
  | .var i, env => match env[i]? with | some (some d) => truth d | _ => fail
  | .bl b, _ => pure b
  | .call f es, env => do let ds ← evs es env; let d ← cf f ds; truth d
  | .bi b es, env => do let ds ← evs es env; let d ← biRun b ds; truth d
  | .isi a t, env => do let x ← ev a env; let d ← isiRun x [t]; truth d
  | .isis a ts, env => do let x ← ev a env; let d ← isiRun x ts; truth d
  | .din a b, env => do let y ← ev a env; let x ← ev b env; dinD y x
  | _, _ => fail
def evi : II → Sl → M Src
  | .seq e, env => do let d ← ev e env; seqSrc d
  | .rng1 e, env => do let d ← ev e env; rngSrc (.int 0) d
  | .rng2 a b, env => do let x ← ev a env; let y ← ev b env; rngSrc x y
  | .zip a b, env => do let x ← ev a env; let y ← ev b env; zipSrc x y
def asg : TG → D → Sl → M Sl
  | .nm i, d, env => do need (decide (i < env.length)); pure (env.set i (some d))
  | .tp ts, d, env => do let ds ← unpk d ts.len; asgs ts ds env
  | .ixs o i, d, env => do let x ← ev o env; let y ← ev i env; setIx x y d; pure env
def asgs : TGs → List D → Sl → M Sl
  | .nil, [], env => pure env
  | .cons t ts, d :: ds, env => do let e ← asg t d env; asgs ts ds e
  | _, _, _ => fail
end
mutual
def ex : IS → Sl → M (Fl × Sl)
  | .asg t e, env => do let d ← ev gl cf e env; let env ← asg gl cf t d env; pure (.nx, env)
  | .par i j a b, env => do let x ← ev gl cf a env; let y ← ev gl cf b env; need (decide (i < env.length) && decide (j < env.length)); pure (.nx, (env.set i (some x)).set j (some y))
  | .aug i o e, env => do
    match env[i]? with
    | some (some x) => do
      let y ← ev gl cf e env
      need (augOk o x y)
      let z ← bop o x y
      pure (.nx, env.set i (some z))
    | _ => fail
  | .expr e, env => do let _ ← ev gl cf e env; pure (.nx, env)
  | .ret e, env => do let d ← ev gl cf e env; pure (.rt d, env)
  | .retN, env => pure (.rt .non, env)
  | .ite c a b, env => do if ← tst gl cf c env then exs a env else exs b env
  | .forr t it b, env => do
    let s ← evi gl cf it env
    forL s (fun d e => do let e1 ← asg gl cf t d e; exs b e1) s.items env
  | .whl c b, env => whlL (fun e => tst gl cf c e) (fun e => exs b e) bigN env
  | .pass, env => pure (.nx, env)
  | .brk, env => pure (.bk, env)
  | .cnt, env => pure (.ct, env)
  | .dput o i v, env => do let z ← ev gl cf v env; let x ← ev gl cf o env; let y ← ev gl cf i env; dputD x y z; pure (.nx, env)
  | .rsort i xs e, env => do
    let x ← ev gl cf xs env
    let ds ← getL x
    match env[i]? with
    | some (some r) => do
      let ks ← keysL (fun d => ev gl cf e [some d, some r]) ds
      let y ← newO (.lst (sortBy ds (ks.map encI)))
      pure (.rt y, env)
    | _ => fail
def exs : ISs → Sl → M (Fl × Sl)
  | .nil, env => pure (.nx, env)
  | .cons s ss, env => do
    match ← ex s env with
    | (.nx, e) => exs ss e
    | r => pure r
end
end
/-- a def: the number of its parameters, of its slots, its body -/
structure Fd where
  np : Nat
  nl : Nat
  body : ISs
def startE (nl : Nat) (ds : List D) : Sl := ds.map some ++ List.replicate (nl - ds.length) none
def ofFl : Fl × Sl → M D
  | (.nx, _) => pure .non
  | (.rt d, _) => pure d
  | _ => fail
def call (gl : Nat → D) (fs : List Fd) : Nat → Nat → List D → M D
  | 0, _, _ => fail
  | n + 1, f, ds => match fs[f]? with
    | some fd => if ds.length = fd.np then do ofFl (← exs gl (call gl fs n) fd.body (startE fd.nl ds)) else fail
    | none => fail
end Dl
end

section
set_option Elab.async false
set_option linter.all false
set_option maxRecDepth 100000
/-! Dl: the calculus for the plain statements. -/
namespace Dl
open PySem PySem.Spec PyProof.Rows L2

/-! ### wp, sealed: nothing looks into it -/
structure wq {α : Type} (m : M α) (Q : α → Store → Prop) (S : Store) : Prop where
  out : wp m Q S
section
variable {α β : Type} {m : M α} {Q : α → Store → Prop} {S : Store}
theorem wq_eq : wq m Q S = wp m Q S := propext ⟨fun h => h.out, fun h => ⟨h⟩⟩
theorem wq_l {X : Prop} (h : wp m Q S = X) : wq m Q S = X := wq_eq.trans h
theorem wq_pure (a : α) (Q : α → Store → Prop) (S : Store) : wq (pure a : M α) Q S = Q a S := wq_l rfl
theorem wq_bind (m : M α) (f : α → M β) (Q : β → Store → Prop) (S : Store) : wq (m >>= f) Q S = wq m (fun a S' => wq (f a) Q S') S := by
  rw [wq_eq, wq_eq, wp_bind]
  simp only [wq_eq]
theorem wq_fail (Q : α → Store → Prop) (S : Store) : wq (fail : M α) Q S = False := wq_l rfl
theorem wq_mono {m : M α} {Q R : α → Store → Prop} {S : Store} (h : wq m Q S) (k : ∀ a S', Q a S' → R a S') : wq m R S := ⟨wp_mono h.out k⟩
theorem wq_getO (l : Nat) (Q : Ob → Store → Prop) (S : Store) : wq (getO l) Q S = ∃ o, S[l]? = some o ∧ Q o S := wq_l (wp_getO l Q S)
theorem wq_setO (l : Nat) (o : Ob) (Q : Unit → Store → Prop) (S : Store) : wq (setO l o) Q S = (l < S.length ∧ Q () (S.set l o)) := wq_l (wp_setO l o Q S)
theorem wq_newO (o : Ob) (Q : D → Store → Prop) (S : Store) : wq (newO o) Q S = Q (.ref S.length) (S ++ [o]) := wq_l rfl
theorem wq_need (b : Bool) (Q : Unit → Store → Prop) (S : Store) : wq (need b) Q S = (b = true ∧ Q () S) := wq_l (wp_need b Q S)
theorem wq_ite (c : Bool) (a b : M α) (Q : α → Store → Prop) (S : Store) : wq (if c = true then a else b) Q S = if c = true then wq a Q S else wq b Q S := by cases c <;> rfl
end

/-! ### frames -/
structure Fr (L : List Nat) (S S' : Store) : Prop where
  le : S.length ≤ S'.length
  get : ∀ (i : Nat) (o : Ob), i ∉ L → S[i]? = some o → S'[i]? = some o
theorem Fr.refl {L : List Nat} {S : Store} : Fr L S S := ⟨Nat.le_refl _, fun _ _ _ h => h⟩
theorem Fr.trans {L : List Nat} {S S' S'' : Store} (h : Fr L S S') (k : Fr L S' S'') : Fr L S S'' := ⟨Nat.le_trans h.le k.le, fun i o hi e => k.get i o hi (h.get i o hi e)⟩
theorem Fr.mono {L L' : List Nat} {S S' : Store} (h : Fr L S S') (k : ∀ i, i ∈ L → i ∈ L') : Fr L' S S' := ⟨h.le, fun i o hi e => h.get i o (fun m => hi (k i m)) e⟩
theorem Fr.of_nil {L : List Nat} {S S' : Store} (h : Fr [] S S') : Fr L S S' := h.mono fun _ m => by cases m
theorem Fr.new {L : List Nat} {S S' : Store} (h : Fr L S S') (o : Ob) : Fr L S (S' ++ [o]) := ⟨by simp only [List.length_append]; have := h.le; omega, fun i p hi e => by
  have q := h.get i p hi e
  rw [List.getElem?_append_left (List.getElem?_eq_some_iff.mp q).1]; exact q⟩
theorem Fr.set {L : List Nat} {S S' : Store} (h : Fr L S S') {l : Nat} (o : Ob) (hl : l ∈ L ∨ S.length ≤ l) : Fr L S (S'.set l o) := ⟨by simp only [List.length_set]; exact h.le, fun i p hi e => by
  have q := h.get i p hi e
  have hne : l ≠ i := by
    rintro rfl
    rcases hl with m | m
    · exact hi m
    · have := (List.getElem?_eq_some_iff.mp e).1; omega
  rw [List.getElem?_set_ne hne]; exact q⟩
theorem lt_of_get {S : Store} {l : Nat} {o : Ob} (h : S[l]? = some o) : l < S.length := (List.getElem?_eq_some_iff.mp h).1
theorem get_new {S : Store} {o : Ob} : (S ++ [o])[S.length]? = some o := by simp
theorem get_set {S : Store} {l : Nat} {o p : Ob} (h : S[l]? = some p) : (S.set l o)[l]? = some o := List.getElem?_set_self (lt_of_get h)
theorem get_app {S : Store} {l : Nat} {o p : Ob} (h : S[l]? = some p) : (S ++ [o])[l]? = some p := by rw [List.getElem?_append_left (lt_of_get h)]; exact h
/-- the draws: a list of ints -/
def Dw (l : Nat) (S : Store) : Prop := ∃ xs : List Int, S[l]? = some (.lst (xs.map .int))
structure Dr (l : Nat) (S S' : Store) : Prop where
  d : Dw l S'
  f : Fr [l] S S'
theorem Dr.trans {l : Nat} {S S' S'' : Store} (h : Dr l S S') (k : Dr l S' S'') : Dr l S S'' := ⟨k.d, h.f.trans k.f⟩
theorem Dw.refl {l : Nat} {S : Store} (h : Dw l S) : Dr l S S := ⟨h, .refl⟩
theorem Dw.fr {l : Nat} {S S' : Store} (h : Dw l S) (k : Fr [] S S') : Dr l S S' := by
  obtain ⟨xs, e⟩ := h
  exact ⟨⟨xs, k.get l _ (fun m => by cases m) e⟩, k.of_nil⟩
theorem Dw.new {l : Nat} {S : Store} (h : Dw l S) (o : Ob) : Dw l (S ++ [o]) := by
  obtain ⟨xs, e⟩ := h
  exact ⟨xs, get_app e⟩
theorem Dw.lt {l : Nat} {S : Store} (h : Dw l S) : l < S.length := by
  obtain ⟨xs, e⟩ := h
  exact lt_of_get e
theorem Dw.set {l r : Nat} {S : Store} (h : Dw l S) (o : Ob) (hne : r ≠ l) : Dw l (S.set r o) := by
  obtain ⟨xs, e⟩ := h
  exact ⟨xs, by rw [List.getElem?_set_ne hne]; exact e⟩
theorem Dr.get {l : Nat} {S S' : Store} (h : Dr l S S') {i : Nat} {o : Ob} (e : S[i]? = some o) (hi : i ≠ l) : S'[i]? = some o := h.f.get i o (by simpa using hi) e
/-- from a step over the draws l, seen from S0 where r is new -/
theorem Dr.new {l : Nat} {S S' : Store} (h : Dr l S S') (o : Ob) : Dr l S (S' ++ [o]) := ⟨h.d.new o, h.f.new o⟩
theorem Dr.set {l r : Nat} {S S' : Store} (h : Dr l S S') (o : Ob) (hr : S.length ≤ r) (hne : r ≠ l) : Dr l S (S'.set r o) := ⟨h.d.set o hne, h.f.set o (.inr hr)⟩

/-! ### leaves -/
section
variable {S : Store} {l : Nat} {ds es : List D} {Q : D → Store → Prop} {QB : Bool → Store → Prop} {QU : Unit → Store → Prop} {QL : List D → Store → Prop}
theorem lens_of {n : Nat} (h : n ≤ 1000) : lens n = true := decide_eq_true (show n ≤ 2 ^ 24 by omega)
theorem w_getL_ref (h : S[l]? = some (.lst ds)) : wq (getL (.ref l)) QL S = QL ds S := by
  unfold getL
  dsimp only
  rw [wq_bind, wq_getO]
  exact propext ⟨fun ⟨o, e, k⟩ => by rw [h] at e; cases e; simpa only [wq_pure] using k, fun k => ⟨_, h, by simpa only [wq_pure] using k⟩⟩
theorem w_getS_ref (h : S[l]? = some (.lst ds)) : wq (getS (.ref l)) QL S = QL ds S := w_getL_ref h
theorem w_getL_ro : wq (getL (.ro ds)) QL S = QL ds S := wq_l rfl
theorem w_getS_ro : wq (getS (.ro ds)) QL S = QL ds S := wq_l rfl
theorem w_getS_tup : wq (getS (.tup ds)) QL S = QL ds S := wq_l rfl
theorem w_add {i j : Int} : wq (bop .Add (.int i) (.int j)) Q S = Q (.int (i + j)) S := wq_l rfl
theorem w_sub {i j : Int} : wq (bop .Sub (.int i) (.int j)) Q S = Q (.int (i - j)) S := wq_l rfl
theorem w_mul {i j : Int} : wq (bop .Mult (.int i) (.int j)) Q S = (mulFits i j = true ∧ Q (.int (i * j)) S) := by
  unfold bop
  dsimp only
  rw [wq_bind, wq_need, wq_pure]
theorem w_addT : wq (bop .Add (.tup ds) (.tup es)) Q S = (lens (ds.length + es.length) = true ∧ Q (.tup (ds ++ es)) S) := by
  unfold bop
  dsimp only
  rw [wq_bind, wq_need, wq_pure]
theorem w_addL {l2 : Nat} (h : S[l]? = some (.lst ds)) (h2 : S[l2]? = some (.lst es)) : wq (bop .Add (.ref l) (.ref l2)) Q S = (lens (ds.length + es.length) = true ∧ Q (.ref S.length) (S ++ [.lst (ds ++ es)])) := by
  unfold bop
  dsimp only
  rw [wq_bind, wq_getO]
  refine propext ⟨fun ⟨o, e, k⟩ => ?_, fun k => ⟨_, h, ?_⟩⟩
  · rw [h] at e
    cases e
    rw [wq_bind, wq_getO] at k
    obtain ⟨o, e, k⟩ := k
    rw [h2] at e
    cases e
    rw [wq_bind, wq_need, wq_newO] at k
    exact k
  · rw [wq_bind, wq_getO]
    exact ⟨_, h2, by rw [wq_bind, wq_need, wq_newO]; exact k⟩
theorem w_mulL {k : Int} (h : S[l]? = some (.lst ds)) : wq (bop .Mult (.ref l) (.int k)) Q S = ((decide (-(2 ^ 63) ≤ k) && decide (k < 2 ^ 63) && lens (ds.length * k.toNat)) = true ∧ Q (.ref S.length) (S ++ [.lst (List.replicate k.toNat ds).flatten])) := by
  unfold bop
  dsimp only
  rw [wq_bind, wq_getO]
  refine propext ⟨fun ⟨o, e, k⟩ => ?_, fun k => ⟨_, h, ?_⟩⟩
  · rw [h] at e
    cases e
    rw [wq_bind, wq_need, wq_newO] at k
    exact k
  · rw [wq_bind, wq_need, wq_newO]
    exact k
theorem w_fdiv {i j : Int} : wq (bop .FloorDiv (.int i) (.int j)) Q S = ((decide (j ≠ 0) && decide (j.natAbs.log2 < 9000)) = true ∧ Q (.int (i.fdiv j)) S) := by
  unfold bop
  dsimp only
  rw [wq_bind, wq_need, wq_pure]
theorem w_mod {i j : Int} : wq (bop .Mod (.int i) (.int j)) Q S = (decide (j ≠ 0) = true ∧ Q (.int (i.fmod j)) S) := by
  unfold bop
  dsimp only
  rw [wq_bind, wq_need, wq_pure]
theorem w_pow {i j : Int} : wq (bop .Pow (.int i) (.int j)) Q S = ((decide (0 ≤ j) && decide (j ≤ 1000000) && decide (i.natAbs < 2 ^ 64)) = true ∧ Q (.int (i ^ j.toNat)) S) := by
  unfold bop
  dsimp only
  rw [wq_bind, wq_need, wq_pure]
theorem w_shl {i j : Int} : wq (bop .LShift (.int i) (.int j)) Q S = ((decide (0 ≤ j) && decide (j ≤ 1000000) && decide (i.natAbs < 2 ^ 64)) = true ∧ Q (.int (i * 2 ^ j.toNat)) S) := by
  unfold bop
  dsimp only
  rw [wq_bind, wq_need, wq_pure]
theorem w_lt {i j : Int} : wq (cop .Lt (.int i) (.int j)) QB S = QB (decide (i < j)) S := wq_l rfl
theorem w_le {i j : Int} : wq (cop .LtE (.int i) (.int j)) QB S = QB (decide (i ≤ j)) S := wq_l rfl
theorem w_gt {i j : Int} : wq (cop .Gt (.int i) (.int j)) QB S = QB (decide (j < i)) S := wq_l rfl
theorem w_ge {i j : Int} : wq (cop .GtE (.int i) (.int j)) QB S = QB (decide (j ≤ i)) S := wq_l rfl
theorem intsOf_map : ∀ xs : List Int, intsOf (xs.map .int) = some xs
  | [] => rfl
  | x :: xs => by simp only [List.map_cons, intsOf, intsOf_map xs, Option.map_some]
theorem blsOf_map : ∀ xs : List Bool, blsOf (xs.map .bl) = some xs
  | [] => rfl
  | x :: xs => by simp only [List.map_cons, blsOf, blsOf_map xs, Option.map_some]
theorem w_ltT {x y : List Int} : wq (cop .Lt (.tup (x.map .int)) (.tup (y.map .int))) QB S = QB (lexC x y == .lt) S := by
  unfold cop
  simp only [intsOf_map, wq_pure]
theorem w_gtT {x y : List Int} : wq (cop .Gt (.tup (x.map .int)) (.tup (y.map .int))) QB S = QB (lexC x y == .gt) S := by
  unfold cop
  simp only [intsOf_map, wq_pure]
theorem w_eq {a b : D} : wq (cop .Eq a b) QB S = wq (eqD a b) QB S := by unfold cop; first | rfl | exact wq_l rfl
theorem w_ne {a b : D} : wq (cop .NotEq a b) QB S = wq (eqD a b) (fun r S' => QB (!r) S') S := by
  show wq (eqD a b >>= fun r => pure (!r)) QB S = _
  rw [wq_bind]
  simp only [wq_pure]
theorem w_isN {a : D} : wq (cop .Is a .non) QB S = QB (decide (a = .non)) S := by unfold cop; first | rfl | exact wq_l rfl
theorem w_isnN {a : D} : wq (cop .IsNot a .non) QB S = QB (!decide (a = .non)) S := by unfold cop; first | rfl | exact wq_l rfl
theorem w_in {x y : D} : wq (cop .In x y) QB S = wq (getS y) (fun ds S' => (flat x && ds.all flat) = true ∧ QB (inF x ds) S') S := by
  unfold cop
  simp only [wq_bind, wq_need, wq_pure]
theorem w_nin {x y : D} : wq (cop .NotIn x y) QB S = wq (getS y) (fun ds S' => (flat x && ds.all flat) = true ∧ QB (!inF x ds) S') S := by
  unfold cop
  simp only [wq_bind, wq_need, wq_pure]
theorem w_trB {b : Bool} : wq (truth (.bl b)) QB S = QB b S := wq_l rfl
theorem w_trN : wq (truth .non) QB S = QB false S := wq_l rfl
theorem w_trI {i : Int} : wq (truth (.int i)) QB S = QB (i != 0) S := wq_l rfl
theorem w_trT : wq (truth (.tup ds)) QB S = QB (!ds.isEmpty) S := wq_l rfl
theorem w_trL (h : S[l]? = some (.lst ds)) : wq (truth (.ref l)) QB S = QB (!ds.isEmpty) S := by
  unfold truth
  dsimp only
  rw [wq_bind, wq_getO]
  exact propext ⟨fun ⟨o, e, k⟩ => by rw [h] at e; cases e; simpa only [wq_pure] using k, fun k => ⟨_, h, by simpa only [wq_pure] using k⟩⟩
theorem w_lenT : wq (biRun .len [.tup ds]) Q S = Q (.int ds.length) S := wq_l rfl
theorem w_lenR : wq (biRun .len [.ro ds]) Q S = Q (.int ds.length) S := wq_l rfl
theorem w_lenL (h : S[l]? = some (.lst ds)) : wq (biRun .len [.ref l]) Q S = Q (.int ds.length) S := by
  show wq (getS (.ref l) >>= fun ds => pure (.int ds.length)) Q S = _
  rw [wq_bind, w_getS_ref h, wq_pure]
theorem w_sumT {x : List Int} : wq (biRun .sum [.tup (x.map .int)]) Q S = Q (.int x.sum) S := by
  show wq (getS (.tup (x.map .int)) >>= fun ds => match intsOf ds with | some ns => pure (.int ns.sum) | none => fail) Q S = _
  rw [wq_bind, w_getS_tup, intsOf_map, wq_pure]
theorem w_sumL {x : List Int} (h : S[l]? = some (.lst (x.map .int))) : wq (biRun .sum [.ref l]) Q S = Q (.int x.sum) S := by
  show wq (getS (.ref l) >>= fun ds => match intsOf ds with | some ns => pure (.int ns.sum) | none => fail) Q S = _
  rw [wq_bind, w_getS_ref h, intsOf_map, wq_pure]
theorem w_int {i : Int} : wq (biRun .int [.int i]) Q S = Q (.int i) S := wq_l rfl
theorem w_intB {b : Bool} : wq (biRun .int [.bl b]) Q S = Q (.int (if b then 1 else 0)) S := wq_l rfl
theorem w_abs {i : Int} : wq (biRun .abs [.int i]) Q S = Q (.int (if i < 0 then -i else i)) S := wq_l rfl
theorem w_max {i j : Int} : wq (biRun .max [.int i, .int j]) Q S = Q (.int (if j > i then j else i)) S := wq_l rfl
theorem w_min {i j : Int} : wq (biRun .min [.int i, .int j]) Q S = Q (.int (if j < i then j else i)) S := wq_l rfl
theorem w_tupL (h : S[l]? = some (.lst ds)) : wq (biRun .tuple [.ref l]) Q S = Q (.tup ds) S := by
  show wq (getS (.ref l) >>= fun ds => pure (.tup ds)) Q S = _
  rw [wq_bind, w_getS_ref h, wq_pure]
theorem w_listL (h : S[l]? = some (.lst ds)) : wq (biRun .list [.ref l]) Q S = Q (.ref S.length) (S ++ [.lst ds]) := by
  show wq (getS (.ref l) >>= fun ds => newO (.lst ds)) Q S = _
  rw [wq_bind, w_getS_ref h, wq_newO]
theorem w_listT : wq (biRun .list [.tup ds]) Q S = Q (.ref S.length) (S ++ [.lst ds]) := wq_l rfl
theorem w_append {d : D} (h : S[l]? = some (.lst ds)) : wq (meRun .append (.ref l) [d]) Q S = (ds.length < sizeLine ∧ Q .non (S.set l (.lst (ds ++ [d])))) := by
  unfold meRun
  dsimp only
  rw [wq_bind, wq_getO]
  refine propext ⟨fun ⟨o, e, k⟩ => ?_, fun ⟨k1, k2⟩ => ⟨_, h, ?_⟩⟩
  · rw [h] at e
    cases e
    simp only [wq_bind, wq_need, wq_setO, wq_pure] at k
    exact ⟨of_decide_eq_true k.1, k.2.2⟩
  · simp only [wq_bind, wq_need, wq_setO, wq_pure]
    exact ⟨decide_eq_true k1, lt_of_get h, k2⟩
theorem w_pop {y : D} (h : S[l]? = some (.lst (ds ++ [y]))) : wq (meRun .pop (.ref l) []) Q S = Q y (S.set l (.lst ds)) := by
  have e1 : (ds ++ [y])[(ds ++ [y]).length - 1]? = some y := by simp
  have e2 : (ds ++ [y]).dropLast = ds := by simp
  unfold meRun
  dsimp only
  rw [wq_bind, wq_getO]
  refine propext ⟨fun ⟨o, e, k⟩ => ?_, fun k => ⟨_, h, ?_⟩⟩
  · rw [h] at e
    cases e
    dsimp only at k
    rw [e1] at k
    simp only [wq_bind, wq_setO, wq_pure, e2] at k
    exact k.2
  · dsimp only
    rw [e1]
    simp only [wq_bind, wq_setO, wq_pure, e2]
    exact ⟨lt_of_get h, k⟩
theorem ixN_of {n : Nat} {i : Int} (h0 : 0 ≤ i) (h1 : i < n) : ixN n i = some i.toNat := by unfold ixN; rw [if_pos h0, if_pos h1]
theorem atI_of {α : Type} {xs : List α} {i : Int} {x : α} (h0 : 0 ≤ i) (h : xs[i.toNat]? = some x) : atI xs i = some x := by
  have := (List.getElem?_eq_some_iff.mp h).1
  unfold atI
  rw [ixN_of h0 (by omega)]
  exact h
theorem w_popAt {i : Int} {y : D} (h : S[l]? = some (.lst ds)) (h0 : 0 ≤ i) (hs : ds.length ≤ 1000) (hy : ds[i.toNat]? = some y) : wq (meRun .popAt (.ref l) [.int i]) Q S = Q y (S.set l (.lst (ds.eraseIdx i.toNat))) := by
  have hlt := (List.getElem?_eq_some_iff.mp hy).1
  have e1 : (decide (-(2 ^ 63) ≤ i) && decide (i < 2 ^ 63)) = true := by rw [decide_eq_true (by omega), decide_eq_true (by omega)]; rfl
  unfold meRun
  dsimp only
  rw [wq_bind, wq_getO]
  refine propext ⟨fun ⟨o, e, k⟩ => ?_, fun k => ⟨_, h, ?_⟩⟩
  · rw [h] at e
    cases e
    dsimp only at k
    rw [wq_bind, wq_need, ixN_of h0 (by omega)] at k
    have k := k.2
    dsimp only at k
    rw [hy] at k
    simp only [wq_bind, wq_setO, wq_pure] at k
    exact k.2
  · dsimp only
    rw [wq_bind, wq_need, ixN_of h0 (by omega)]
    refine ⟨e1, ?_⟩
    dsimp only
    rw [hy]
    simp only [wq_bind, wq_setO, wq_pure]
    exact ⟨lt_of_get h, k⟩
theorem w_reverse (h : S[l]? = some (.lst ds)) : wq (meRun .reverse (.ref l) []) Q S = Q .non (S.set l (.lst ds.reverse)) := by
  unfold meRun
  dsimp only
  rw [wq_bind, wq_getO]
  refine propext ⟨fun ⟨o, e, k⟩ => ?_, fun k => ⟨_, h, ?_⟩⟩
  · rw [h] at e
    cases e
    simp only [wq_bind, wq_setO, wq_pure] at k
    exact k.2
  · simp only [wq_bind, wq_setO, wq_pure]
    exact ⟨lt_of_get h, k⟩
theorem w_isL (h : S[l]? = some (.lst ds)) : wq (isL (.ref l)) QU S = QU () S := by
  unfold isL
  dsimp only
  rw [wq_bind, wq_getO]
  exact propext ⟨fun ⟨o, e, k⟩ => by rw [h] at e; cases e; simpa only [wq_pure] using k, fun k => ⟨_, h, by simpa only [wq_pure] using k⟩⟩
theorem w_ixT {i : Int} {d : D} (h : atI ds i = some d) : wq (ixD (.tup ds) (.int i)) Q S = Q d S := by
  show wq (getS (.tup ds) >>= fun ds => match atI ds i with | some d => pure d | none => fail) Q S = _
  rw [wq_bind, w_getS_tup, h, wq_pure]
theorem w_ixL {i : Int} {d : D} (h : S[l]? = some (.lst ds)) (h2 : atI ds i = some d) : wq (ixD (.ref l) (.int i)) Q S = Q d S := by
  show wq (getS (.ref l) >>= fun ds => match atI ds i with | some d => pure d | none => fail) Q S = _
  rw [wq_bind, w_getS_ref h, h2, wq_pure]
theorem w_set {i : Int} {v : D} (h : S[l]? = some (.lst ds)) (h0 : 0 ≤ i) (h1 : i.toNat < ds.length) : wq (setIx (.ref l) (.int i) v) QU S = QU () (S.set l (.lst (ds.set i.toNat v))) := by
  unfold setIx
  dsimp only
  rw [wq_bind, wq_getO]
  refine propext ⟨fun ⟨o, e, k⟩ => ?_, fun k => ⟨_, h, ?_⟩⟩
  · rw [h] at e
    cases e
    dsimp only at k
    rw [ixN_of h0 (by omega)] at k
    rw [wq_setO] at k
    exact k.2
  · dsimp only
    rw [ixN_of h0 (by omega)]
    rw [wq_setO]
    exact ⟨lt_of_get h, k⟩
theorem w_revT : wq (revD (.tup ds)) Q S = Q (.tup ds.reverse) S := wq_l rfl
theorem w_asInt {i : Int} {Q : Option Int → Store → Prop} : wq (asInt (.int i)) Q S = Q (some i) S := wq_l rfl
theorem w_slR {lo hi : Option Int} : wq (slD (.ro ds) lo hi) Q S = Q (.ref S.length) (S ++ [.lst (cutD ds lo hi)]) := wq_l rfl
theorem w_srcT {Q : Src → Store → Prop} : wq (seqSrc (.tup ds)) Q S = Q ⟨ds, none, none⟩ S := wq_l rfl
theorem w_srcR {Q : Src → Store → Prop} : wq (seqSrc (.ro ds)) Q S = Q ⟨ds, none, none⟩ S := wq_l rfl
theorem w_srcL {Q : Src → Store → Prop} (h : S[l]? = some (.lst ds)) : wq (seqSrc (.ref l)) Q S = Q ⟨ds, some (l, ds), none⟩ S := by
  unfold seqSrc
  dsimp only
  rw [wq_bind, wq_getO]
  exact propext ⟨fun ⟨o, e, k⟩ => by rw [h] at e; cases e; simpa only [wq_pure] using k, fun k => ⟨_, h, by simpa only [wq_pure] using k⟩⟩
theorem w_rng {i j : Int} {Q : Src → Store → Prop} : wq (rngSrc (.int i) (.int j)) Q S = ((small62 i && small62 j) = true ∧ Q ⟨rngItems i j, none, none⟩ S) := by
  unfold rngSrc
  dsimp only
  rw [wq_bind, wq_need, wq_pure]
theorem w_zipT {Q : Src → Store → Prop} : wq (zipSrc (.tup ds) (.tup es)) Q S = Q ⟨(ds.zip es).map fun p => .tup [p.1, p.2], none, none⟩ S := by
  unfold zipSrc
  simp only [isTup, wq_bind, wq_need, w_srcT, wq_pure, beq_self_eq_true, true_and]
theorem w_unpkT {n : Nat} : wq (unpk (.tup ds) n) QL S = (decide (ds.length = n) = true ∧ QL ds S) := by
  unfold unpk
  simp only [wq_bind, wq_need, w_getS_tup, wq_pure]
theorem w_unpkL {n : Nat} (h : S[l]? = some (.lst ds)) : wq (unpk (.ref l) n) QL S = (decide (ds.length = n) = true ∧ QL ds S) := by
  unfold unpk
  simp only [wq_bind, wq_need, w_getS_ref h, wq_pure]
theorem w_isi {d : D} {ts : List Ty} {b : Bool} (h : anyTy S d ts = some b) : wq (isiRun d ts) Q S = Q (.bl b) S := by
  rw [wq_eq]
  unfold wp isiRun
  rw [h]
end

/-! ### loops -/
/-- the guard of a source holds -/
def Gd : Option (Nat × List D) → Store → Prop
  | none, _ => True
  | some (l, ds), S => S[l]? = some (.lst ds)
def Src.Gd (s : Src) (S : Store) : Prop := Dl.Gd s.guard S ∧ Dl.Gd s.guard2 S
theorem grd1_wq {g : Option (Nat × List D)} {S : Store} {Q : Unit → Store → Prop} (h : Gd g S) (q : Q () S) : wq (grd1 g) Q S := by
  cases g with
  | none => exact ⟨q⟩
  | some p =>
    refine ⟨?_⟩
    unfold grd1 wp
    obtain ⟨l, ds⟩ := p
    dsimp only [Gd] at *
    rw [if_pos h]
    exact q
theorem grd_wq {s : Src} {S : Store} {Q : Unit → Store → Prop} (h : s.Gd S) (q : Q () S) : wq s.grd Q S := by
  unfold Src.grd
  rw [wq_bind]
  exact grd1_wq h.1 (grd1_wq h.2 q)
theorem Gd.fr {g : Option (Nat × List D)} {S S' : Store} {L : List Nat} (h : Gd g S) (k : Fr L S S') (hl : ∀ p, g = some p → p.1 ∉ L) : Gd g S' := by
  cases g with
  | none => trivial
  | some p => exact k.get _ _ (hl p rfl) h
/-- a comprehension, by an invariant over what is left, what is told and the store -/
theorem compL_inv {s : Src} {f : D → M (Option D)} (I : List D → List D → Store → Prop) (hg : ∀ ds acc S, I ds acc S → s.Gd S)
    (h : ∀ d ds acc S, I (d :: ds) acc S → wq (f d) (fun r S' => match r with | some y => acc.length < sizeLine ∧ I ds (acc ++ [y]) S' | none => I ds acc S') S) :
    ∀ (ds acc : List D) (S : Store), I ds acc S → wq (compL s f ds acc) (fun r S' => I [] r S') S
  | [], acc, S, hi => by
    unfold compL
    rw [wq_bind]
    exact grd_wq (hg _ _ _ hi) (by rw [wq_pure]; exact hi)
  | d :: ds, acc, S, hi => by
    unfold compL
    rw [wq_bind]
    refine grd_wq (hg _ _ _ hi) ?_
    rw [wq_bind]
    refine wq_mono (h d ds acc S hi) fun r S' k => ?_
    cases r with
    | none => exact compL_inv I hg h ds acc S' k
    | some y =>
      dsimp only at *
      rw [wq_bind, wq_need]
      exact ⟨decide_eq_true k.1, compL_inv I hg h ds _ S' k.2⟩
/-- a comprehension whose element is told by its item, over a frame -/
theorem compL_map {s : Src} {f : D → M (Option D)} {S : Store} {L : List Nat} {P : Store → Prop} {R : D → Option D → Prop} {ds : List D} (hs : ds.length ≤ sizeLine) (hg : ∀ S', Fr L S S' → P S' → s.Gd S') (hP : P S)
    (h : ∀ d, d ∈ ds → ∀ S', Fr L S S' → P S' → wq (f d) (fun r S'' => R d r ∧ Fr L S' S'' ∧ P S'') S') :
    wq (compL s f ds []) (fun r S' => (∃ os : List (Option D), os.length = ds.length ∧ (∀ p ∈ ds.zip os, R p.1 p.2) ∧ r = os.filterMap id) ∧ Fr L S S' ∧ P S') S := by
  have key := compL_inv (s := s) (f := f) (fun rest acc S' => ∃ (done : List D) (os : List (Option D)), ds = done ++ rest ∧ os.length = done.length ∧ (∀ p ∈ done.zip os, R p.1 p.2) ∧ acc = os.filterMap id ∧ Fr L S S' ∧ P S') ?_ ?_ ds [] S
    ⟨[], [], rfl, rfl, fun p hp => by simp at hp, rfl, .refl, hP⟩
  · refine wq_mono key fun r S' ⟨done, os, e1, e2, e3, e4, e5, e6⟩ => ?_
    rw [List.append_nil] at e1
    subst e1
    exact ⟨⟨os, e2, e3, e4⟩, e5, e6⟩
  · rintro rest acc S' ⟨done, os, e1, e2, e3, e4, e5, e6⟩
    exact hg S' e5 e6
  · rintro d rest acc S' ⟨done, os, e1, e2, e3, e4, e5, e6⟩
    have hm : d ∈ ds := by rw [e1]; simp
    have hl : acc.length < sizeLine := by
      have a1 : acc.length ≤ os.length := by rw [e4]; exact List.length_filterMap_le _ _
      have a2 : ds.length = done.length + (rest.length + 1) := by rw [e1]; simp
      omega
    refine wq_mono (h d hm S' e5 e6) fun r S'' ⟨k1, k2, k3⟩ => ?_
    have z : ∀ p ∈ (done ++ [d]).zip (os ++ [r]), R p.1 p.2 := fun p hp => by
      rw [List.zip_append (by rw [e2])] at hp
      rcases List.mem_append.mp hp with q | q
      · exact e3 p q
      · simp only [List.zip_cons_cons, List.zip_nil_right, List.mem_singleton] at q
        subst q
        exact k1
    cases r with
    | none => exact ⟨done ++ [d], os ++ [none], by rw [e1]; simp, by simp [e2], z, by rw [List.filterMap_append, ← e4]; simp, e5.trans k2, k3⟩
    | some y => exact ⟨hl, done ++ [d], os ++ [some y], by rw [e1]; simp, by simp [e2], z, by rw [List.filterMap_append, ← e4]; simp, e5.trans k2, k3⟩
theorem zip_fun {α β : Type} {g : α → β} : ∀ {ds : List α} {os : List β}, os.length = ds.length → (∀ p ∈ ds.zip os, p.2 = g p.1) → os = ds.map g
  | [], [], _, _ => rfl
  | [], _ :: _, h, _ => by cases h
  | _ :: _, [], h, _ => by cases h
  | d :: ds, o :: os, h, k => by
    have h1 := k (d, o) (by simp)
    rw [List.map_cons, ← zip_fun (Nat.succ.inj h) fun p hp => k p (by simp only [List.zip_cons_cons, List.mem_cons]; exact .inr hp)]
    exact congrArg (· :: os) h1
/-- a comprehension that computes g and leaves the store but for what is new -/
theorem compL_pure {s : Src} {f : D → M (Option D)} {S : Store} {g : D → Option D} {ds : List D} {Q : List D → Store → Prop} (hs : ds.length ≤ sizeLine) (hg : ∀ S', Fr [] S S' → s.Gd S')
    (h : ∀ d, d ∈ ds → ∀ S', Fr [] S S' → wq (f d) (fun r S'' => r = g d ∧ Fr [] S' S'') S') (k : ∀ S', Fr [] S S' → Q (ds.filterMap g) S') : wq (compL s f ds []) Q S := by
  refine wq_mono (compL_map (L := []) (P := fun _ => True) (R := fun d r => r = g d) hs (fun S' a _ => hg S' a) trivial fun d hd S' a _ => ?_) fun r S' ⟨⟨os, e1, e2, e3⟩, e4, _⟩ => ?_
  · exact wq_mono (h d hd S' a) fun r S'' ⟨k1, k2⟩ => ⟨k1, k2, trivial⟩
  · have := zip_fun e1 e2
    subst this
    rw [e3, List.filterMap_map]
    exact k S' e4
/-- a for, by an invariant -/
theorem forL_inv {s : Src} {f : D → Sl → M (Fl × Sl)} {Q : Fl × Sl → Store → Prop} (I : List D → Sl → Store → Prop) (hg : ∀ ds e S, I ds e S → s.Gd S)
    (he : ∀ e S, I [] e S → Q (.nx, e) S)
    (h : ∀ d ds e S, I (d :: ds) e S → wq (f d e) (fun r S' => match r with | (.nx, e) => I ds e S' | (.ct, e) => I ds e S' | (.bk, e) => Q (.nx, e) S' | (.rt v, e) => Q (.rt v, e) S') S) :
    ∀ (ds : List D) (e : Sl) (S : Store), I ds e S → wq (forL s f ds e) Q S
  | [], e, S, hi => by
    unfold forL
    rw [wq_bind]
    exact grd_wq (hg _ _ _ hi) (by rw [wq_pure]; exact he _ _ hi)
  | d :: ds, e, S, hi => by
    unfold forL
    rw [wq_bind]
    refine grd_wq (hg _ _ _ hi) ?_
    rw [wq_bind]
    refine wq_mono (h d ds e S hi) fun r S' k => ?_
    obtain ⟨fl, e'⟩ := r
    cases fl with
    | nx => exact forL_inv I hg he h ds e' S' k
    | ct => exact forL_inv I hg he h ds e' S' k
    | bk => exact ⟨k⟩
    | rt v => exact ⟨k⟩
theorem wq_call {gl : Nat → D} {fs : List Fd} {n f : Nat} {fd : Fd} {ds : List D} {Q : D → Store → Prop} {S : Store} (h : fs[f]? = some fd) (hl : ds.length = fd.np) :
    wq (call gl fs (n + 1) f ds) Q S = wq (exs gl (call gl fs n) fd.body (startE fd.nl ds)) (fun r S' => wq (ofFl r) Q S') S := by
  unfold call
  rw [h]
  dsimp only
  rw [if_pos hl, wq_bind]

/-! ### == between data without truth values -/
mutual
def D.bf : D → Bool
  | .non => true | .bl _ => false | .int _ => true | .str x => PyData.canLay0 (.str x) | .tup ds => D.bfs ds | .ref _ => false | .ro _ => false
def D.bfs : List D → Bool
  | [] => true
  | d :: ds => D.bf d && D.bfs ds
end
mutual
def D.dp : D → Nat
  | .tup ds => D.dps ds + 1
  | _ => 0
def D.dps : List D → Nat
  | [] => 0
  | d :: ds => max (D.dp d) (D.dps ds)
end
mutual
theorem bf_py : ∀ d : D, d.bf = true → ∃ p, pyOf d = some p ∧ p.canLay0 = true ∧ p.depth = d.dp
  | .non, _ => ⟨_, rfl, rfl, rfl⟩
  | .int _, _ => ⟨_, rfl, rfl, rfl⟩
  | .str _, h => ⟨_, rfl, h, rfl⟩
  | .tup ds, h => by
    obtain ⟨ps, e1, e2, e3⟩ := bfs_py ds (by simpa [D.bf] using h)
    exact ⟨.tuple ps, by simp [pyOf, e1], by simpa [PyData.canLay0] using e2, by simp [PyData.depth, D.dp, e3]⟩
  | .bl _, h => by simp [D.bf] at h
  | .ref _, h => by simp [D.bf] at h
  | .ro _, h => by simp [D.bf] at h
theorem bfs_py : ∀ d : List D, D.bfs d = true → ∃ p, pysOf d = some p ∧ PyData.canLayAll0 p = true ∧ PyData.depthAll p = D.dps d
  | [], _ => ⟨[], rfl, rfl, rfl⟩
  | d :: ds, h => by
    simp only [D.bfs, Bool.and_eq_true] at h
    obtain ⟨p, a1, a2, a3⟩ := bf_py d h.1
    obtain ⟨q, b1, b2, b3⟩ := bfs_py ds h.2
    exact ⟨p :: q, by simp [pysOf, a1, b1], by simp [PyData.canLayAll0, a2, b2], by simp [PyData.depthAll, D.dps, a3, b3]⟩
end
mutual
theorem eqv_bf : ∀ (a b : D) (p q : PyData), a.bf = true → b.bf = true → pyOf a = some p → pyOf b = some q → PyData.eqv p q = decide (a = b)
  | .non, b, p, q, _, hb, hp, hq => by
    cases hp
    cases b with
    | tup ds =>
      obtain ⟨x, e, _⟩ := bfs_py ds (by simpa [D.bf] using hb)
      simp only [pyOf, e, Option.map_some] at hq
      cases hq
      simp [PyData.eqv]
    | non => cases hq; simp [PyData.eqv]
    | int j => cases hq; simp [PyData.eqv]
    | str j => cases hq; simp [PyData.eqv]
    | _ => simp [D.bf] at hb
  | .int i, b, p, q, _, hb, hp, hq => by
    cases hp
    cases b with
    | tup ds =>
      obtain ⟨x, e, _⟩ := bfs_py ds (by simpa [D.bf] using hb)
      simp only [pyOf, e, Option.map_some] at hq
      cases hq
      simp [PyData.eqv]
    | non => cases hq; simp [PyData.eqv]
    | int j => cases hq; by_cases e : i = j <;> simp [PyData.eqv, e]
    | str j => cases hq; simp [PyData.eqv]
    | _ => simp [D.bf] at hb
  | .str i, b, p, q, _, hb, hp, hq => by
    cases hp
    cases b with
    | tup ds =>
      obtain ⟨x, e, _⟩ := bfs_py ds (by simpa [D.bf] using hb)
      simp only [pyOf, e, Option.map_some] at hq
      cases hq
      simp [PyData.eqv]
    | non => cases hq; simp [PyData.eqv]
    | int j => cases hq; simp [PyData.eqv]
    | str j => cases hq; by_cases e : i = j <;> simp [PyData.eqv, e]
    | _ => simp [D.bf] at hb
  | .tup ds, b, p, q, ha, hb, hp, hq => by
    obtain ⟨x, e, _⟩ := bfs_py ds (by simpa [D.bf] using ha)
    simp only [pyOf, e, Option.map_some] at hp
    cases hp
    cases b with
    | tup es =>
      obtain ⟨y, e2, _⟩ := bfs_py es (by simpa [D.bf] using hb)
      simp only [pyOf, e2, Option.map_some] at hq
      cases hq
      have k := eqvs_bf ds es x y (by simpa [D.bf] using ha) (by simpa [D.bf] using hb) e e2
      simp only [PyData.eqv, k, D.tup.injEq]
    | non => cases hq; simp [PyData.eqv]
    | int j => cases hq; simp [PyData.eqv]
    | str j => cases hq; simp [PyData.eqv]
    | _ => simp [D.bf] at hb
  | .bl _, _, _, _, h, _, _, _ => by simp [D.bf] at h
  | .ref _, _, _, _, h, _, _, _ => by simp [D.bf] at h
  | .ro _, _, _, _, h, _, _, _ => by simp [D.bf] at h
theorem eqvs_bf : ∀ (a b : List D) (p q : List PyData), D.bfs a = true → D.bfs b = true → pysOf a = some p → pysOf b = some q → PyData.eqvAll p q = decide (a = b)
  | [], [], p, q, _, _, hp, hq => by cases hp; cases hq; simp [PyData.eqvAll]
  | [], b :: bs, p, q, _, hb, hp, hq => by
    cases hp
    obtain ⟨x, e, _⟩ := bfs_py (b :: bs) hb
    simp only [D.bfs, Bool.and_eq_true] at hb
    obtain ⟨y, e1, _⟩ := bf_py b hb.1
    obtain ⟨z, e2, _⟩ := bfs_py bs hb.2
    simp only [pysOf, e1, e2] at hq
    cases hq
    simp [PyData.eqvAll]
  | a :: as, [], p, q, ha, _, hp, hq => by
    cases hq
    simp only [D.bfs, Bool.and_eq_true] at ha
    obtain ⟨y, e1, _⟩ := bf_py a ha.1
    obtain ⟨z, e2, _⟩ := bfs_py as ha.2
    simp only [pysOf, e1, e2] at hp
    cases hp
    simp [PyData.eqvAll]
  | a :: as, b :: bs, p, q, ha, hb, hp, hq => by
    simp only [D.bfs, Bool.and_eq_true] at ha hb
    obtain ⟨y, e1, _⟩ := bf_py a ha.1
    obtain ⟨z, e2, _⟩ := bfs_py as ha.2
    obtain ⟨y', e1', _⟩ := bf_py b hb.1
    obtain ⟨z', e2', _⟩ := bfs_py bs hb.2
    simp only [pysOf, e1, e2] at hp
    simp only [pysOf, e1', e2'] at hq
    cases hp
    cases hq
    simp only [PyData.eqvAll, eqv_bf a b _ _ ha.1 hb.1 e1 e1', eqvs_bf as bs _ _ ha.2 hb.2 e2 e2']
    by_cases h1 : a = b <;> by_cases h2 : as = bs <;> simp [h1, h2]
end
theorem w_eqD {a b : D} {Q : Bool → Store → Prop} {S : Store} (ha : a.bf = true) (hb : b.bf = true) (da : a.dp ≤ 64) (db : b.dp ≤ 64) : wq (eqD a b) Q S = Q (decide (a = b)) S := by
  obtain ⟨p, a1, a2, a3⟩ := bf_py a ha
  obtain ⟨q, b1, b2, b3⟩ := bf_py b hb
  have e1 : pyAt S a = some p := by rw [← a1]; cases a <;> first | rfl | simp [D.bf] at ha
  have e2 : pyAt S b = some q := by rw [← b1]; cases b <;> first | rfl | simp [D.bf] at hb
  have e3 : (SeqAt.shaped p && SeqAt.shaped q) = true := by
    unfold SeqAt.shaped
    rw [a2, b2, a3, b3, decide_eq_true da, decide_eq_true db]
    rfl
  rw [wq_eq]
  unfold wp eqD
  simp only [e1, e2, e3, if_true, eqv_bf a b p q ha hb a1 b1]
theorem w_eqB {a b : Bool} {Q : Bool → Store → Prop} {S : Store} : wq (eqD (.bl a) (.bl b)) Q S = Q (a == b) S := by
  have e3 : (SeqAt.shaped (.bool a) && SeqAt.shaped (.bool b)) = true := by decide +revert
  have e1 : eqD (.bl a) (.bl b) S = some (PyData.eqv (.bool a) (.bool b), S) := by
    show (if (SeqAt.shaped (.bool a) && SeqAt.shaped (.bool b)) = true then some (PyData.eqv (.bool a) (.bool b), S) else none) = _
    rw [if_pos e3]
  rw [wq_eq]
  unfold wp
  rw [e1]
  rfl
theorem bfs_ints : ∀ xs : List Int, D.bfs (xs.map .int) = true
  | [] => rfl
  | x :: xs => by simp only [List.map_cons, D.bfs, D.bf, bfs_ints xs, Bool.and_self]
theorem dps_ints : ∀ xs : List Int, D.dps (xs.map .int) = 0
  | [] => rfl
  | x :: xs => by simp only [List.map_cons, D.dps, D.dp, dps_ints xs, Nat.max_self]
theorem map_int_inj {xs ys : List Int} : xs.map D.int = ys.map D.int ↔ xs = ys := ⟨fun h => by
  have := congrArg intsOf h
  rw [intsOf_map, intsOf_map] at this
  exact Option.some.inj this, fun h => by rw [h]⟩
theorem w_eqT {x y : List Int} {Q : Bool → Store → Prop} {S : Store} : wq (eqD (.tup (x.map .int)) (.tup (y.map .int))) Q S = Q (decide (x = y)) S := by
  rw [w_eqD (by simp only [D.bf, bfs_ints]) (by simp only [D.bf, bfs_ints]) (by simp only [D.dp, dps_ints]; omega) (by simp only [D.dp, dps_ints]; omega)]
  congr 1
  simp only [D.tup.injEq, map_int_inj]
theorem w_eqI {x y : Int} {Q : Bool → Store → Prop} {S : Store} : wq (eqD (.int x) (.int y)) Q S = Q (decide (x = y)) S := by
  rw [w_eqD rfl rfl (Nat.zero_le _) (Nat.zero_le _)]
  congr 1
  simp only [D.int.injEq]
end Dl
end

section
set_option Elab.async false
set_option linter.all false
set_option maxRecDepth 100000
set_option exponentiation.threshold 20000
/-! Dl: more of the calculus: mapped sources, ranges, indices, bounds. -/
namespace Dl
open PySem PySem.Spec PyProof.Rows L2
theorem rngItems_nat (n : Nat) : rngItems 0 (n : Int) = (List.range n).map fun (k : Nat) => D.int (k : Int) := by
  unfold rngItems
  rw [Int.sub_zero, Int.toNat_natCast]
  exact List.map_congr_left fun k _ => by rw [Int.zero_add]
theorem small62_of {i : Int} (h0 : -1000000 ≤ i) (h1 : i ≤ 1000000) : small62 i = true := by
  unfold small62
  rw [decide_eq_true (by omega), decide_eq_true (by omega)]
  rfl
theorem small_rng {n : Nat} (h : n ≤ 1000000) : (small62 0 && small62 (n : Int)) = true := by
  rw [small62_of (by omega) (by omega), small62_of (by omega) (by omega)]
  rfl
theorem log2_lt {n k : Nat} (h : n < 2 ^ k) (hk : 0 < k) : n.log2 < k := by
  by_cases e : n = 0
  · subst e
    exact hk
  · exact (Nat.log2_lt e).mpr h
theorem mulFits_of {i j : Int} (hi : i.natAbs < 2 ^ 8000) (hj : j.natAbs < 2 ^ 8000) : mulFits i j = true := by
  have a := log2_lt hi (by omega)
  have b := log2_lt hj (by omega)
  exact decide_eq_true (by omega)
theorem fits_small {i : Int} (h0 : -1000000 ≤ i) (h1 : i ≤ 1000000) : i.natAbs < 2 ^ 8000 := by
  have : (2 : Nat) ^ 20 ≤ 2 ^ 8000 := Nat.pow_le_pow_right (by omega) (by omega)
  have : (1000000 : Nat) < 2 ^ 20 := by decide
  omega
theorem fits_big {i : Int} (h0 : -1000000000000 ≤ i) (h1 : i ≤ 1000000000000) : i.natAbs < 2 ^ 8000 := by
  have : (2 : Nat) ^ 40 ≤ 2 ^ 8000 := Nat.pow_le_pow_right (by omega) (by omega)
  have : (1000000000000 : Nat) < 2 ^ 40 := by decide
  omega
theorem atI_map {α : Type} {xs : List α} {e : α → D} {k : Nat} {x : α} (h : xs[k]? = some x) : atI (xs.map e) (k : Int) = some (e x) :=
  atI_of (by omega) (by rw [Int.toNat_natCast, List.getElem?_map, h]; rfl)
theorem atI_ints {xs : List Int} {k : Nat} (h : k < xs.length) : atI (xs.map D.int) (k : Int) = some (D.int (xs.getD k 0)) :=
  atI_map (by rw [List.getD_eq_getElem?_getD, List.getElem?_eq_getElem h]; rfl)
theorem atI_int {xs : List Int} {k : Int} (h0 : 0 ≤ k) (h : k.toNat < xs.length) : atI (xs.map D.int) k = some (D.int (xs.getD k.toNat 0)) := by
  have := atI_ints h
  rwa [Int.toNat_of_nonneg h0] at this
theorem getD_mem {xs : List Int} {k : Nat} (h : k < xs.length) : xs.getD k 0 ∈ xs := by
  rw [List.getD_eq_getElem?_getD, List.getElem?_eq_getElem h]
  exact List.getElem_mem h
/-- over mapped items, in general: what each item may tell, over a frame that keeps P -/
theorem compL_gen {α : Type} {s : Src} {f : D → M (Option D)} {S : Store} {L : List Nat} {P : Store → Prop} {e : α → D} {R : α → Option D → Prop} {xs : List α} {Q : List D → Store → Prop} (hs : xs.length ≤ 1000) (hg : ∀ S', Fr L S S' → P S' → s.Gd S') (hP : P S)
    (h : ∀ x, x ∈ xs → ∀ S', Fr L S S' → P S' → wq (f (e x)) (fun r S'' => R x r ∧ Fr L S' S'' ∧ P S'') S')
    (k : ∀ (os : List (Option D)) S', os.length = xs.length → (∀ p ∈ xs.zip os, R p.1 p.2) → Fr L S S' → P S' → Q (os.filterMap id) S') : wq (compL s f (xs.map e) []) Q S := by
  have key := compL_inv (s := s) (f := f) (fun rest acc S' => ∃ (done rs : List α) (os : List (Option D)), xs = done ++ rs ∧ rest = rs.map e ∧ os.length = done.length ∧ (∀ p ∈ done.zip os, R p.1 p.2) ∧ acc = os.filterMap id ∧ Fr L S S' ∧ P S') ?_ ?_ (xs.map e) [] S
    ⟨[], xs, [], rfl, rfl, rfl, fun p hp => by simp at hp, rfl, .refl, hP⟩
  · refine wq_mono key fun r S' ⟨done, rs, os, e1, e0, e2, e3, e4, e5, e6⟩ => ?_
    cases rs with
    | cons _ _ => cases e0
    | nil =>
      rw [List.append_nil] at e1
      subst e1
      rw [e4]
      exact k os S' e2 e3 e5 e6
  · rintro rest acc S' ⟨done, rs, os, e1, e0, e2, e3, e4, e5, e6⟩
    exact hg S' e5 e6
  · rintro d rest acc S' ⟨done, rs, os, e1, e0, e2, e3, e4, e5, e6⟩
    cases rs with
    | nil => cases e0
    | cons x rs =>
    cases e0
    have hm : x ∈ xs := by rw [e1]; simp
    have hl : acc.length < sizeLine := by
      have a1 : acc.length ≤ os.length := by rw [e4]; exact List.length_filterMap_le _ _
      have a2 : xs.length = done.length + (rs.length + 1) := by rw [e1]; simp
      exact Nat.lt_of_lt_of_le (show acc.length < 1000 by omega) (by decide)
    refine wq_mono (h x hm S' e5 e6) fun r S'' ⟨k1, k2, k3⟩ => ?_
    have z : ∀ p ∈ (done ++ [x]).zip (os ++ [r]), R p.1 p.2 := fun p hp => by
      rw [List.zip_append (by rw [e2])] at hp
      rcases List.mem_append.mp hp with q | q
      · exact e3 p q
      · simp only [List.zip_cons_cons, List.zip_nil_right, List.mem_singleton] at q
        subst q
        exact k1
    cases r with
    | none => exact ⟨done ++ [x], rs, os ++ [none], by rw [e1]; simp, rfl, by simp [e2], z, by rw [List.filterMap_append, ← e4]; simp, e5.trans k2, k3⟩
    | some y => exact ⟨hl, done ++ [x], rs, os ++ [some y], by rw [e1]; simp, rfl, by simp [e2], z, by rw [List.filterMap_append, ← e4]; simp, e5.trans k2, k3⟩
/-- over mapped items: a pure test and a pure element -/
theorem compL_filt {α : Type} {s : Src} {f : D → M (Option D)} {S : Store} {e : α → D} (g : α → Option D) {xs : List α} {Q : List D → Store → Prop} (hs : xs.length ≤ 1000) (hg : ∀ S', Fr [] S S' → s.Gd S')
    (h : ∀ x, x ∈ xs → ∀ S', Fr [] S S' → wq (f (e x)) (fun r S'' => r = g x ∧ Fr [] S' S'') S') (k : ∀ S', Fr [] S S' → Q (xs.filterMap g) S') : wq (compL s f (xs.map e) []) Q S := by
  refine compL_gen (L := []) (P := fun _ => True) (R := fun x r => r = g x) hs (fun S' a _ => hg S' a) trivial (fun x hx S' a _ => wq_mono (h x hx S' a) fun r S'' ⟨k1, k2⟩ => ⟨k1, k2, trivial⟩) fun os S' e1 e2 e3 _ => ?_
  have := zip_fun e1 e2
  subst this
  rw [List.filterMap_map]
  exact k S' e3
/-- the same, with no test -/
theorem compL_tot {α : Type} {s : Src} {f : D → M (Option D)} {S : Store} {e : α → D} (g : α → D) {xs : List α} {Q : List D → Store → Prop} (hs : xs.length ≤ 1000) (hg : ∀ S', Fr [] S S' → s.Gd S')
    (h : ∀ x, x ∈ xs → ∀ S', Fr [] S S' → wq (f (e x)) (fun r S'' => r = some (g x) ∧ Fr [] S' S'') S') (k : ∀ S', Fr [] S S' → Q (xs.map g) S') : wq (compL s f (xs.map e) []) Q S := by
  refine compL_filt (fun x => some (g x)) hs hg h fun S' a => ?_
  have : xs.filterMap (fun x => some (g x)) = xs.map g := by
    clear k h hs
    induction xs with
    | nil => rfl
    | cons x xs ih => simp only [List.filterMap_cons, List.map_cons, ih]
  rw [this]
  exact k S' a
/-- a comprehension with no test that draws -/
theorem compL_drw {α β : Type} {s : Src} {f : D → M (Option D)} {S : Store} {l : Nat} {e : α → D} {e2 : β → D} {R : α → β → Prop} {xs : List α} {Q : List D → Store → Prop} (hs : xs.length ≤ 1000) (hg : ∀ S', Dr l S S' → s.Gd S') (hd : Dw l S)
    (h : ∀ x, x ∈ xs → ∀ S', Dr l S S' → wq (f (e x)) (fun r S'' => (∃ y, r = some (e2 y) ∧ R x y) ∧ Dr l S' S'') S')
    (k : ∀ (ys : List β) S', ys.length = xs.length → (∀ p ∈ xs.zip ys, R p.1 p.2) → Dr l S S' → Q (ys.map e2) S') : wq (compL s f (xs.map e) []) Q S := by
  refine compL_gen (L := [l]) (P := Dw l) (R := fun x r => ∃ y, r = some (e2 y) ∧ R x y) hs (fun S' a b => hg S' ⟨b, a⟩) hd (fun x hx S' a b => wq_mono (h x hx S' ⟨b, a⟩) fun r S'' ⟨k1, k2⟩ => ⟨k1, k2.f, k2.d⟩) fun os S' e1 e2' e3 e4 => ?_
  have : ∃ ys : List β, ys.length = xs.length ∧ (∀ p ∈ xs.zip ys, R p.1 p.2) ∧ os.filterMap id = ys.map e2 := by
    clear k h hs e3 e4
    induction xs generalizing os with
    | nil =>
      cases os with
      | nil => exact ⟨[], rfl, fun p hp => by simp at hp, rfl⟩
      | cons _ _ => cases e1
    | cons x xs ih =>
      cases os with
      | nil => cases e1
      | cons o os =>
        obtain ⟨y, rfl, hy⟩ := e2' (x, o) (by simp)
        obtain ⟨ys, a1, a2, a3⟩ := ih os (Nat.succ.inj e1) fun p hp => e2' p (by simp only [List.zip_cons_cons, List.mem_cons]; exact .inr hp)
        refine ⟨y :: ys, by simp [a1], fun p hp => ?_, by simp [a3]⟩
        simp only [List.zip_cons_cons, List.mem_cons] at hp
        rcases hp with rfl | hp
        · exact hy
        · exact a2 p hp
  obtain ⟨ys, a1, a2, a3⟩ := this
  rw [a3]
  exact k ys S' a1 a2 ⟨e4, e3⟩
/-- a comprehension that draws whether it keeps its item -/
theorem compL_sub {α : Type} {s : Src} {f : D → M (Option D)} {S : Store} {l : Nat} {e : α → D} {xs : List α} {Q : List D → Store → Prop} (hs : xs.length ≤ 1000) (hg : ∀ S', Dr l S S' → s.Gd S') (hd : Dw l S)
    (h : ∀ x, x ∈ xs → ∀ S', Dr l S S' → wq (f (e x)) (fun r S'' => (r = none ∨ r = some (e x)) ∧ Dr l S' S'') S')
    (k : ∀ (ys : List α) S', List.Sublist ys xs → Dr l S S' → Q (ys.map e) S') : wq (compL s f (xs.map e) []) Q S := by
  refine compL_gen (L := [l]) (P := Dw l) (R := fun x r => r = none ∨ r = some (e x)) hs (fun S' a b => hg S' ⟨b, a⟩) hd (fun x hx S' a b => wq_mono (h x hx S' ⟨b, a⟩) fun r S'' ⟨k1, k2⟩ => ⟨k1, k2.f, k2.d⟩) fun os S' e1 e2' e3 e4 => ?_
  have : ∃ ys : List α, List.Sublist ys xs ∧ os.filterMap id = ys.map e := by
    clear k h hs e3 e4
    induction xs generalizing os with
    | nil =>
      cases os with
      | nil => exact ⟨[], .slnil, rfl⟩
      | cons _ _ => cases e1
    | cons x xs ih =>
      cases os with
      | nil => cases e1
      | cons o os =>
        obtain ⟨ys, a1, a3⟩ := ih os (Nat.succ.inj e1) fun p hp => e2' p (by simp only [List.zip_cons_cons, List.mem_cons]; exact .inr hp)
        rcases e2' (x, o) (by simp) with h | h
        · exact ⟨ys, .cons _ a1, by simp at h; subst h; simp [a3]⟩
        · exact ⟨x :: ys, .cons₂ _ a1, by simp at h; subst h; simp [a3]⟩
  obtain ⟨ys, a1, a3⟩ := this
  rw [a3]
  exact k ys S' a1 ⟨e4, e3⟩
theorem Gd_none {ds : List D} {S : Store} : (Src.mk ds none none).Gd S := ⟨trivial, trivial⟩
theorem Gd_ref {ds es : List D} {l : Nat} {S : Store} (h : S[l]? = some (.lst es)) : (Src.mk ds (some (l, es)) none).Gd S := ⟨h, trivial⟩
/-- a for over mapped items -/
theorem forL_gen {α : Type} {s : Src} {f : D → Sl → M (Fl × Sl)} {Q : Fl × Sl → Store → Prop} {e : α → D} (I : List α → List α → Sl → Store → Prop) {xs : List α} {env : Sl} {S : Store} (hg : ∀ a b e S, I a b e S → s.Gd S)
    (h0 : I [] xs env S) (he : ∀ e S, I xs [] e S → Q (.nx, e) S)
    (h : ∀ (done : List α) (x : α) (rest : List α) (e1 : Sl) (S : Store), xs = done ++ x :: rest → I done (x :: rest) e1 S → wq (f (e x) e1) (fun r S' => match r with | (.nx, e2) => I (done ++ [x]) rest e2 S' | (.ct, e2) => I (done ++ [x]) rest e2 S' | (.bk, e2) => Q (.nx, e2) S' | (.rt v, e2) => Q (.rt v, e2) S') S) :
    wq (forL s f (xs.map e) env) Q S := by
  refine forL_inv (fun ds e1 S => ∃ done rest, xs = done ++ rest ∧ ds = rest.map e ∧ I done rest e1 S) ?_ ?_ ?_ (xs.map e) env S ⟨[], xs, rfl, rfl, h0⟩
  · rintro ds e1 S ⟨done, rest, _, _, k⟩
    exact hg _ _ _ _ k
  · rintro e1 S ⟨done, rest, a, b, k⟩
    cases rest with
    | cons _ _ => cases b
    | nil =>
      rw [List.append_nil] at a
      subst a
      exact he _ _ k
  · rintro d ds e1 S ⟨done, rest, a, b, k⟩
    cases rest with
    | nil => cases b
    | cons x rest =>
      cases b
      refine wq_mono (h done x rest e1 S a k) fun r S' z => ?_
      obtain ⟨fl, e2⟩ := r
      cases fl with
      | nx => exact ⟨done ++ [x], rest, by rw [a]; simp, rfl, z⟩
      | ct => exact ⟨done ++ [x], rest, by rw [a]; simp, rfl, z⟩
      | bk => exact z
      | rt v => exact z
/-- a for over mapped items whose invariant does not name the items -/
theorem forL_inv1 {α : Type} {s : Src} {f : D → Sl → M (Fl × Sl)} {Q : Fl × Sl → Store → Prop} {e : α → D} (I : Nat → Sl → Store → Prop) {xs : List α} {env : Sl} {S : Store} (hg : ∀ n e S, I n e S → s.Gd S)
    (h0 : I 0 env S) (he : ∀ e S, I xs.length e S → Q (.nx, e) S)
    (h : ∀ (n : Nat) (x : α) (e1 : Sl) (S : Store), xs[n]? = some x → I n e1 S → wq (f (e x) e1) (fun r S' => match r with | (.nx, e2) => I (n + 1) e2 S' | (.ct, e2) => I (n + 1) e2 S' | (.bk, e2) => Q (.nx, e2) S' | (.rt v, e2) => Q (.rt v, e2) S') S) :
    wq (forL s f (xs.map e) env) Q S := by
  refine forL_gen (fun done _ e1 S => I done.length e1 S) (fun a b e S k => hg _ _ _ k) h0 he fun done x rest e1 S a k => ?_
  have := h done.length x e1 S (by rw [a]; simp) k
  simpa only [List.length_append, List.length_cons, List.length_nil] using this
theorem filter_sub {α : Type} [DecidableEq α] : ∀ {ks xs : List α}, List.Sublist ks xs → xs.Nodup → xs.filter (fun x => decide (x ∈ ks)) = ks
  | _, _, .slnil, _ => rfl
  | ks, _, .cons (l₂ := xs) a h, nd => by
    have nd' := List.nodup_cons.mp nd
    have hn : a ∉ ks := fun m => nd'.1 (h.subset m)
    rw [List.filter_cons_of_neg (by simpa using hn)]
    exact filter_sub h nd'.2
  | _, _, .cons₂ (l₁ := ks) (l₂ := xs) a h, nd => by
    have nd' := List.nodup_cons.mp nd
    rw [List.filter_cons_of_pos (by simp)]
    congr 1
    have : xs.filter (fun x => decide (x ∈ a :: ks)) = xs.filter (fun x => decide (x ∈ ks)) := by
      refine List.filter_congr fun x hx => ?_
      have : x ≠ a := fun e => nd'.1 (e ▸ hx)
      simp [this]
    rw [this]
    exact filter_sub h nd'.2
end Dl
end

section
set_option Elab.async false
set_option linter.all false
set_option maxRecDepth 100000
/-! Dl: wq of each form of the language, bodies of loops kept shut. -/
namespace Dl
open PySem PySem.Spec PyProof.Rows L2
section
variable {gl : Nat → D} {cf : Nat → List D → M D} {env : Sl} {S : Store} {Q : D → Store → Prop} {QB : Bool → Store → Prop} {QL : List D → Store → Prop} {QO : Option Int → Store → Prop} {QS : Src → Store → Prop} {QE : Sl → Store → Prop} {QF : Fl × Sl → Store → Prop} {QD : Option D → Store → Prop}
/-- the body of a comprehension -/
def cB (gl : Nat → D) (cf : Nat → List D → M D) (t : TG) (cond : IC) (e : IE) (env0 : Sl) (d : D) : M (Option D) := do
  let env1 ← asg gl cf t d env0
  if ← evc gl cf cond env1 then
    let y ← ev gl cf e env1
    pure (some y)
  else pure none
/-- the body of a for -/
def fB (gl : Nat → D) (cf : Nat → List D → M D) (t : TG) (b : ISs) (d : D) (e : Sl) : M (Fl × Sl) := do let e1 ← asg gl cf t d e; exs gl cf b e1
theorem e_cB {t : TG} {cond : IC} {e : IE} {d : D} : wq (cB gl cf t cond e env d) QD S = wq (asg gl cf t d env) (fun env1 S' => wq (evc gl cf cond env1) (fun b S'' => if b = true then wq (ev gl cf e env1) (fun y => QD (some y)) S'' else QD none S'') S') S := by
  unfold cB
  simp only [wq_bind, wq_ite, wq_pure]
theorem e_fB {t : TG} {b : ISs} {d : D} : wq (fB gl cf t b d env) QF S = wq (asg gl cf t d env) (fun e1 S' => wq (exs gl cf b e1) QF S') S := by
  unfold fB
  simp only [wq_bind]
theorem e_var {i : Nat} : wq (ev gl cf (.var i) env) Q S = match env[i]? with | some (some d) => Q d S | _ => False := by
  simp only [ev]
  cases env[i]? with
  | none => exact wq_l rfl
  | some o => cases o <;> first | exact wq_l rfl | rfl
theorem e_int {z : Int} : wq (ev gl cf (.int z) env) Q S = Q (.int z) S := by simp only [ev, wq_pure]
theorem e_bl {b : Bool} : wq (ev gl cf (.bl b) env) Q S = Q (.bl b) S := by simp only [ev, wq_pure]
theorem e_non : wq (ev gl cf .non env) Q S = Q .non S := by simp only [ev, wq_pure]
theorem e_str {x : Str} : wq (ev gl cf (.str x) env) Q S = Q (.str x) S := by simp only [ev, wq_pure]
theorem e_glo {g : Nat} : wq (ev gl cf (.glo g) env) Q S = Q (gl g) S := by simp only [ev, wq_pure]
theorem e_tup {es : IEs} : wq (ev gl cf (.tup es) env) Q S = wq (evs gl cf es env) (fun ds S' => lens ds.length = true ∧ Q (.tup ds) S') S := by simp only [ev, wq_bind, wq_need, wq_pure]
theorem e_lst {es : IEs} : wq (ev gl cf (.lst es) env) Q S = wq (evs gl cf es env) (fun ds S' => lens ds.length = true ∧ Q (.ref S'.length) (S' ++ [.lst ds])) S := by simp only [ev, wq_bind, wq_need, wq_newO]
theorem e_op {o : Operator} {a b : IE} : wq (ev gl cf (.op o a b) env) Q S = wq (ev gl cf a env) (fun x S' => wq (ev gl cf b env) (fun y S'' => wq (bop o x y) Q S'') S') S := by simp only [ev, wq_bind]
def negD : D → M D
  | .int i => pure (.int (-i))
  | _ => fail
theorem w_neg {i : Int} : wq (negD (.int i)) Q S = Q (.int (-i)) S := by unfold negD; rw [wq_pure]
theorem e_neg {a : IE} : wq (ev gl cf (.neg a) env) Q S = wq (ev gl cf a env) (fun x S' => wq (negD x) Q S') S := by
  simp only [ev, wq_bind]
  congr 1
theorem e_not {a : IE} : wq (ev gl cf (.not a) env) Q S = wq (ev gl cf a env) (fun x S' => wq (truth x) (fun b S'' => Q (.bl (!b)) S'') S') S := by simp only [ev, wq_bind, wq_pure]
theorem e_and {a b : IE} : wq (ev gl cf (.and a b) env) Q S = wq (ev gl cf a env) (fun x S' => wq (truth x) (fun t S'' => if t = true then wq (ev gl cf b env) Q S'' else Q x S'') S') S := by simp only [ev, wq_bind, wq_ite, wq_pure]
theorem e_or {a b : IE} : wq (ev gl cf (.or a b) env) Q S = wq (ev gl cf a env) (fun x S' => wq (truth x) (fun t S'' => if t = true then Q x S'' else wq (ev gl cf b env) Q S'') S') S := by simp only [ev, wq_bind, wq_ite, wq_pure]
theorem e_cmp {o : CmpOp} {a b : IE} : wq (ev gl cf (.cmp o a b) env) Q S = wq (ev gl cf a env) (fun x S' => wq (ev gl cf b env) (fun y S'' => wq (cop o x y) (fun r => Q (.bl r)) S'') S') S := by simp only [ev, wq_bind, wq_pure]
theorem e_chain {o o2 : CmpOp} {a b c : IE} : wq (ev gl cf (.chain o o2 a b c) env) Q S = wq (ev gl cf a env) (fun x S' => wq (ev gl cf b env) (fun y S'' => wq (cop o x y) (fun t S3 => if t = true then wq (ev gl cf c env) (fun z S4 => wq (cop o2 y z) (fun r => Q (.bl r)) S4) S3 else Q (.bl false) S3) S'') S') S := by simp only [ev, wq_bind, wq_ite, wq_pure]
theorem e_ite {c a b : IE} : wq (ev gl cf (.ite c a b) env) Q S = wq (tst gl cf c env) (fun t S' => if t = true then wq (ev gl cf a env) Q S' else wq (ev gl cf b env) Q S') S := by simp only [ev, wq_bind, wq_ite]
theorem e_ix {a b : IE} : wq (ev gl cf (.ix a b) env) Q S = wq (ev gl cf a env) (fun x S' => wq (ev gl cf b env) (fun y S'' => wq (ixD x y) Q S'') S') S := by simp only [ev, wq_bind]
theorem e_sl {a : IE} {lo hi : IO} : wq (ev gl cf (.sl a lo hi) env) Q S = wq (ev gl cf a env) (fun x S' => wq (evo gl cf lo env) (fun u S'' => wq (evo gl cf hi env) (fun v S3 => wq (slD x u v) Q S3) S'') S') S := by simp only [ev, wq_bind]
theorem e_rev {a : IE} : wq (ev gl cf (.rev a) env) Q S = wq (ev gl cf a env) (fun x S' => wq (revD x) Q S') S := by simp only [ev, wq_bind]
theorem e_call {f : Nat} {es : IEs} : wq (ev gl cf (.call f es) env) Q S = wq (evs gl cf es env) (fun ds S' => wq (cf f ds) Q S') S := by simp only [ev, wq_bind]
theorem e_bi {b : Bi} {es : IEs} : wq (ev gl cf (.bi b es) env) Q S = wq (evs gl cf es env) (fun ds S' => wq (biRun b ds) Q S') S := by simp only [ev, wq_bind]
theorem e_me {m : Me} {o : IE} {es : IEs} : wq (ev gl cf (.me m o es) env) Q S = wq (ev gl cf o env) (fun x S' => wq (isL x) (fun _ S'' => wq (evs gl cf es env) (fun ds S3 => wq (meRun m x ds) Q S3) S'') S') S := by simp only [ev, wq_bind]
theorem e_isi {a : IE} {t : Ty} : wq (ev gl cf (.isi a t) env) Q S = wq (ev gl cf a env) (fun x S' => wq (isiRun x [t]) Q S') S := by simp only [ev, wq_bind]
theorem e_isis {a : IE} {ts : List Ty} : wq (ev gl cf (.isis a ts) env) Q S = wq (ev gl cf a env) (fun x S' => wq (isiRun x ts) Q S') S := by simp only [ev, wq_bind]
theorem e_comp {t : TG} {own : List Nat} {it : II} {cond : IC} {e : IE} : wq (ev gl cf (.comp t own it cond e) env) Q S = wq (evi gl cf it env) (fun s S' => wq (compL s (cB gl cf t cond e (wipeE env own)) s.items []) (fun r S'' => Q (.ref S''.length) (S'' ++ [.lst r])) S') S := by
  simp only [ev, wq_bind, wq_newO]
  rfl
def tuprD : D → M D
  | .int i => do need (rngOk i); pure (.tup (rngItems 0 i))
  | _ => fail
theorem w_tupr {i : Int} : wq (tuprD (.int i)) Q S = (rngOk i = true ∧ Q (.tup (rngItems 0 i)) S) := by unfold tuprD; rw [wq_bind, wq_need, wq_pure]
theorem e_tupr {a : IE} : wq (ev gl cf (.tupr a) env) Q S = wq (ev gl cf a env) (fun x S' => wq (tuprD x) Q S') S := by
  simp only [ev, wq_bind]
  congr 1
def lstrD : D → M D
  | .int i => do need (rngOk i); newO (.lst (rngItems 0 i))
  | _ => fail
theorem w_lstr {i : Int} : wq (lstrD (.int i)) Q S = (rngOk i = true ∧ Q (.ref S.length) (S ++ [.lst (rngItems 0 i)])) := by unfold lstrD; rw [wq_bind, wq_need, wq_newO]
theorem e_lstr {a : IE} : wq (ev gl cf (.lstr a) env) Q S = wq (ev gl cf a env) (fun x S' => wq (lstrD x) Q S') S := by
  simp only [ev, wq_bind]
  congr 1
theorem e_nil : wq (evs gl cf .nil env) QL S = QL [] S := by simp only [evs, wq_pure]
theorem e_cons {e : IE} {es : IEs} : wq (evs gl cf (.cons e es) env) QL S = wq (ev gl cf e env) (fun d S' => wq (evs gl cf es env) (fun ds S'' => QL (d :: ds) S'') S') S := by simp only [evs, wq_bind, wq_pure]
theorem e_ono : wq (evo gl cf .no env) QO S = QO none S := by simp only [evo, wq_pure]
theorem e_oso {e : IE} : wq (evo gl cf (.so e) env) QO S = wq (ev gl cf e env) (fun d S' => wq (asInt d) QO S') S := by simp only [evo, wq_bind]
theorem e_cno : wq (evc gl cf .no env) QB S = QB true S := by simp only [evc, wq_pure]
theorem e_cso {e : IE} : wq (evc gl cf (.so e) env) QB S = wq (tst gl cf e env) QB S := by simp only [evc]
theorem vt_and {a b : IE} : wq (tst gl cf (.and a b) env) QB S = wq (tst gl cf a env) (fun t S'' => if t = true then wq (tst gl cf b env) QB S'' else QB false S'') S := by simp only [tst, wq_bind, wq_ite, wq_pure]
theorem vt_or {a b : IE} : wq (tst gl cf (.or a b) env) QB S = wq (tst gl cf a env) (fun t S'' => if t = true then QB true S'' else wq (tst gl cf b env) QB S'') S := by simp only [tst, wq_bind, wq_ite, wq_pure]
theorem vt_not {a : IE} : wq (tst gl cf (.not a) env) QB S = wq (tst gl cf a env) (fun t S'' => QB (!t) S'') S := by simp only [tst, wq_bind, wq_pure]
theorem vt_cmp {o : CmpOp} {a b : IE} : wq (tst gl cf (.cmp o a b) env) QB S = wq (ev gl cf a env) (fun x S' => wq (ev gl cf b env) (fun y S'' => wq (cop o x y) QB S'') S') S := by simp only [tst, wq_bind]
theorem vt_chain {o o2 : CmpOp} {a b c : IE} : wq (tst gl cf (.chain o o2 a b c) env) QB S = wq (ev gl cf a env) (fun x S' => wq (ev gl cf b env) (fun y S'' => wq (cop o x y) (fun t S3 => if t = true then wq (ev gl cf c env) (fun z S4 => wq (cop o2 y z) QB S4) S3 else QB false S3) S'') S') S := by simp only [tst, wq_bind, wq_ite, wq_pure]
theorem vt_var {i : Nat} : wq (tst gl cf (.var i) env) QB S = match env[i]? with | some (some d) => wq (truth d) QB S | _ => False := by
  simp only [tst]
  cases env[i]? with
  | none => exact wq_l rfl
  | some o => cases o <;> first | exact wq_l rfl | rfl
theorem vt_bl {b : Bool} : wq (tst gl cf (.bl b) env) QB S = QB b S := by simp only [tst, wq_pure]
theorem vt_call {f : Nat} {es : IEs} : wq (tst gl cf (.call f es) env) QB S = wq (evs gl cf es env) (fun ds S' => wq (cf f ds) (fun d S'' => wq (truth d) QB S'') S') S := by simp only [tst, wq_bind]
theorem vt_bi {b : Bi} {es : IEs} : wq (tst gl cf (.bi b es) env) QB S = wq (evs gl cf es env) (fun ds S' => wq (biRun b ds) (fun d S'' => wq (truth d) QB S'') S') S := by simp only [tst, wq_bind]
theorem vt_isi {a : IE} {t : Ty} : wq (tst gl cf (.isi a t) env) QB S = wq (ev gl cf a env) (fun x S' => wq (isiRun x [t]) (fun d S'' => wq (truth d) QB S'') S') S := by simp only [tst, wq_bind]
theorem vt_isis {a : IE} {ts : List Ty} : wq (tst gl cf (.isis a ts) env) QB S = wq (ev gl cf a env) (fun x S' => wq (isiRun x ts) (fun d S'' => wq (truth d) QB S'') S') S := by simp only [tst, wq_bind]
theorem vi_seq {e : IE} : wq (evi gl cf (.seq e) env) QS S = wq (ev gl cf e env) (fun d S' => wq (seqSrc d) QS S') S := by simp only [evi, wq_bind]
theorem vi_rng1 {e : IE} : wq (evi gl cf (.rng1 e) env) QS S = wq (ev gl cf e env) (fun d S' => wq (rngSrc (.int 0) d) QS S') S := by simp only [evi, wq_bind]
theorem vi_rng2 {a b : IE} : wq (evi gl cf (.rng2 a b) env) QS S = wq (ev gl cf a env) (fun x S' => wq (ev gl cf b env) (fun y S'' => wq (rngSrc x y) QS S'') S') S := by simp only [evi, wq_bind]
theorem vi_zip {a b : IE} : wq (evi gl cf (.zip a b) env) QS S = wq (ev gl cf a env) (fun x S' => wq (ev gl cf b env) (fun y S'' => wq (zipSrc x y) QS S'') S') S := by simp only [evi, wq_bind]
theorem vg_nm {i : Nat} {d : D} : wq (asg gl cf (.nm i) d env) QE S = (i < env.length ∧ QE (env.set i (some d)) S) := by simp only [asg, wq_bind, wq_need, wq_pure, decide_eq_true_eq]
theorem vg_tp {ts : TGs} {d : D} : wq (asg gl cf (.tp ts) d env) QE S = wq (unpk d ts.len) (fun ds S' => wq (asgs gl cf ts ds env) QE S') S := by simp only [asg, wq_bind]
theorem vg_ixs {o i : IE} {d : D} : wq (asg gl cf (.ixs o i) d env) QE S = wq (ev gl cf o env) (fun x S' => wq (ev gl cf i env) (fun y S'' => wq (setIx x y d) (fun _ S3 => QE env S3) S'') S') S := by simp only [asg, wq_bind, wq_pure]
theorem gs_nil : wq (asgs gl cf .nil [] env) QE S = QE env S := by simp only [asgs, wq_pure]
theorem gs_cons {t : TG} {ts : TGs} {d : D} {ds : List D} : wq (asgs gl cf (.cons t ts) (d :: ds) env) QE S = wq (asg gl cf t d env) (fun e S' => wq (asgs gl cf ts ds e) QE S') S := by simp only [asgs, wq_bind]
theorem x_asg {t : TG} {e : IE} : wq (ex gl cf (.asg t e) env) QF S = wq (ev gl cf e env) (fun d S' => wq (asg gl cf t d env) (fun e2 S'' => QF (.nx, e2) S'') S') S := by simp only [ex, wq_bind, wq_pure]
theorem x_par {i j : Nat} {a b : IE} : wq (ex gl cf (.par i j a b) env) QF S = wq (ev gl cf a env) (fun x S' => wq (ev gl cf b env) (fun y S'' => (i < env.length ∧ j < env.length) ∧ QF (.nx, (env.set i (some x)).set j (some y)) S'') S') S := by simp only [ex, wq_bind, wq_need, wq_pure, Bool.and_eq_true, decide_eq_true_eq]
theorem x_aug {i : Nat} {o : Operator} {e : IE} : wq (ex gl cf (.aug i o e) env) QF S = match env[i]? with | some (some x) => wq (ev gl cf e env) (fun y S' => augOk o x y = true ∧ wq (bop o x y) (fun z S'' => QF (.nx, env.set i (some z)) S'') S') S | _ => False := by
  simp only [ex]
  cases env[i]? with
  | none => exact wq_l rfl
  | some x =>
    cases x with
    | none => exact wq_l rfl
    | some x => simp only [wq_bind, wq_need, wq_pure]
theorem x_expr {e : IE} : wq (ex gl cf (.expr e) env) QF S = wq (ev gl cf e env) (fun _ S' => QF (.nx, env) S') S := by simp only [ex, wq_bind, wq_pure]
theorem x_ret {e : IE} : wq (ex gl cf (.ret e) env) QF S = wq (ev gl cf e env) (fun d S' => QF (.rt d, env) S') S := by simp only [ex, wq_bind, wq_pure]
theorem x_retN : wq (ex gl cf .retN env) QF S = QF (.rt .non, env) S := by simp only [ex, wq_pure]
theorem x_ite {c : IE} {a b : ISs} : wq (ex gl cf (.ite c a b) env) QF S = wq (tst gl cf c env) (fun t S' => if t = true then wq (exs gl cf a env) QF S' else wq (exs gl cf b env) QF S') S := by simp only [ex, wq_bind, wq_ite]
theorem x_for {t : TG} {it : II} {b : ISs} : wq (ex gl cf (.forr t it b) env) QF S = wq (evi gl cf it env) (fun s S' => wq (forL s (fB gl cf t b) s.items env) QF S') S := by
  simp only [ex, wq_bind]
  rfl
theorem x_whl {c : IE} {b : ISs} : wq (ex gl cf (.whl c b) env) QF S = wq (whlL (tst gl cf c) (exs gl cf b) bigN env) QF S := by
  simp only [ex]
theorem x_pass : wq (ex gl cf .pass env) QF S = QF (.nx, env) S := by simp only [ex, wq_pure]
theorem x_brk : wq (ex gl cf .brk env) QF S = QF (.bk, env) S := by simp only [ex, wq_pure]
theorem x_cnt : wq (ex gl cf .cnt env) QF S = QF (.ct, env) S := by simp only [ex, wq_pure]
theorem xs_nil : wq (exs gl cf .nil env) QF S = QF (.nx, env) S := by simp only [exs, wq_pure]
theorem xs_cons {s : IS} {ss : ISs} : wq (exs gl cf (.cons s ss) env) QF S = wq (ex gl cf s env) (fun r S' => match r with | (.nx, e) => wq (exs gl cf ss e) QF S' | r => QF r S') S := by
  simp only [exs, wq_bind]
  congr 1
  funext r S'
  obtain ⟨f, e⟩ := r
  cases f <;> first | exact wq_l rfl | rfl
theorem r_nx : wq (ofFl (.nx, env)) Q S = Q .non S := by unfold ofFl; rw [wq_pure]
theorem r_rt {d : D} : wq (ofFl (.rt d, env)) Q S = Q d S := by unfold ofFl; rw [wq_pure]
/-- what follows a statement, kept shut -/
structure kQ (gl : Nat → D) (cf : Nat → List D → M D) (ss : ISs) (QF : Fl × Sl → Store → Prop) (r : Fl × Sl) (S : Store) : Prop where
  out : match r with | (.nx, e) => wq (exs gl cf ss e) QF S | r => QF r S
theorem kQ_eq {ss : ISs} {r : Fl × Sl} : kQ gl cf ss QF r S = match r with | (.nx, e) => wq (exs gl cf ss e) QF S | r => QF r S := propext ⟨fun h => h.out, fun h => ⟨h⟩⟩
theorem k_cons {s : IS} {ss : ISs} : wq (exs gl cf (.cons s ss) env) QF S = wq (ex gl cf s env) (kQ gl cf ss QF) S := by
  rw [xs_cons]
  congr 1
  funext r S'
  rw [kQ_eq]
theorem k_one {s : IS} : wq (exs gl cf (.cons s .nil) env) QF S = wq (ex gl cf s env) QF S := by
  rw [xs_cons]
  congr 1
  funext r S'
  obtain ⟨f, e⟩ := r
  cases f <;> simp only [xs_nil]
theorem k_nx {ss : ISs} : kQ gl cf ss QF (.nx, env) S = wq (exs gl cf ss env) QF S := by rw [kQ_eq]
theorem k_rt {ss : ISs} {d : D} : kQ gl cf ss QF (.rt d, env) S = QF (.rt d, env) S := by rw [kQ_eq]
theorem k_bk {ss : ISs} : kQ gl cf ss QF (.bk, env) S = QF (.bk, env) S := by rw [kQ_eq]
theorem k_ct {ss : ISs} : kQ gl cf ss QF (.ct, env) S = QF (.ct, env) S := by rw [kQ_eq]
end
end Dl
end

section
set_option Elab.async false
set_option linter.all false
set_option maxRecDepth 100000
/-! Dl: wq of the forms for dicts and sorting. -/
namespace Dl
open PySem PySem.Spec PyProof.Rows L2
/-- a row of ints as a key -/
abbrev kI (e : List Int) : List Key := e.map Sum.inl
section
variable {S : Store} {l : Nat} {b : Bool} {kvs : List (List Key × D)} {e : List Int} {d z : D} {Q : D → Store → Prop} {QB : Bool → Store → Prop} {QU : Unit → Store → Prop}
theorem w_getT {QT : Bool × List (List Key × D) → Store → Prop} (h : S[l]? = some (.dt b kvs)) : wq (getT (.ref l)) QT S = QT (b, kvs) S := by
  unfold getT
  dsimp only
  rw [wq_bind, wq_getO]
  exact propext ⟨fun ⟨o, e, k⟩ => by rw [h] at e; cases e; simpa only [wq_pure] using k, fun k => ⟨_, h, by simpa only [wq_pure] using k⟩⟩
theorem keyI_of (he : e ≠ []) : keyI (.tup (e.map .int)) = some (kI e) := by
  unfold keyI
  simp only [intsOf_map]
  cases e with
  | nil => exact absurd rfl he
  | cons _ _ => rfl
theorem w_toKey {QK : List Key → Store → Prop} (he : e ≠ []) : wq (toKey (.tup (e.map .int))) QK S = QK (kI e) S := by
  unfold toKey
  rw [keyI_of he]
  exact wq_pure _ _ _
theorem w_dget (h : S[l]? = some (.dt b kvs)) (he : e ≠ []) (hf : findT kvs (kI e) = some d) : wq (dgetD (.ref l) (.tup (e.map .int))) Q S = Q d S := by
  unfold dgetD
  rw [wq_bind, w_getT h, wq_bind, w_toKey he]
  dsimp only
  rw [hf]
  exact wq_pure _ _ _
theorem w_din (h : S[l]? = some (.dt b kvs)) (he : e ≠ []) : wq (dinD (.tup (e.map .int)) (.ref l)) QB S = QB (findT kvs (kI e)).isSome S := by
  unfold dinD
  rw [wq_bind, w_getT h, wq_bind, w_toKey he, wq_pure]
theorem w_isT (h : S[l]? = some (.dt b kvs)) : wq (isT (.ref l)) QU S = QU () S := by
  unfold isT
  rw [wq_bind, w_getT h, wq_pure]
theorem w_dget2 (h : S[l]? = some (.dt b kvs)) (he : e ≠ []) : wq (dget2D (.ref l) (.tup (e.map .int)) z) Q S = Q ((findT kvs (kI e)).getD z) S := by
  unfold dget2D
  rw [wq_bind, w_getT h, wq_bind, w_toKey he, wq_pure]
theorem w_dpop (h : S[l]? = some (.dt false kvs)) (he : e ≠ []) (hf : findT kvs (kI e) = some d) : wq (dpopD (.ref l) (.tup (e.map .int))) Q S = Q d (S.set l (.dt false (dropT kvs (kI e)))) := by
  have hl := lt_of_get h
  unfold dpopD
  dsimp only
  rw [wq_bind, wq_getO]
  refine propext ⟨fun ⟨o, e', k⟩ => ?_, fun k => ⟨_, h, ?_⟩⟩
  · rw [h] at e'
    cases e'
    dsimp only at k
    rw [wq_bind, w_toKey he, hf] at k
    dsimp only at k
    rw [wq_bind, wq_setO, wq_pure] at k
    exact k.2
  · dsimp only
    rw [wq_bind, w_toKey he, hf]
    dsimp only
    rw [wq_bind, wq_setO, wq_pure]
    exact ⟨hl, k⟩
theorem w_dput (h : S[l]? = some (.dt false kvs)) (he : e ≠ []) (hz : kvs.length < sizeLine) : wq (dputD (.ref l) (.tup (e.map .int)) z) QU S = QU () (S.set l (.dt false (putT kvs (kI e) z))) := by
  have hl := lt_of_get h
  unfold dputD
  dsimp only
  rw [wq_bind, wq_getO]
  refine propext ⟨fun ⟨o, e', k⟩ => ?_, fun k => ⟨_, h, ?_⟩⟩
  · rw [h] at e'
    cases e'
    dsimp only at k
    rw [wq_bind, w_toKey he, wq_bind, wq_need, wq_setO] at k
    exact k.2.2
  · dsimp only
    rw [wq_bind, w_toKey he, wq_bind, wq_need, wq_setO]
    exact ⟨decide_eq_true hz, hl, k⟩
theorem w_sortPD {ds : List D} {ps : List (List Int × List Int)} (h : S[l]? = some (.lst ds)) (hp : pairsI ds = some ps) : wq (sortPD (.ref l)) Q S = Q (.ref S.length) (S ++ [.lst (sortBy ds (ps.map encP))]) := by
  unfold sortPD
  rw [wq_bind, w_getL_ref h, hp]
  exact wq_newO _ _ _
end
section
variable {gl : Nat → D} {cf : Nat → List D → M D} {env : Sl} {S : Store} {Q : D → Store → Prop} {QB : Bool → Store → Prop} {QF : Fl × Sl → Store → Prop} {a b c o v xs e : IE}
theorem e_dnew : wq (ev gl cf .dnew env) Q S = Q (.ref S.length) (S ++ [.dt false []]) := by simp only [ev, wq_newO]
theorem e_dget : wq (ev gl cf (.dget a b) env) Q S = wq (ev gl cf a env) (fun x S' => wq (ev gl cf b env) (fun y S'' => wq (dgetD x y) Q S'') S') S := by simp only [ev, wq_bind]
theorem e_din : wq (ev gl cf (.din a b) env) Q S = wq (ev gl cf a env) (fun y S' => wq (ev gl cf b env) (fun x S'' => wq (dinD y x) (fun r => Q (.bl r)) S'') S') S := by simp only [ev, wq_bind, wq_pure]
theorem vt_din : wq (tst gl cf (.din a b) env) QB S = wq (ev gl cf a env) (fun y S' => wq (ev gl cf b env) (fun x S'' => wq (dinD y x) QB S'') S') S := by simp only [tst, wq_bind]
theorem e_dget2 : wq (ev gl cf (.dget2 a b c) env) Q S = wq (ev gl cf a env) (fun x S' => wq (isT x) (fun _ S2 => wq (ev gl cf b env) (fun y S3 => wq (ev gl cf c env) (fun z S4 => wq (dget2D x y z) Q S4) S3) S2) S') S := by simp only [ev, wq_bind]
theorem e_dpop : wq (ev gl cf (.dpop a b) env) Q S = wq (ev gl cf a env) (fun x S' => wq (isT x) (fun _ S2 => wq (ev gl cf b env) (fun y S3 => wq (dpopD x y) Q S3) S2) S') S := by simp only [ev, wq_bind]
theorem e_sortp : wq (ev gl cf (.sortp a) env) Q S = wq (ev gl cf a env) (fun x S' => wq (sortPD x) Q S') S := by simp only [ev, wq_bind]
theorem x_dput : wq (ex gl cf (.dput o a v) env) QF S = wq (ev gl cf v env) (fun z S' => wq (ev gl cf o env) (fun x S'' => wq (ev gl cf a env) (fun y S3 => wq (dputD x y z) (fun _ S4 => QF (.nx, env) S4) S3) S'') S') S := by simp only [ex, wq_bind, wq_pure]
/-- a comprehension over a dict's keys: it is locked meanwhile -/
theorem e_dcomp {i l : Nat} {t : TG} {own : List Nat} {cond : IC} {kvs : List (List Key × D)} (hi : env[i]? = some (some (.ref l))) (h : S[l]? = some (.dt false kvs))
    (k : wq (compL ⟨kvs.map fun kv => unkey kv.1, none, none⟩ (cB gl cf t cond e (wipeE env own)) (kvs.map fun kv => unkey kv.1) []) (fun r S' => S'[l]? = some (.dt true kvs) ∧ Q (.ref S'.length) (S'.set l (.dt false kvs) ++ [.lst r])) (S.set l (.dt true kvs))) :
    wq (ev gl cf (.dcomp i t own cond e) env) Q S := by
  simp only [ev, hi]
  rw [wq_bind, wq_getO]
  refine ⟨_, h, ?_⟩
  dsimp only
  rw [wq_bind, wq_setO]
  refine ⟨lt_of_get h, ?_⟩
  rw [wq_bind]
  refine wq_mono k fun r S' ⟨k1, k2⟩ => ?_
  rw [wq_bind, wq_getO]
  refine ⟨_, k1, ?_⟩
  dsimp only
  rw [wq_bind, wq_setO, wq_newO]
  refine ⟨lt_of_get k1, ?_⟩
  rw [List.length_set]
  exact k2
theorem keysL_wq {g : D → M D} {α : Type} {f : α → D} {key : α → List Int} {R : List (List Int) → Store → Prop} : ∀ {xs : List α} {S : Store}, (∀ x ∈ xs, ∀ S', Fr [] S S' → wq (g (f x)) (fun d S'' => d = .tup ((key x).map .int) ∧ key x ≠ [] ∧ Fr [] S' S'') S') →
    (∀ S', Fr [] S S' → R (xs.map key) S') → wq (keysL g (xs.map f)) R S
  | [], S, _, k => by
    simp only [List.map_nil, keysL]
    rw [wq_pure]
    exact k S .refl
  | x :: xs, S, h, k => by
    simp only [List.map_cons, keysL]
    rw [wq_bind]
    refine wq_mono (h x (by simp) S .refl) fun d S' ⟨h1, h2, h3⟩ => ?_
    have hk : keyOfD d = some (key x) := by
      rw [h1]
      unfold keyOfD
      simp only [intsOf_map]
      cases e : key x with
      | nil => exact absurd e h2
      | cons _ _ => rfl
    rw [hk]
    dsimp only
    rw [wq_bind]
    refine keysL_wq (key := key) (fun y hy S2 a => h y (by simp [hy]) S2 (h3.trans a)) fun S2 a => ?_
    rw [wq_pure]
    exact k S2 (h3.trans a)
theorem x_rsort {α : Type} {f : α → D} {key : α → List Int} {l i : Nat} {r : D} {ys : List α} {Sx : Store} (hx : wq (ev gl cf xs env) (fun x S' => x = .ref l ∧ S' = Sx) S) (hl : Sx[l]? = some (.lst (ys.map f))) (hi : env[i]? = some (some r))
    (h : ∀ x ∈ ys, ∀ S', Fr [] Sx S' → wq (ev gl cf e [some (f x), some r]) (fun d S'' => d = .tup ((key x).map .int) ∧ key x ≠ [] ∧ Fr [] S' S'') S')
    (k : ∀ S', Fr [] Sx S' → QF (.rt (.ref S'.length), env) (S' ++ [.lst (sortBy (ys.map f) (ys.map fun y => encI (key y)))])) : wq (ex gl cf (.rsort i xs e) env) QF S := by
  simp only [ex]
  rw [wq_bind]
  refine wq_mono hx fun x S' ⟨h1, h2⟩ => ?_
  subst h1 h2
  rw [wq_bind, w_getL_ref hl]
  simp only [hi]
  rw [wq_bind]
  refine keysL_wq (key := key) h fun S2 a => ?_
  rw [wq_bind, wq_newO, wq_pure]
  have := k S2 a
  rw [List.map_map]
  exact this
end
end Dl
end

section
set_option Elab.async false
set_option linter.all false
set_option maxRecDepth 100000
/-! plain matter: kernels of rows of rationals under elimination; Euclid's steps -/
namespace Dl
def dotQ : List Rat → List Rat → Rat
  | a :: as, b :: bs => a * b + dotQ as bs
  | _, _ => 0
def KerQ (n : Nat) (rows : List (List Rat)) : Prop := ∃ v : List Rat, v.length = n ∧ (∃ x ∈ v, x ≠ 0) ∧ ∀ r ∈ rows, dotQ r v = 0
theorem dotQ_scale (c : Rat) : ∀ r v : List Rat, dotQ r (v.map (c * ·)) = c * dotQ r v
  | [], _ => by simp only [dotQ]; grind
  | _ :: _, [] => by simp only [dotQ, List.map_nil]; grind
  | a :: as, b :: bs => by
    simp only [dotQ, List.map_cons, dotQ_scale c as bs]
    grind
theorem dotQ_zero : ∀ (r v : List Rat), (∀ x ∈ v, x = 0) → dotQ r v = 0
  | [], _, _ => by simp only [dotQ]
  | _ :: _, [], _ => by simp only [dotQ]
  | a :: as, b :: bs, h => by
    simp only [dotQ, dotQ_zero as bs fun x hx => h x (List.mem_cons_of_mem _ hx), h b List.mem_cons_self]
    grind
/-- r' is what is left of the row y :: s under the pivot x :: t -/
def RelQ (n : Nat) (x : Rat) (t : List Rat) (r r' : List Rat) : Prop := ∃ y s c, r = y :: s ∧ c ≠ 0 ∧ ∀ w : List Rat, w.length = n → dotQ r' w = c * (dotQ s w - y / x * dotQ t w)
theorem ker_step {n : Nat} {x : Rat} {t : List Rat} {R R' : List (List Rat)} (hx : x ≠ 0) (h1 : ∀ r ∈ R, ∃ r' ∈ R', RelQ n x t r r') (h2 : ∀ r' ∈ R', ∃ r ∈ R, RelQ n x t r r') : KerQ (n + 1) ((x :: t) :: R) ↔ KerQ n R' := by
  constructor
  · rintro ⟨v, hv, hz, hr⟩
    cases v with
    | nil => simp at hv
    | cons a w =>
      have hw : w.length = n := by simpa using hv
      have hp := hr (x :: t) List.mem_cons_self
      simp only [dotQ] at hp
      refine ⟨w, hw, ?_, fun r' hr' => ?_⟩
      · apply Classical.byContradiction
        intro hn
        have hw0 : ∀ y ∈ w, y = 0 := fun y hy => Classical.byContradiction fun e => hn ⟨y, hy, e⟩
        rw [dotQ_zero t w hw0] at hp
        have ha : a = 0 := by grind
        obtain ⟨y, hy, hy0⟩ := hz
        rcases List.mem_cons.mp hy with rfl | hy
        · exact hy0 ha
        · exact hy0 (hw0 y hy)
      · obtain ⟨r, hr0, y, s, c, rfl, hc, hd⟩ := h2 r' hr'
        have := hr (y :: s) (List.mem_cons_of_mem _ hr0)
        simp only [dotQ] at this
        rw [hd w hw]
        grind
  · rintro ⟨w, hw, ⟨z, hz, hz0⟩, hr⟩
    refine ⟨(-(dotQ t w) / x) :: w, by simpa using hw, ⟨z, List.mem_cons_of_mem _ hz, hz0⟩, fun r hr1 => ?_⟩
    rcases List.mem_cons.mp hr1 with rfl | hr1
    · simp only [dotQ]
      grind
    · obtain ⟨r', hr', y, s, c, rfl, hc, hd⟩ := h1 r hr1
      have := hr r' hr'
      rw [hd w hw] at this
      simp only [dotQ]
      have : dotQ s w - y / x * dotQ t w = 0 := by grind
      grind
theorem ker_none {n : Nat} {R : List (List Rat)} (h : ∀ r ∈ R, ∃ s, r = 0 :: s) : KerQ (n + 1) R := by
  refine ⟨1 :: List.replicate n 0, by simp, ⟨1, List.mem_cons_self, by decide⟩, fun r hr => ?_⟩
  obtain ⟨s, rfl⟩ := h r hr
  simp only [dotQ]
  rw [dotQ_zero s _ fun x hx => List.eq_of_mem_replicate hx]
  grind
theorem ker_zero {R : List (List Rat)} : ¬ KerQ 0 R := by
  rintro ⟨v, hv, ⟨x, hx, _⟩, _⟩
  have := List.eq_nil_of_length_eq_zero hv
  subst this
  cases hx
theorem ker_mem {n : Nat} {R R' : List (List Rat)} (h : ∀ r, r ∈ R ↔ r ∈ R') : KerQ n R ↔ KerQ n R' :=
  ⟨fun ⟨v, a, b, c⟩ => ⟨v, a, b, fun r hr => c r ((h r).mpr hr)⟩, fun ⟨v, a, b, c⟩ => ⟨v, a, b, fun r hr => c r ((h r).mp hr)⟩⟩
/-- the row that a step makes: pointwise -/
theorem dotQ_comb {n : Nat} (p q : Rat) : ∀ (s t w : List Rat), s.length = n → t.length = n → w.length = n → dotQ (List.zipWith (fun a b => a * p - b * q) s t) w = p * dotQ s w - q * dotQ t w := by
  induction n with
  | zero =>
    intro s t w h1 h2 h3
    rw [List.eq_nil_of_length_eq_zero h1, List.eq_nil_of_length_eq_zero h2]
    simp only [List.zipWith_nil_left, dotQ]
    grind
  | succ n ih =>
    intro s t w h1 h2 h3
    match s, t, w, h1, h2, h3 with
    | a :: s, b :: t, c :: w, h1, h2, h3 =>
      simp only [List.zipWith_cons_cons, dotQ]
      rw [ih s t w (by simpa using h1) (by simpa using h2) (by simpa using h3)]
      grind
/-- Euclid: a step makes the product less than half -/
theorem euclid_half {a b : Nat} (hb : 0 < b) (h : b < a) : a % b < b ∧ 2 * (b * (a % b)) ≤ a * b := by
  have h1 := Nat.mod_lt a hb
  refine ⟨h1, ?_⟩
  have h2 : a % b + b ≤ a := by
    have := Nat.div_add_mod a b
    have h3 : 1 ≤ a / b := (Nat.le_div_iff_mul_le hb).mpr (by omega)
    have h4 : b * 1 ≤ b * (a / b) := Nat.mul_le_mul_left b h3
    omega
  have h5 : 2 * (a % b) ≤ a := by omega
  calc 2 * (b * (a % b)) = (2 * (a % b)) * b := by grind
    _ ≤ a * b := Nat.mul_le_mul_right b h5
end Dl
end

section
set_option Elab.async false
set_option linter.all false
set_option maxRecDepth 100000
/-! Dl: polynomials as rows of powers and fractions: plain matter. -/
namespace Dl
open PySem PySem.Spec PyProof.Rows L2
/-! ### fractions -/
theorem num_den (a : Rat) : (a.num : Rat) / ((a.den : Nat) : Rat) = a := by rw [← Rat.mkRat_eq_div]; exact Rat.mkRat_self a
def frQ (q : Rat) : D := .tup [.int q.num, .int q.den]
theorem frQ_of {a b c d : Int} (hb : b ≠ 0) (hd : 0 < d) (h : c * b = a * d) (hg : Nat.gcd c.natAbs d.natAbs = 1) : D.tup [.int c, .int d] = frQ ((a : Rat) / (b : Rat)) := by
  obtain ⟨n, rfl⟩ := Int.eq_ofNat_of_zero_le (Int.le_of_lt hd)
  have hn : n ≠ 0 := by omega
  have e : (⟨c, n, hn, hg⟩ : Rat) = (a : Rat) / (b : Rat) := by
    have h1 := num_den (⟨c, n, hn, hg⟩ : Rat)
    rw [← h1]
    have h2 : ((n : Nat) : Rat) ≠ 0 := by exact_mod_cast hn
    have h3 : (b : Rat) ≠ 0 := by exact_mod_cast hb
    have h4 : (c : Rat) * b = a * ((n : Nat) : Rat) := by exact_mod_cast h
    show (c : Rat) / ((n : Nat) : Rat) = _
    grind
  rw [← e]
  rfl
/-- n / d with n at most M in size and d a divisor of N -/
structure Bd (N M : Nat) (q : Rat) : Prop where
  pos : 0 < N
  ex : ∃ z : Int, q * (N : Rat) = (z : Rat) ∧ z.natAbs ≤ M
theorem Bd.cross {N M : Nat} {q : Rat} (h : Bd N M q) : ∃ z : Int, q.num * (N : Int) = z * (q.den : Int) ∧ z.natAbs ≤ M := by
  obtain ⟨z, e, hz⟩ := h.ex
  refine ⟨z, ?_, hz⟩
  have h1 := num_den q
  have h2 : ((q.den : Nat) : Rat) ≠ 0 := by exact_mod_cast q.den_nz
  have h3 : (q.num : Rat) * (N : Rat) = (z : Rat) * ((q.den : Nat) : Rat) := by
    rw [← h1] at e
    grind
  exact_mod_cast h3
theorem Bd.den {N M : Nat} {q : Rat} (h : Bd N M q) : q.den ∣ N ∧ q.den ≤ N := by
  obtain ⟨z, e, _⟩ := h.cross
  have h1 : q.den ∣ q.num.natAbs * N := by
    have : (q.den : Int) ∣ q.num * (N : Int) := ⟨z, by rw [e, Int.mul_comm]⟩
    have := Int.natAbs_dvd_natAbs.mpr this
    rwa [Int.natAbs_mul, Int.natAbs_natCast, Int.natAbs_natCast] at this
  have h2 : q.den ∣ N := (Nat.Coprime.symm q.reduced).dvd_of_dvd_mul_left h1
  exact ⟨h2, Nat.le_of_dvd h.pos h2⟩
theorem Bd.num {N M : Nat} {q : Rat} (h : Bd N M q) : q.num.natAbs ≤ M := by
  obtain ⟨k, hk⟩ := h.den.1
  obtain ⟨z, e, hz⟩ := h.cross
  have hp := h.pos
  have hd : 0 < q.den := q.den_pos
  have hk0 : 0 < k := by
    rcases Nat.eq_zero_or_pos k with rfl | hk0
    · rw [hk, Nat.mul_zero] at hp; omega
    · exact hk0
  have e2 : q.num * (k : Int) = z := by
    have e3 : (q.den : Int) * (q.num * (k : Int)) = (q.den : Int) * z := by
      rw [hk] at e
      push_cast at e
      grind
    exact Int.eq_of_mul_eq_mul_left (by omega) e3
  have : q.num.natAbs * k = z.natAbs := by rw [← e2, Int.natAbs_mul, Int.natAbs_natCast]
  have := Nat.le_mul_of_pos_right q.num.natAbs hk0
  omega
theorem Bd.mono {N M M' : Nat} {q : Rat} (h : Bd N M q) (hm : M ≤ M') : Bd N M' q := by
  obtain ⟨z, e, hz⟩ := h.ex
  exact ⟨h.pos, z, e, by omega⟩
theorem Bd.scale {N M : Nat} {q : Rat} (h : Bd N M q) {k : Nat} (hk : 0 < k) : Bd (N * k) (M * k) q := by
  obtain ⟨z, e, hz⟩ := h.ex
  refine ⟨Nat.mul_pos h.pos hk, z * k, ?_, ?_⟩
  · push_cast
    grind
  · rw [Int.natAbs_mul, Int.natAbs_natCast]
    exact Nat.mul_le_mul_right k hz
theorem Bd.add {N M M' : Nat} {p q : Rat} (h : Bd N M p) (k : Bd N M' q) : Bd N (M + M') (p + q) := by
  obtain ⟨z, e, hz⟩ := h.ex
  obtain ⟨y, e', hy⟩ := k.ex
  refine ⟨h.pos, z + y, ?_, by omega⟩
  push_cast
  grind
theorem Bd.mul {N N' M M' : Nat} {p q : Rat} (h : Bd N M p) (k : Bd N' M' q) : Bd (N * N') (M * M') (p * q) := by
  obtain ⟨z, e, hz⟩ := h.ex
  obtain ⟨y, e', hy⟩ := k.ex
  refine ⟨Nat.mul_pos h.pos k.pos, z * y, ?_, ?_⟩
  · push_cast
    grind
  · rw [Int.natAbs_mul]
    exact Nat.mul_le_mul hz hy
theorem Bd.zero {N M : Nat} (h : 0 < N) : Bd N M 0 := ⟨h, 0, by grind, by simp⟩
theorem Bd.neg {N M : Nat} {p : Rat} (h : Bd N M p) : Bd N M (-p) := by
  obtain ⟨z, e, hz⟩ := h.ex
  refine ⟨h.pos, -z, ?_, by omega⟩
  push_cast
  grind
/-! ### tables -/
abbrev Tb := List (List Int × Rat)
def tabD (T : Tb) : List (List Key × D) := T.map fun p => (kI p.1, frQ p.2)
def has (T : Tb) (e : List Int) : Bool := T.any fun p => decide (p.1 = e)
def val (T : Tb) (e : List Int) : Rat := ((T.find? fun p => decide (p.1 = e)).map (·.2)).getD 0
def putQ (T : Tb) (e : List Int) (q : Rat) : Tb := if has T e = true then T.map (fun p => if p.1 = e then (p.1, q) else p) else T ++ [(e, q)]
def dropQ (T : Tb) (e : List Int) : Tb := T.filter fun p => decide (p.1 ≠ e)
theorem kI_inj {a b : List Int} : kI a = kI b ↔ a = b := ⟨fun h => by
  have : Function.Injective (Sum.inl : Int → Key) := fun x y h => by cases h; rfl
  exact (List.map_inj_right (fun x y h => this h)).mp h, fun h => by rw [h]⟩
theorem val_cons {p : List Int × Rat} {T : Tb} {e : List Int} : val (p :: T) e = if p.1 = e then p.2 else val T e := by
  unfold val
  by_cases h : p.1 = e <;> simp [h]
theorem has_cons {p : List Int × Rat} {T : Tb} {e : List Int} : has (p :: T) e = (decide (p.1 = e) || has T e) := rfl
theorem val_nil {e : List Int} : val [] e = 0 := rfl
theorem val_not {T : Tb} {e : List Int} (h : has T e = false) : val T e = 0 := by
  induction T with
  | nil => rfl
  | cons p T ih =>
    rw [has_cons, Bool.or_eq_false_iff] at h
    rw [val_cons, if_neg (of_decide_eq_false h.1)]
    exact ih h.2
theorem findT_tab (T : Tb) (e : List Int) : findT (tabD T) (kI e) = if has T e = true then some (frQ (val T e)) else none := by
  induction T with
  | nil => rfl
  | cons p T ih =>
    unfold findT tabD at *
    rw [List.map_cons, List.find?_cons]
    by_cases h : p.1 = e
    · subst h
      simp [has_cons, val_cons]
    · have h' : ¬ kI p.1 = kI e := fun z => h (kI_inj.mp z)
      rw [decide_eq_false h']
      dsimp only
      rw [ih, has_cons, decide_eq_false h, Bool.false_or, val_cons, if_neg h]
theorem any_tab (T : Tb) (e : List Int) : ((tabD T).any fun kv => decide (kv.1 = kI e)) = has T e := by
  unfold tabD has
  rw [List.any_map]
  congr 1
  funext p
  simp only [Function.comp, kI_inj]
theorem putT_tab (T : Tb) (e : List Int) (q : Rat) : putT (tabD T) (kI e) (frQ q) = tabD (putQ T e q) := by
  unfold putT putQ
  rw [any_tab]
  split
  · unfold tabD
    rw [List.map_map, List.map_map]
    refine List.map_congr_left fun p _ => ?_
    simp only [Function.comp, kI_inj]
    split <;> rfl
  · unfold tabD
    rw [List.map_append]
    rfl
theorem dropT_tab (T : Tb) (e : List Int) : dropT (tabD T) (kI e) = tabD (dropQ T e) := by
  unfold dropT dropQ tabD
  rw [List.filter_map]
  congr 1
  refine List.filter_congr fun p _ => ?_
  simp only [Function.comp, ne_eq, kI_inj]
theorem val_app (T : Tb) (e : List Int) (q : Rat) (e' : List Int) (h : has T e = false) : val (T ++ [(e, q)]) e' = if e' = e then q else val T e' := by
  induction T with
  | nil =>
    rw [List.nil_append, val_cons, val_nil]
    by_cases h : e' = e
    · subst h; simp
    · rw [if_neg (fun z => h z.symm), if_neg h]
  | cons p T ih =>
    rw [has_cons, Bool.or_eq_false_iff] at h
    rw [List.cons_append, val_cons, val_cons, ih h.2]
    have h1 := of_decide_eq_false h.1
    by_cases h2 : p.1 = e'
    · rw [if_pos h2, if_pos h2, if_neg (fun z => h1 (h2.trans z))]
    · rw [if_neg h2, if_neg h2]
theorem val_rep (T : Tb) (e : List Int) (q : Rat) (e' : List Int) (h : has T e = true) : val (T.map fun p => if p.1 = e then (p.1, q) else p) e' = if e' = e then q else val T e' := by
  have gen : ∀ T : Tb, val (T.map fun p => if p.1 = e then (p.1, q) else p) e' = if e' = e ∧ has T e = true then q else if e' = e then 0 else val T e' := by
    intro T
    induction T with
    | nil => simp [val_nil, has]
    | cons p T ih =>
      rw [List.map_cons, val_cons, val_cons, ih, has_cons]
      by_cases h1 : p.1 = e
      · subst h1
        by_cases h2 : e' = p.1
        · subst h2; simp
        · have h3 : ¬ p.1 = e' := fun z => h2 z.symm
          simp [h2, h3]
      · by_cases h2 : e' = e
        · subst h2
          simp [h1]
        · by_cases h3 : p.1 = e' <;> simp [h1, h2, h3]
  rw [gen T]
  by_cases h2 : e' = e <;> simp [h2, h]
theorem val_put (T : Tb) (e : List Int) (q : Rat) (e' : List Int) : val (putQ T e q) e' = if e' = e then q else val T e' := by
  unfold putQ
  cases h : has T e with
  | true => rw [if_pos rfl]; exact val_rep T e q e' h
  | false => rw [if_neg (by decide)]; exact val_app T e q e' h
theorem val_drop (T : Tb) (e e' : List Int) : val (dropQ T e) e' = if e' = e then 0 else val T e' := by
  unfold dropQ
  induction T with
  | nil => simp [val_nil]
  | cons p T ih =>
    rw [List.filter_cons]
    by_cases h1 : p.1 = e
    · rw [if_neg (by simp [h1]), ih, val_cons]
      by_cases h2 : e' = e
      · rw [if_pos h2, if_pos h2]
      · rw [if_neg h2, if_neg h2, if_neg (fun z => h2 (z.symm.trans h1))]
    · rw [if_pos (by simp [h1]), val_cons, val_cons, ih]
      by_cases h2 : e' = e
      · subst h2; simp [h1]
      · by_cases h3 : p.1 = e' <;> simp [h2, h3]
theorem val_mem {T : Tb} (nd : (T.map (·.1)).Nodup) {p : List Int × Rat} (h : p ∈ T) : val T p.1 = p.2 := by
  induction T with
  | nil => cases h
  | cons q T ih =>
    rw [List.map_cons, List.nodup_cons] at nd
    rw [val_cons]
    rcases List.mem_cons.mp h with rfl | h
    · simp
    · rw [if_neg (fun z => nd.1 (by rw [z]; exact List.mem_map_of_mem h))]
      exact ih nd.2 h
theorem has_mem {T : Tb} {e : List Int} : has T e = true ↔ e ∈ T.map (·.1) := by
  unfold has
  simp [List.any_eq_true]
theorem keys_put (T : Tb) (e : List Int) (q : Rat) : (putQ T e q).map (·.1) = if has T e = true then T.map (·.1) else T.map (·.1) ++ [e] := by
  unfold putQ
  split
  · rw [List.map_map]
    refine List.map_congr_left fun p _ => ?_
    simp only [Function.comp]
    split <;> rfl
  · simp
theorem nodup_put {T : Tb} (nd : (T.map (·.1)).Nodup) (e : List Int) (q : Rat) : ((putQ T e q).map (·.1)).Nodup := by
  rw [keys_put]
  split
  · exact nd
  · rename_i h
    refine List.nodup_append.mpr ⟨nd, by simp, fun a ha b hb z => h (has_mem.mpr ?_)⟩
    rw [List.mem_singleton.mp hb] at z
    rw [← z]
    exact ha
theorem nodup_drop {T : Tb} (nd : (T.map (·.1)).Nodup) (e : List Int) : ((dropQ T e).map (·.1)).Nodup := nd.sublist ((List.filter_sublist).map _)
theorem mem_put {T : Tb} {e : List Int} {q : Rat} {p : List Int × Rat} (h : p ∈ putQ T e q) : p ∈ T ∨ p = (e, q) := by
  unfold putQ at h
  split at h
  · obtain ⟨r, hr, rfl⟩ := List.mem_map.mp h
    split
    · rename_i z; subst z; exact .inr rfl
    · exact .inl hr
  · rcases List.mem_append.mp h with h | h
    · exact .inl h
    · exact .inr (List.mem_singleton.mp h)
theorem len_put (T : Tb) (e : List Int) (q : Rat) : (putQ T e q).length ≤ T.length + 1 := by
  unfold putQ
  split
  · rw [List.length_map]; omega
  · simp
/-! ### sums of terms -/
def sumT : Tb → List Int → Rat
  | [], _ => 0
  | p :: T, e => (if e = p.1 then p.2 else 0) + sumT T e
theorem sumT_app : ∀ (T T' : Tb) (e : List Int), sumT (T ++ T') e = sumT T e + sumT T' e
  | [], T', e => by simp only [List.nil_append, sumT]; grind
  | p :: T, T', e => by
    simp only [List.cons_append, sumT, sumT_app T T' e]
    grind
theorem sumT_perm {T T' : Tb} (h : T.Perm T') (e : List Int) : sumT T e = sumT T' e := by
  induction h with
  | nil => rfl
  | cons p _ ih => simp only [sumT, ih]
  | swap p q l => simp only [sumT]; grind
  | trans _ _ h1 h2 => exact h1.trans h2
theorem sumT_val : ∀ {T : Tb}, (T.map (·.1)).Nodup → ∀ e, sumT T e = val T e
  | [], _, e => rfl
  | p :: T, nd, e => by
    rw [List.map_cons, List.nodup_cons] at nd
    simp only [sumT]
    rw [sumT_val nd.2, val_cons]
    by_cases h : e = p.1
    · subst h
      rw [if_pos rfl, if_pos rfl, val_not]
      · grind
      · cases q : has T p.1 with
        | false => rfl
        | true => exact absurd (has_mem.mp q) nd.1
    · rw [if_neg h, if_neg (fun z => h z.symm)]
      grind
abbrev addE (a b : List Int) : List Int := List.zipWith (· + ·) a b
def prodT (f g : Tb) : Tb := f.flatMap fun p => g.map fun q => (addE p.1 q.1, p.2 * q.2)
theorem addE_comm (a b : List Int) : addE a b = addE b a := by
  unfold addE
  rw [List.zipWith_comm]
  congr 1
  funext x y
  exact Int.add_comm _ _
theorem prodT_perm : ∀ (f g : Tb), (prodT f g).Perm (prodT g f)
  | [], g => by
    have : prodT g [] = [] := by
      unfold prodT
      simp
    rw [this]
    exact .nil
  | p :: f, g => by
    have ih := prodT_perm f g
    have e : ∀ g : Tb, (prodT g (p :: f)).Perm ((g.map fun q => (addE q.1 p.1, q.2 * p.2)) ++ prodT g f) := by
      intro g
      induction g with
      | nil => exact .nil
      | cons q g ihg =>
        have e1 : prodT (q :: g) (p :: f) = ((addE q.1 p.1, q.2 * p.2) :: f.map fun r => (addE q.1 r.1, q.2 * r.2)) ++ prodT g (p :: f) := rfl
        have e2 : prodT (q :: g) f = (f.map fun r => (addE q.1 r.1, q.2 * r.2)) ++ prodT g f := rfl
        rw [e1, e2, List.cons_append, List.map_cons, List.cons_append]
        refine .cons _ ?_
        refine (List.Perm.append_left _ ihg).trans ?_
        rw [← List.append_assoc, ← List.append_assoc]
        exact List.Perm.append_right _ List.perm_append_comm
    have e3 : prodT (p :: f) g = (g.map fun q => (addE p.1 q.1, p.2 * q.2)) ++ prodT f g := rfl
    have e4 : (g.map fun q => (addE p.1 q.1, p.2 * q.2)) = g.map fun q => (addE q.1 p.1, q.2 * p.2) := List.map_congr_left fun q _ => by rw [addE_comm, Rat.mul_comm]
    rw [e3, e4]
    exact (List.Perm.append_left _ ih).trans (e g).symm
/-! ### the one row -/
def memD (p : List Int × Rat) : D := .tup [.tup (p.1.map .int), frQ p.2]
def polyD (L : Tb) : D := .tup (L.map memD)
structure Can (k : List Int → List Int) (F : List Int → Rat) (L : Tb) : Prop where
  desc : L.Pairwise fun p q => k q.1 < k p.1
  mem : ∀ p ∈ L, p.2 = F p.1 ∧ p.2 ≠ 0
  all : ∀ e, F e ≠ 0 → (e, F e) ∈ L
theorem Can.nodup {k : List Int → List Int} {F : List Int → Rat} {L : Tb} (h : Can k F L) : (L.map (·.1)).Nodup := by
  rw [List.Nodup, List.pairwise_map]
  exact h.desc.imp fun {p q} hpq z => by rw [z] at hpq; exact List.lt_irrefl _ hpq
theorem Can.uniq {k : List Int → List Int} {F : List Int → Rat} {L L' : Tb} (h : Can k F L) (h' : Can k F L') : L = L' := by
  have mm : ∀ {A B : Tb}, Can k F A → Can k F B → ∀ p, p ∈ A → p ∈ B := fun {A B} a b p hp => by
    obtain ⟨e1, e2⟩ := a.mem p hp
    have := b.all p.1 (by rw [← e1]; exact e2)
    rw [← e1] at this
    exact this
  have m1 := mm h h'
  have m2 := mm h' h
  have d1 := h.desc
  have d2 := h'.desc
  clear h h' mm
  induction L generalizing L' with
  | nil => cases L' with
    | nil => rfl
    | cons q L' => exact absurd (m2 q (by simp)) (by simp)
  | cons p L ih => cases L' with
    | nil => exact absurd (m1 p (by simp)) (by simp)
    | cons q L' =>
      rw [List.pairwise_cons] at d1 d2
      have hpq : p = q := by
        rcases List.mem_cons.mp (m1 p (by simp)) with h | h
        · exact h
        · rcases List.mem_cons.mp (m2 q (by simp)) with h' | h'
          · exact h'.symm
          · exact absurd (List.lt_trans (d2.1 p h) (d1.1 q h')) (List.lt_irrefl _)
      subst hpq
      congr 1
      refine ih (fun r hr => ?_) (fun r hr => ?_) d1.2 d2.2
      · rcases List.mem_cons.mp (m1 r (by simp [hr])) with h | h
        · subst h
          exact absurd (d1.1 r hr) (List.lt_irrefl _)
        · exact h
      · rcases List.mem_cons.mp (m2 r (by simp [hr])) with h | h
        · subst h
          exact absurd (d2.1 r hr) (List.lt_irrefl _)
        · exact h
theorem Can.sum {k : List Int → List Int} {F : List Int → Rat} {L : Tb} (h : Can k F L) (e : List Int) : sumT L e = F e := by
  rw [sumT_val h.nodup]
  by_cases c : F e = 0
  · rw [c]
    refine Classical.byContradiction fun z => ?_
    cases q : has L e with
    | false => exact z (val_not q)
    | true =>
      obtain ⟨p, hp, rfl⟩ := List.mem_map.mp (has_mem.mp q)
      obtain ⟨e1, e2⟩ := h.mem p hp
      rw [e1] at e2
      exact e2 c
  · exact val_mem h.nodup (h.all e c)
/-! ### sorting -/
def srt (k : List Int → List Int) (xs : List (List Int)) : List (List Int) := xs.mergeSort fun a b => !decide (k a < k b)
theorem dataLt_encI (a b : List Int) : PySem.W.dataLt (encI a) (encI b) = decide (a < b) := by
  unfold encI
  rw [PySem.W.dataLt_tuple]
  exact PySem.W.dataLt_ints a b
theorem sortBy_map {α : Type} (f : α → D) (g : α → PyData) (xs : List α) : sortBy (xs.map f) (xs.map g) = (xs.mergeSort (PySem.W.dataLe true g)).map f := by
  unfold sortBy
  have e : (xs.map f).zip (xs.map g) = xs.map fun x => (f x, g x) := by
    rw [List.zip_map']
  rw [e, ← PySem.W.sort_maps (r := PySem.W.dataLe true g) (s := PySem.W.dataLe true (·.2)) (fun x => (f x, g x)) (fun _ _ _ _ => rfl), List.map_map]
  rfl
theorem sort_prog (k : List Int → List Int) (f : List Int → D) (xs : List (List Int)) : sortBy (xs.map f) (xs.map fun x => encI (k x)) = (srt k xs).map f := by
  rw [sortBy_map]
  congr 1
  unfold srt
  congr 1
  funext a b
  show (!PySem.W.dataLt (encI (k a)) (encI (k b))) = _
  rw [dataLt_encI]
theorem eqv_ints : ∀ a b : List Int, PyData.eqvAll (a.map .int) (b.map .int) = decide (a = b)
  | [], [] => by simp [PyData.eqvAll]
  | [], _ :: _ => by simp [PyData.eqvAll]
  | _ :: _, [] => by simp [PyData.eqvAll]
  | x :: a, y :: b => by
    simp only [List.map_cons, PyData.eqvAll, PyData.eqv, eqv_ints a b]
    by_cases h1 : x = y <;> by_cases h2 : a = b <;> simp [h1, h2]
theorem sort_law (k : List Int → List Int) (f : List Int → D) (xs : List (List Int)) (inj : ∀ a ∈ xs, ∀ b ∈ xs, k a = k b → a = b) : sortBy (xs.map f) (xs.map fun x => encP (k x, x)) = (srt k xs).map f := by
  rw [sortBy_map]
  congr 1
  have := PySem.W.sort_maps (r := PySem.W.dataLe true fun x => encP (k x, x)) (s := fun a b => !decide (k a < k b)) (l := xs) id (fun a ha b hb => ?_)
  · rw [List.map_id, List.map_id] at this
    exact this
  · show (!PySem.W.dataLt (encP (k a, a)) (encP (k b, b))) = !decide (k a < k b)
    unfold encP
    rw [PySem.W.dataLt_pair (encI_alike' _ _) (encI_alike' _ _), dataLt_encI, dataLt_encI]
    have e1 : PyData.eqv (encI (k a)) (encI (k b)) = decide (k a = k b) := by
      unfold encI
      simp only [PyData.eqv]
      exact eqv_ints _ _
    rw [e1]
    by_cases h : k a = k b
    · have h2 := inj a ha b hb h
      subst h2
      have e2 : PyData.eqv (encI a) (encI a) = true := by
        unfold encI
        simp only [PyData.eqv]
        rw [eqv_ints]; simp
      rw [if_pos (by simp), if_pos e2]
      have := List.lt_irrefl (k a)
      simp [this]
    · rw [if_neg (by simpa using h)]
where
  encI_alike' (a b : List Int) : PySem.W.alike (encI a) (encI b) = true := by
    unfold encI
    simp only [PySem.W.alike]
    exact PySem.W.alike_ints a b
theorem srt_perm (k : List Int → List Int) (xs : List (List Int)) : (srt k xs).Perm xs := List.mergeSort_perm _ _
theorem srt_desc (k : List Int → List Int) (xs : List (List Int)) (nd : xs.Nodup) (inj : ∀ a ∈ xs, ∀ b ∈ xs, k a = k b → a = b) : (srt k xs).Pairwise fun a b => k b < k a := by
  have h : (srt k xs).Pairwise fun a b => (!decide (k a < k b)) = true := by
    refine List.pairwise_mergeSort (fun a b c h1 h2 => ?_) (fun a b => ?_) xs
    · simp only [Bool.not_eq_true', decide_eq_false_iff_not] at *
      exact List.not_lt.mpr (List.le_trans (List.not_lt.mp h2) (List.not_lt.mp h1))
    · by_cases h1 : k a < k b
      · have := List.lt_asymm h1
        simp [h1, this]
      · simp [h1]
  have nd' : (srt k xs).Nodup := (srt_perm k xs).nodup_iff.mpr nd
  refine (List.Pairwise.and h nd').imp_of_mem fun {a b} ha hb ⟨h1, h2⟩ => ?_
  simp only [Bool.not_eq_true', decide_eq_false_iff_not] at h1
  have h3 : k b ≤ k a := List.not_lt.mp h1
  rcases List.le_iff_lt_or_eq.mp h3 with h4 | h4
  · exact h4
  · exact absurd (inj a ((srt_perm k xs).mem_iff.mp ha) b ((srt_perm k xs).mem_iff.mp hb) h4.symm) h2
/-- what both read off a table -/
def nz (T : Tb) : List (List Int) := (T.filter fun p => decide (p.2 ≠ 0)).map (·.1)
def rowOf (k : List Int → List Int) (T : Tb) : Tb := (srt k (nz T)).map fun e => (e, val T e)
theorem can_row (k : List Int → List Int) {T : Tb} (nd : (T.map (·.1)).Nodup) (inj : ∀ a ∈ T.map (·.1), ∀ b ∈ T.map (·.1), k a = k b → a = b) : Can k (val T) (rowOf k T) := by
  have sub : ∀ e ∈ nz T, e ∈ T.map (·.1) := fun e he => by
    obtain ⟨p, hp, rfl⟩ := List.mem_map.mp he
    exact List.mem_map_of_mem (List.mem_filter.mp hp).1
  have hnd : (nz T).Nodup := nd.sublist ((List.filter_sublist).map _)
  refine ⟨?_, fun p hp => ?_, fun e he => ?_⟩
  · unfold rowOf
    rw [List.pairwise_map]
    exact srt_desc k _ hnd fun a ha b hb => inj a (sub a ha) b (sub b hb)
  · obtain ⟨e, he, rfl⟩ := List.mem_map.mp hp
    refine ⟨rfl, ?_⟩
    obtain ⟨q, hq, rfl⟩ := List.mem_map.mp ((srt_perm k _).mem_iff.mp he)
    obtain ⟨h1, h2⟩ := List.mem_filter.mp hq
    dsimp only
    rw [val_mem nd h1]
    exact of_decide_eq_true h2
  · refine List.mem_map.mpr ⟨e, (srt_perm k _).mem_iff.mpr ?_, rfl⟩
    have hh : has T e = true := by
      cases q : has T e with
      | true => rfl
      | false => exact absurd (val_not q) he
    obtain ⟨p, hp, rfl⟩ := List.mem_map.mp (has_mem.mp hh)
    refine List.mem_map.mpr ⟨p, List.mem_filter.mpr ⟨hp, decide_eq_true ?_⟩, rfl⟩
    rw [← val_mem nd hp]
    exact he
end Dl
end

section
set_option linter.all false
set_option maxRecDepth 100000
namespace K05
open PySem Dl
/-! the terms of the text's defs (printed by mkir.py) -/
abbrev f_fraction : Nat := 0
abbrev f_add : Nat := 1
abbrev f_multiply : Nat := 2
abbrev f_raised : Nat := 3
abbrev f_zero_power : Nat := 4
abbrev f_unit_power : Nat := 5
abbrev f_power_product : Nat := 6
abbrev f_total : Nat := 7
abbrev f_back_key : Nat := 8
abbrev f_part_of : Nat := 9
abbrev f_dot : Nat := 10
abbrev f_power_key : Nat := 11
abbrev f_sorted_powers : Nat := 12
abbrev f_poly_dict : Nat := 13
abbrev f_dict_poly : Nat := 14
abbrev f_put_member : Nat := 15
abbrev f_put_product : Nat := 16
abbrev f_ring_poly : Nat := 17
abbrev f_turned_poly : Nat := 18
abbrev f_constant_poly : Nat := 19
abbrev f_unknown_poly : Nat := 20
abbrev f_add_poly : Nat := 21
abbrev f_scale_poly : Nat := 22
abbrev f_subtract_poly : Nat := 23
abbrev f_multiply_poly : Nat := 24
abbrev f_power_poly : Nat := 25
abbrev f_head_of : Nat := 26
abbrev f_degree_of : Nat := 27
abbrev f_derive : Nat := 28
abbrev f_value_at : Nat := 29
abbrev f_put_in : Nat := 30
abbrev f_made_first : Nat := 31
abbrev f_compare_powers : Nat := 32
abbrev f__law_draws : Nat := 33
abbrev f__law_take : Nat := 34
abbrev f__law_pick : Nat := 35
abbrev f__law_same : Nat := 36
abbrev f__law_shuffled : Nat := 37
abbrev f__law_is_int : Nat := 38
abbrev f__law_gcd : Nat := 39
abbrev f__law_frac : Nat := 40
abbrev f__law_plus : Nat := 41
abbrev f__law_minus : Nat := 42
abbrev f__law_product : Nat := 43
abbrev f__law_is_fraction : Nat := 44
abbrev f__law_key : Nat := 45
abbrev f__law_poly : Nat := 46
abbrev f__law_joined : Nat := 47
abbrev f__law_order : Nat := 48
abbrev f__law_fraction : Nat := 49
abbrev f__law_power : Nat := 50
abbrev f__law_drawn : Nat := 51
abbrev f__law_is_power : Nat := 52
abbrev f__law_is_poly : Nat := 53
abbrev f__law_values_fit : Nat := 54
abbrev f__law_heads_fit : Nat := 55
abbrev f_law : Nat := 56
def b_fraction : ISs := (.cons (.ite (.cmp .Lt (.var 1) (.int 0)) (.cons (.par 0 1 (.neg (.var 0)) (.neg (.var 1)))
  .nil) .nil)
  (.cons (.asg (.nm 2) (.bi .gcd (.cons (.var 0) (.cons (.var 1) .nil))))
  (.cons (.ret (.tup (.cons (.op .FloorDiv (.var 0) (.var 2)) (.cons (.op .FloorDiv (.var 1) (.var 2)) .nil))))
  .nil)))
abbrev d_fraction : Fd := ⟨2, 3, b_fraction⟩
def b_add : ISs := (.cons (.ret (.call f_fraction (.cons (.op .Add (.op .Mult (.ix (.var 0) (.int 0)) (.ix (.var 1) (.int 1))) (.op .Mult (.ix (.var 1) (.int 0)) (.ix (.var 0) (.int 1)))) (.cons (.op .Mult (.ix (.var 0) (.int 1)) (.ix (.var 1) (.int 1))) .nil))))
  .nil)
abbrev d_add : Fd := ⟨2, 2, b_add⟩
def b_multiply : ISs := (.cons (.ret (.call f_fraction (.cons (.op .Mult (.ix (.var 0) (.int 0)) (.ix (.var 1) (.int 0))) (.cons (.op .Mult (.ix (.var 0) (.int 1)) (.ix (.var 1) (.int 1))) .nil))))
  .nil)
abbrev d_multiply : Fd := ⟨2, 2, b_multiply⟩
def b_raised : ISs := (.cons (.asg (.nm 2) (.tup (.cons (.int 1) (.cons (.int 1) .nil))))
  (.cons (.forr (.nm 3) (.rng1 (.var 1)) (.cons (.asg (.nm 2) (.call f_multiply (.cons (.var 2) (.cons (.var 0) .nil))))
  .nil))
  (.cons (.ret (.var 2))
  .nil)))
abbrev d_raised : Fd := ⟨2, 4, b_raised⟩
def b_zero_power : ISs := (.cons (.ret (.op .Mult (.tup (.cons (.int 0) .nil)) (.var 0)))
  .nil)
abbrev d_zero_power : Fd := ⟨1, 1, b_zero_power⟩
def b_unit_power : ISs := (.cons (.ret (.bi .tuple (.cons (.comp (.nm 2) [2] (.rng1 (.var 0)) .no (.ite (.cmp .Eq (.var 2) (.var 1)) (.int 1) (.int 0))) .nil)))
  .nil)
abbrev d_unit_power : Fd := ⟨2, 3, b_unit_power⟩
def b_power_product : ISs := (.cons (.ret (.bi .tuple (.cons (.comp (.tp (.cons (.nm 2) (.cons (.nm 3) .nil))) [2, 3] (.zip (.var 0) (.var 1)) .no (.op .Add (.var 2) (.var 3))) .nil)))
  .nil)
abbrev d_power_product : Fd := ⟨2, 4, b_power_product⟩
def b_total : ISs := (.cons (.ret (.bi .sum (.cons (.var 0) .nil)))
  .nil)
abbrev d_total : Fd := ⟨1, 1, b_total⟩
def b_back_key : ISs := (.cons (.ret (.op .Add (.tup (.cons (.bi .sum (.cons (.var 0) .nil)) .nil)) (.bi .tuple (.cons (.comp (.nm 1) [1] (.seq (.rev (.var 0))) .no (.neg (.var 1))) .nil))))
  .nil)
abbrev d_back_key : Fd := ⟨1, 2, b_back_key⟩
def b_part_of : ISs := (.cons (.ret (.bi .tuple (.cons (.comp (.nm 3) [3] (.rng1 (.bi .len (.cons (.var 0) .nil))) (.so (.cmp .Eq (.cmp .In (.var 3) (.var 1)) (.var 2))) (.ix (.var 0) (.var 3))) .nil)))
  .nil)
abbrev d_part_of : Fd := ⟨3, 4, b_part_of⟩
def b_dot : ISs := (.cons (.ret (.bi .sum (.cons (.comp (.tp (.cons (.nm 2) (.cons (.nm 3) .nil))) [2, 3] (.zip (.var 0) (.var 1)) .no (.op .Mult (.var 2) (.var 3))) .nil)))
  .nil)
abbrev d_dot : Fd := ⟨2, 4, b_dot⟩
def b_power_key : ISs := (.cons (.asg (.nm 2) (.ix (.var 0) (.int 1)))
  (.cons (.ite (.cmp .Eq (.var 2) (.str "back")) (.cons (.ret (.call f_back_key (.cons (.var 1) .nil)))
  .nil) .nil)
  (.cons (.ite (.cmp .Eq (.var 2) (.str "lex")) (.cons (.ret (.var 1))
  .nil) .nil)
  (.cons (.ite (.cmp .Eq (.var 2) (.str "degree")) (.cons (.ret (.op .Add (.tup (.cons (.bi .sum (.cons (.var 1) .nil)) .nil)) (.var 1)))
  .nil) .nil)
  (.cons (.ite (.cmp .Eq (.ix (.var 2) (.int 0)) (.str "blocks")) (.cons (.ret (.op .Add (.call f_back_key (.cons (.call f_part_of (.cons (.var 1) (.cons (.ix (.var 2) (.int 1)) (.cons (.bl true) .nil)))) .nil)) (.call f_back_key (.cons (.call f_part_of (.cons (.var 1) (.cons (.ix (.var 2) (.int 1)) (.cons (.bl false) .nil)))) .nil))))
  .nil) .nil)
  (.cons (.ret (.bi .tuple (.cons (.comp (.nm 3) [3] (.seq (.ix (.var 2) (.int 1))) .no (.call f_dot (.cons (.var 3) (.cons (.var 1) .nil)))) .nil)))
  .nil))))))
abbrev d_power_key : Fd := ⟨2, 4, b_power_key⟩
def b_sorted_powers : ISs := (.cons (.rsort 0 (.var 1) (.call f_power_key (.cons (.var 1) (.cons (.var 0) .nil))))
  .nil)
abbrev d_sorted_powers : Fd := ⟨2, 2, b_sorted_powers⟩
def b_poly_dict : ISs := (.cons (.ret (.dmk (.tp (.cons (.nm 1) (.cons (.nm 2) .nil))) [1, 2] (.seq (.var 0)) (.var 1) (.var 2)))
  .nil)
abbrev d_poly_dict : Fd := ⟨1, 3, b_poly_dict⟩
def b_dict_poly : ISs := (.cons (.asg (.nm 2) (.dcomp 1 (.nm 3) [3] (.so (.cmp .NotEq (.ix (.dget (.var 1) (.var 3)) (.int 0)) (.int 0))) (.var 3)))
  (.cons (.ret (.bi .tuple (.cons (.comp (.nm 3) [3] (.seq (.call f_sorted_powers (.cons (.var 0) (.cons (.var 2) .nil)))) .no (.tup (.cons (.var 3) (.cons (.dget (.var 1) (.var 3)) .nil)))) .nil)))
  .nil))
abbrev d_dict_poly : Fd := ⟨2, 4, b_dict_poly⟩
def b_put_member : ISs := (.cons (.ite (.din (.var 1) (.var 0)) (.cons (.dput (.var 0) (.var 1) (.call f_add (.cons (.dget (.var 0) (.var 1)) (.cons (.var 2) .nil))))
  .nil) (.cons (.dput (.var 0) (.var 1) (.var 2))
  .nil))
  .nil)
abbrev d_put_member : Fd := ⟨3, 3, b_put_member⟩
def b_put_product : ISs := (.cons (.forr (.tp (.cons (.nm 4) (.cons (.nm 5) .nil))) (.seq (.var 1)) (.cons (.expr (.call f_put_member (.cons (.var 0) (.cons (.call f_power_product (.cons (.var 4) (.cons (.var 2) .nil))) (.cons (.call f_multiply (.cons (.var 5) (.cons (.var 3) .nil))) .nil)))))
  .nil))
  .nil)
abbrev d_put_product : Fd := ⟨4, 6, b_put_product⟩
def b_ring_poly : ISs := (.cons (.asg (.nm 2) .dnew)
  (.cons (.forr (.tp (.cons (.nm 3) (.cons (.nm 4) .nil))) (.seq (.var 1)) (.cons (.expr (.call f_put_member (.cons (.var 2) (.cons (.var 3) (.cons (.var 4) .nil)))))
  .nil))
  (.cons (.ret (.call f_dict_poly (.cons (.var 0) (.cons (.var 2) .nil))))
  .nil)))
abbrev d_ring_poly : Fd := ⟨2, 5, b_ring_poly⟩
def b_turned_poly : ISs := (.cons (.ret (.call f_dict_poly (.cons (.var 0) (.cons (.call f_poly_dict (.cons (.var 1) .nil)) .nil))))
  .nil)
abbrev d_turned_poly : Fd := ⟨2, 2, b_turned_poly⟩
def b_constant_poly : ISs := (.cons (.ret (.call f_ring_poly (.cons (.var 0) (.cons (.lst (.cons (.tup (.cons (.call f_zero_power (.cons (.ix (.var 0) (.int 0)) .nil)) (.cons (.var 1) .nil))) .nil)) .nil))))
  .nil)
abbrev d_constant_poly : Fd := ⟨2, 2, b_constant_poly⟩
def b_unknown_poly : ISs := (.cons (.ret (.tup (.cons (.tup (.cons (.call f_unit_power (.cons (.ix (.var 0) (.int 0)) (.cons (.var 1) .nil))) (.cons (.tup (.cons (.int 1) (.cons (.int 1) .nil))) .nil))) .nil)))
  .nil)
abbrev d_unknown_poly : Fd := ⟨2, 2, b_unknown_poly⟩
def b_add_poly : ISs := (.cons (.ret (.call f_ring_poly (.cons (.var 0) (.cons (.op .Add (.var 1) (.var 2)) .nil))))
  .nil)
abbrev d_add_poly : Fd := ⟨3, 3, b_add_poly⟩
def b_scale_poly : ISs := (.cons (.ite (.cmp .Eq (.ix (.var 2) (.int 0)) (.int 0)) (.cons (.ret (.tup .nil))
  .nil) .nil)
  (.cons (.ret (.bi .tuple (.cons (.comp (.tp (.cons (.nm 3) (.cons (.nm 4) .nil))) [3, 4] (.seq (.var 1)) .no (.tup (.cons (.var 3) (.cons (.call f_multiply (.cons (.var 4) (.cons (.var 2) .nil))) .nil)))) .nil)))
  .nil))
abbrev d_scale_poly : Fd := ⟨3, 5, b_scale_poly⟩
def b_subtract_poly : ISs := (.cons (.ret (.call f_ring_poly (.cons (.var 0) (.cons (.op .Add (.var 1) (.call f_scale_poly (.cons (.var 0) (.cons (.var 2) (.cons (.tup (.cons (.neg (.int 1)) (.cons (.int 1) .nil))) .nil))))) .nil))))
  .nil)
abbrev d_subtract_poly : Fd := ⟨3, 3, b_subtract_poly⟩
def b_multiply_poly : ISs := (.cons (.asg (.nm 3) .dnew)
  (.cons (.forr (.tp (.cons (.nm 4) (.cons (.nm 5) .nil))) (.seq (.var 1)) (.cons (.expr (.call f_put_product (.cons (.var 3) (.cons (.var 2) (.cons (.var 4) (.cons (.var 5) .nil))))))
  .nil))
  (.cons (.ret (.call f_dict_poly (.cons (.var 0) (.cons (.var 3) .nil))))
  .nil)))
abbrev d_multiply_poly : Fd := ⟨3, 6, b_multiply_poly⟩
def b_power_poly : ISs := (.cons (.asg (.nm 3) (.call f_constant_poly (.cons (.var 0) (.cons (.tup (.cons (.int 1) (.cons (.int 1) .nil))) .nil))))
  (.cons (.forr (.nm 4) (.rng1 (.var 2)) (.cons (.asg (.nm 3) (.call f_multiply_poly (.cons (.var 0) (.cons (.var 3) (.cons (.var 1) .nil)))))
  .nil))
  (.cons (.ret (.var 3))
  .nil)))
abbrev d_power_poly : Fd := ⟨3, 5, b_power_poly⟩
def b_head_of : ISs := (.cons (.ret (.ix (.var 0) (.int 0)))
  .nil)
abbrev d_head_of : Fd := ⟨1, 1, b_head_of⟩
def b_degree_of : ISs := (.cons (.ret (.maxd (.comp (.tp (.cons (.nm 1) (.cons (.nm 2) .nil))) [1, 2] (.seq (.var 0)) .no (.call f_total (.cons (.var 1) .nil))) (.neg (.int 1))))
  .nil)
abbrev d_degree_of : Fd := ⟨1, 3, b_degree_of⟩
def b_derive : ISs := (.cons (.asg (.nm 3) (.lst .nil))
  (.cons (.forr (.tp (.cons (.nm 4) (.cons (.nm 5) .nil))) (.seq (.var 1)) (.cons (.ite (.cmp .Gt (.ix (.var 4) (.var 2)) (.int 0)) (.cons (.asg (.nm 6) (.op .Add (.op .Add (.sl (.var 4) .no (.so (.var 2))) (.tup (.cons (.op .Sub (.ix (.var 4) (.var 2)) (.int 1)) .nil))) (.sl (.var 4) (.so (.op .Add (.var 2) (.int 1))) .no)))
  (.cons (.expr (.me .append (.var 3) (.cons (.tup (.cons (.var 6) (.cons (.call f_multiply (.cons (.var 5) (.cons (.tup (.cons (.ix (.var 4) (.var 2)) (.cons (.int 1) .nil))) .nil))) .nil))) .nil)))
  .nil)) .nil)
  .nil))
  (.cons (.ret (.call f_ring_poly (.cons (.var 0) (.cons (.var 3) .nil))))
  .nil)))
abbrev d_derive : Fd := ⟨3, 7, b_derive⟩
def b_value_at : ISs := (.cons (.asg (.nm 2) (.tup (.cons (.int 0) (.cons (.int 1) .nil))))
  (.cons (.forr (.tp (.cons (.nm 3) (.cons (.nm 4) .nil))) (.seq (.var 0)) (.cons (.asg (.nm 5) (.var 4))
  (.cons (.forr (.tp (.cons (.nm 6) (.cons (.nm 7) .nil))) (.zip (.var 1) (.var 3)) (.cons (.asg (.nm 5) (.call f_multiply (.cons (.var 5) (.cons (.call f_raised (.cons (.var 6) (.cons (.var 7) .nil))) .nil))))
  .nil))
  (.cons (.asg (.nm 2) (.call f_add (.cons (.var 2) (.cons (.var 5) .nil))))
  .nil))))
  (.cons (.ret (.var 2))
  .nil)))
abbrev d_value_at : Fd := ⟨2, 8, b_value_at⟩
def b_put_in : ISs := (.cons (.asg (.nm 3) (.tup .nil))
  (.cons (.forr (.tp (.cons (.nm 4) (.cons (.nm 5) .nil))) (.seq (.var 1)) (.cons (.asg (.nm 6) (.call f_constant_poly (.cons (.var 0) (.cons (.var 5) .nil))))
  (.cons (.forr (.tp (.cons (.nm 7) (.cons (.nm 8) .nil))) (.zip (.var 2) (.var 4)) (.cons (.asg (.nm 6) (.call f_multiply_poly (.cons (.var 0) (.cons (.var 6) (.cons (.call f_power_poly (.cons (.var 0) (.cons (.var 7) (.cons (.var 8) .nil)))) .nil)))))
  .nil))
  (.cons (.asg (.nm 3) (.call f_add_poly (.cons (.var 0) (.cons (.var 3) (.cons (.var 6) .nil)))))
  .nil))))
  (.cons (.ret (.var 3))
  .nil)))
abbrev d_put_in : Fd := ⟨3, 9, b_put_in⟩
def b_made_first : ISs := (.cons (.asg (.nm 2) (.ix (.ix (.var 1) (.int 0)) (.int 1)))
  (.cons (.ret (.call f_scale_poly (.cons (.var 0) (.cons (.var 1) (.cons (.ite (.cmp .Gt (.ix (.var 2) (.int 0)) (.int 0)) (.tup (.cons (.ix (.var 2) (.int 1)) (.cons (.ix (.var 2) (.int 0)) .nil))) (.tup (.cons (.neg (.ix (.var 2) (.int 1))) (.cons (.neg (.ix (.var 2) (.int 0))) .nil)))) .nil)))))
  .nil))
abbrev d_made_first : Fd := ⟨2, 3, b_made_first⟩
def b_compare_powers : ISs := (.cons (.asg (.nm 3) (.call f_power_key (.cons (.var 0) (.cons (.var 1) .nil))))
  (.cons (.asg (.nm 4) (.call f_power_key (.cons (.var 0) (.cons (.var 2) .nil))))
  (.cons (.ite (.cmp .Eq (.var 3) (.var 4)) (.cons (.ret (.int 0))
  .nil) .nil)
  (.cons (.ret (.ite (.cmp .Lt (.var 3) (.var 4)) (.neg (.int 1)) (.int 1)))
  .nil))))
abbrev d_compare_powers : Fd := ⟨3, 5, b_compare_powers⟩
def b__law_draws : ISs := (.cons (.asg (.nm 2) (.comp (.nm 8) [8] (.seq (.sl (.var 0) .no (.so (.int 63)))) .no (.op .Mod (.bi .int (.cons (.var 8) .nil)) (.op .LShift (.int 1) (.int 7200)))))
  (.cons (.ite (.cmp .Eq (.bi .len (.cons (.var 2) .nil)) (.int 0)) (.cons (.expr (.me .append (.var 2) (.cons (.int 0) .nil)))
  .nil) .nil)
  (.cons (.asg (.nm 3) (.bi .list (.cons (.var 2) .nil)))
  (.cons (.asg (.nm 4) (.lst .nil))
  (.cons (.forr (.nm 5) (.rng1 (.var 1)) (.cons (.asg (.nm 6) (.op .Mod (.bi .int (.cons (.var 5) .nil)) (.bi .len (.cons (.var 2) .nil))))
  (.cons (.ite (.and (.cmp .GtE (.ix (.var 2) (.var 6)) (.op .Pow (.int 10) (.int 18))) (.cmp .Gt (.ix (.var 3) (.var 6)) (.int 0))) (.cons (.expr (.me .append (.var 4) (.cons (.op .Mod (.bi .int (.cons (.ix (.var 3) (.var 6)) .nil)) (.int 1000)) .nil)))
  (.cons (.asg (.ixs (.var 3) (.var 6)) (.op .FloorDiv (.ix (.var 3) (.var 6)) (.int 1000)))
  .nil)) (.cons (.asg (.nm 7) (.op .Mod (.bi .int (.cons (.op .Add (.op .Add (.op .Mult (.ix (.var 2) (.var 6)) (.int 48271)) (.op .Mult (.var 5) (.int 69621))) (.int 11)) .nil)) (.int 2147483647)))
  (.cons (.expr (.me .append (.var 4) (.cons (.op .Mod (.bi .int (.cons (.op .Add (.op .Add (.op .Mult (.var 7) (.var 7)) (.op .Mult (.int 3) (.var 7))) (.var 5)) .nil)) (.int 1000003)) .nil)))
  .nil)))
  .nil)))
  (.cons (.expr (.me .reverse (.var 4) .nil))
  (.cons (.ret (.var 4))
  .nil)))))))
abbrev d__law_draws : Fd := ⟨2, 9, b__law_draws⟩
def b__law_take : ISs := (.cons (.ite (.cmp .Eq (.bi .len (.cons (.var 0) .nil)) (.int 0)) (.cons (.ret (.int 0))
  .nil) .nil)
  (.cons (.ret (.op .Mod (.bi .int (.cons (.me .pop (.var 0) .nil) .nil)) (.var 1)))
  .nil))
abbrev d__law_take : Fd := ⟨2, 2, b__law_take⟩
def b__law_pick : ISs := (.cons (.ret (.ix (.var 1) (.call f__law_take (.cons (.var 0) (.cons (.bi .len (.cons (.var 1) .nil)) .nil)))))
  .nil)
abbrev d__law_pick : Fd := ⟨2, 2, b__law_pick⟩
def b__law_same : ISs := (.cons (.ite (.isis (.var 1) [.tuple, .list]) (.cons (.ite (.or (.cmp .NotEq (.isi (.var 0) .tuple) (.isi (.var 1) .tuple)) (.cmp .NotEq (.isi (.var 0) .list) (.isi (.var 1) .list))) (.cons (.ret (.bl false))
  .nil) .nil)
  (.cons (.ite (.cmp .NotEq (.bi .len (.cons (.var 0) .nil)) (.bi .len (.cons (.var 1) .nil))) (.cons (.ret (.bl false))
  .nil) .nil)
  (.cons (.ret (.cmp .NotIn (.bl false) (.comp (.nm 2) [2] (.rng1 (.bi .len (.cons (.var 1) .nil))) .no (.call f__law_same (.cons (.ix (.var 0) (.var 2)) (.cons (.ix (.var 1) (.var 2)) .nil))))))
  .nil))) .nil)
  (.cons (.ite (.or (.cmp .NotEq (.isi (.var 0) .bool) (.isi (.var 1) .bool)) (.cmp .NotEq (.isi (.var 0) .int) (.isi (.var 1) .int))) (.cons (.ret (.bl false))
  .nil) .nil)
  (.cons (.ite (.or (.cmp .NotEq (.isi (.var 0) .str) (.isi (.var 1) .str)) (.cmp .NotEq (.cmp .Is (.var 0) .non) (.cmp .Is (.var 1) .non))) (.cons (.ret (.bl false))
  .nil) .nil)
  (.cons (.ret (.cmp .Eq (.var 0) (.var 1)))
  .nil))))
abbrev d__law_same : Fd := ⟨2, 3, b__law_same⟩
def b__law_shuffled : ISs := (.cons (.asg (.nm 2) (.bi .list (.cons (.var 1) .nil)))
  (.cons (.asg (.nm 3) (.lst .nil))
  (.cons (.forr (.nm 4) (.rng1 (.bi .len (.cons (.var 2) .nil))) (.cons (.expr (.me .append (.var 3) (.cons (.me .popAt (.var 2) (.cons (.call f__law_take (.cons (.var 0) (.cons (.bi .len (.cons (.var 2) .nil)) .nil))) .nil)) .nil)))
  .nil))
  (.cons (.ret (.var 3))
  .nil))))
abbrev d__law_shuffled : Fd := ⟨2, 5, b__law_shuffled⟩
def b__law_is_int : ISs := (.cons (.ret (.and (.isi (.var 0) .int) (.not (.isi (.var 0) .bool))))
  .nil)
abbrev d__law_is_int : Fd := ⟨1, 1, b__law_is_int⟩
def b__law_gcd : ISs := (.cons (.asg (.nm 2) (.bi .abs (.cons (.var 0) .nil)))
  (.cons (.asg (.nm 3) (.bi .abs (.cons (.var 1) .nil)))
  (.cons (.forr (.nm 4) (.rng1 (.int 20000)) (.cons (.ite (.cmp .Eq (.var 3) (.int 0)) (.cons .brk
  .nil) .nil)
  (.cons (.asg (.nm 5) (.op .Mod (.bi .int (.cons (.var 2) .nil)) (.var 3)))
  (.cons (.asg (.nm 2) (.var 3))
  (.cons (.asg (.nm 3) (.var 5))
  .nil)))))
  (.cons (.ret (.var 2))
  .nil))))
abbrev d__law_gcd : Fd := ⟨2, 6, b__law_gcd⟩
def b__law_frac : ISs := (.cons (.asg (.nm 2) (.bi .max (.cons (.int 1) (.cons (.call f__law_gcd (.cons (.var 0) (.cons (.var 1) .nil))) .nil))))
  (.cons (.ite (.cmp .Lt (.var 1) (.int 0)) (.cons (.asg (.nm 2) (.op .Sub (.int 0) (.var 2)))
  .nil) .nil)
  (.cons (.ret (.tup (.cons (.op .FloorDiv (.var 0) (.var 2)) (.cons (.op .FloorDiv (.var 1) (.var 2)) .nil))))
  .nil)))
abbrev d__law_frac : Fd := ⟨2, 3, b__law_frac⟩
def b__law_plus : ISs := (.cons (.ret (.call f__law_frac (.cons (.op .Add (.op .Mult (.ix (.var 0) (.int 0)) (.ix (.var 1) (.int 1))) (.op .Mult (.ix (.var 1) (.int 0)) (.ix (.var 0) (.int 1)))) (.cons (.op .Mult (.ix (.var 0) (.int 1)) (.ix (.var 1) (.int 1))) .nil))))
  .nil)
abbrev d__law_plus : Fd := ⟨2, 2, b__law_plus⟩
def b__law_minus : ISs := (.cons (.ret (.call f__law_frac (.cons (.op .Sub (.op .Mult (.ix (.var 0) (.int 0)) (.ix (.var 1) (.int 1))) (.op .Mult (.ix (.var 1) (.int 0)) (.ix (.var 0) (.int 1)))) (.cons (.op .Mult (.ix (.var 0) (.int 1)) (.ix (.var 1) (.int 1))) .nil))))
  .nil)
abbrev d__law_minus : Fd := ⟨2, 2, b__law_minus⟩
def b__law_product : ISs := (.cons (.ret (.call f__law_frac (.cons (.op .Mult (.ix (.var 0) (.int 0)) (.ix (.var 1) (.int 0))) (.cons (.op .Mult (.ix (.var 0) (.int 1)) (.ix (.var 1) (.int 1))) .nil))))
  .nil)
abbrev d__law_product : Fd := ⟨2, 2, b__law_product⟩
def b__law_is_fraction : ISs := (.cons (.ite (.or (.not (.isi (.var 0) .tuple)) (.or (.cmp .NotEq (.bi .len (.cons (.var 0) .nil)) (.int 2)) (.or (.not (.call f__law_is_int (.cons (.ix (.var 0) (.int 0)) .nil))) (.not (.call f__law_is_int (.cons (.ix (.var 0) (.int 1)) .nil)))))) (.cons (.ret (.bl false))
  .nil) .nil)
  (.cons (.ret (.and (.cmp .Gt (.ix (.var 0) (.int 1)) (.int 0)) (.cmp .Eq (.call f__law_gcd (.cons (.ix (.var 0) (.int 0)) (.cons (.ix (.var 0) (.int 1)) .nil))) (.int 1))))
  .nil))
abbrev d__law_is_fraction : Fd := ⟨1, 1, b__law_is_fraction⟩
def b__law_key : ISs := (.cons (.asg (.tp (.cons (.nm 2) (.cons (.nm 3) .nil))) (.var 0))
  (.cons (.ite (.cmp .Eq (.var 3) (.str "lex")) (.cons (.ret (.var 1))
  .nil) .nil)
  (.cons (.ite (.cmp .Eq (.var 3) (.str "degree")) (.cons (.ret (.op .Add (.tup (.cons (.bi .sum (.cons (.var 1) .nil)) .nil)) (.var 1)))
  .nil) .nil)
  (.cons (.ite (.cmp .Eq (.ix (.var 3) (.int 0)) (.str "weights")) (.cons (.ret (.bi .tuple (.cons (.comp (.nm 7) [7] (.seq (.ix (.var 3) (.int 1))) .no (.bi .sum (.cons (.comp (.nm 8) [8] (.rng1 (.var 2)) .no (.op .Mult (.ix (.var 7) (.var 8)) (.ix (.var 1) (.var 8)))) .nil))) .nil)))
  .nil) .nil)
  (.cons (.asg (.nm 4) (.lst (.cons (.tupr (.var 2)) .nil)))
  (.cons (.ite (.cmp .NotEq (.var 3) (.str "back")) (.cons (.asg (.nm 4) (.lst (.cons (.ix (.var 3) (.int 1)) (.cons (.bi .tuple (.cons (.comp (.nm 8) [8] (.rng1 (.var 2)) (.so (.cmp .NotIn (.var 8) (.ix (.var 3) (.int 1)))) (.var 8)) .nil)) .nil))))
  .nil) .nil)
  (.cons (.asg (.nm 5) (.tup .nil))
  (.cons (.forr (.nm 6) (.seq (.var 4)) (.cons (.asg (.nm 5) (.op .Add (.op .Add (.var 5) (.tup (.cons (.bi .sum (.cons (.comp (.nm 8) [8] (.seq (.var 6)) .no (.ix (.var 1) (.var 8))) .nil)) .nil))) (.bi .tuple (.cons (.comp (.nm 8) [8] (.seq (.rev (.var 6))) .no (.op .Sub (.int 0) (.ix (.var 1) (.var 8)))) .nil))))
  .nil))
  (.cons (.ret (.var 5))
  .nil)))))))))
abbrev d__law_key : Fd := ⟨2, 9, b__law_key⟩
def b__law_poly : ISs := (.cons (.asg (.nm 2) (.sortp (.dcomp 1 (.nm 3) [3] (.so (.cmp .NotEq (.ix (.dget (.var 1) (.var 3)) (.int 0)) (.int 0))) (.tup (.cons (.call f__law_key (.cons (.var 0) (.cons (.var 3) .nil))) (.cons (.var 3) .nil))))))
  (.cons (.ret (.bi .tuple (.cons (.comp (.nm 4) [4] (.seq (.var 2)) .no (.tup (.cons (.ix (.var 4) (.int 1)) (.cons (.dget (.var 1) (.ix (.var 4) (.int 1))) .nil)))) .nil)))
  .nil))
abbrev d__law_poly : Fd := ⟨2, 5, b__law_poly⟩
def b__law_joined : ISs := (.cons (.ret (.bi .tuple (.cons (.comp (.nm 2) [2] (.rng1 (.bi .len (.cons (.var 0) .nil))) .no (.op .Add (.ix (.var 0) (.var 2)) (.ix (.var 1) (.var 2)))) .nil)))
  .nil)
abbrev d__law_joined : Fd := ⟨2, 3, b__law_joined⟩
def b__law_order : ISs := (.cons (.asg (.nm 2) (.call f__law_pick (.cons (.var 0) (.cons (.lst (.cons (.str "lex") (.cons (.str "degree") (.cons (.str "back") (.cons (.str "blocks") (.cons (.str "weights") (.cons (.str "lex") (.cons (.str "back") .nil)))))))) .nil))))
  (.cons (.ite (.cmp .Eq (.var 2) (.str "blocks")) (.cons (.ret (.tup (.cons (.str "blocks") (.cons (.bi .tuple (.cons (.comp (.nm 6) [6] (.rng1 (.var 1)) (.so (.cmp .Eq (.call f__law_take (.cons (.var 0) (.cons (.int 2) .nil))) (.int 0))) (.var 6)) .nil)) .nil))))
  .nil) .nil)
  (.cons (.ite (.cmp .NotEq (.var 2) (.str "weights")) (.cons (.ret (.var 2))
  .nil) .nil)
  (.cons (.asg (.nm 3) (.comp (.nm 6) [6] (.rng1 (.var 1)) .no (.call f__law_pick (.cons (.var 0) (.cons (.lst (.cons (.int 0) (.cons (.int 1) (.cons (.int 2) (.cons (.int 3) (.cons (.int 1) (.cons (.int 99) .nil))))))) .nil)))))
  (.cons (.asg (.nm 4) (.call f__law_take (.cons (.var 0) (.cons (.var 1) .nil))))
  (.cons (.asg (.ixs (.var 3) (.var 4)) (.op .Add (.int 1) (.call f__law_take (.cons (.var 0) (.cons (.int 5) .nil)))))
  (.cons (.asg (.nm 5) (.lst .nil))
  (.cons (.forr (.nm 6) (.rng1 (.var 1)) (.cons (.ite (.cmp .NotEq (.var 6) (.var 4)) (.cons (.asg (.nm 7) (.ix (.lst (.cons (.op .Sub (.int 1) (.op .Mult (.int 2) (.call f__law_take (.cons (.var 0) (.cons (.int 2) .nil))))) (.cons (.int 1) .nil))) (.bi .int (.cons (.cmp .Eq (.ix (.var 3) (.var 6)) (.int 0)) .nil))))
  (.cons (.expr (.me .append (.var 5) (.cons (.bi .tuple (.cons (.comp (.nm 8) [8] (.rng1 (.var 1)) .no (.op .Mult (.op .Mult (.var 7) (.op .Add (.int 1) (.call f__law_take (.cons (.var 0) (.cons (.int 3) .nil))))) (.bi .int (.cons (.cmp .Eq (.var 8) (.var 6)) .nil)))) .nil)) .nil)))
  .nil)) .nil)
  .nil))
  (.cons (.ret (.tup (.cons (.str "weights") (.cons (.op .Add (.tup (.cons (.bi .tuple (.cons (.var 3) .nil)) .nil)) (.bi .tuple (.cons (.call f__law_shuffled (.cons (.var 0) (.cons (.var 5) .nil))) .nil))) .nil))))
  .nil)))))))))
abbrev d__law_order : Fd := ⟨2, 9, b__law_order⟩
def b__law_fraction : ISs := (.cons (.ret (.call f__law_pick (.cons (.var 0) (.cons (.lst (.cons (.tup (.cons (.int 1) (.cons (.int 1) .nil))) (.cons (.tup (.cons (.neg (.int 1)) (.cons (.int 1) .nil))) (.cons (.tup (.cons (.int 2) (.cons (.int 1) .nil))) (.cons (.tup (.cons (.neg (.int 3)) (.cons (.int 1) .nil))) (.cons (.tup (.cons (.int 1) (.cons (.int 2) .nil))) (.cons (.tup (.cons (.neg (.int 2)) (.cons (.int 3) .nil))) (.cons (.tup (.cons (.int 1) (.cons (.int 1) .nil))) (.cons (.tup (.cons (.neg (.int 1)) (.cons (.int 1) .nil))) .nil))))))))) .nil))))
  .nil)
abbrev d__law_fraction : Fd := ⟨1, 1, b__law_fraction⟩
def b__law_power : ISs := (.cons (.asg (.nm 3) (.op .Mult (.lst (.cons (.int 0) .nil)) (.var 1)))
  (.cons (.forr (.nm 4) (.rng1 (.call f__law_take (.cons (.var 0) (.cons (.op .Add (.var 2) (.int 1)) .nil)))) (.cons (.asg (.nm 5) (.call f__law_take (.cons (.var 0) (.cons (.var 1) .nil))))
  (.cons (.asg (.ixs (.var 3) (.var 5)) (.op .Add (.ix (.var 3) (.var 5)) (.int 1)))
  .nil)))
  (.cons (.ret (.bi .tuple (.cons (.var 3) .nil)))
  .nil)))
abbrev d__law_power : Fd := ⟨3, 6, b__law_power⟩
def b__law_drawn : ISs := (.cons (.asg (.nm 4) .dnew)
  (.cons (.forr (.nm 5) (.rng1 (.var 3)) (.cons (.dput (.var 4) (.call f__law_power (.cons (.var 0) (.cons (.ix (.var 1) (.int 0)) (.cons (.var 2) .nil)))) (.call f__law_fraction (.cons (.var 0) .nil)))
  .nil))
  (.cons (.ret (.call f__law_poly (.cons (.var 1) (.cons (.var 4) .nil))))
  .nil)))
abbrev d__law_drawn : Fd := ⟨4, 6, b__law_drawn⟩
def b__law_is_power : ISs := (.cons (.ite (.or (.not (.isi (.var 1) .tuple)) (.cmp .NotEq (.bi .len (.cons (.var 1) .nil)) (.var 0))) (.cons (.ret (.bl false))
  .nil) .nil)
  (.cons (.ret (.cmp .NotIn (.bl false) (.comp (.nm 2) [2] (.seq (.var 1)) .no (.and (.call f__law_is_int (.cons (.var 2) .nil)) (.cmp .GtE (.var 2) (.int 0))))))
  .nil))
abbrev d__law_is_power : Fd := ⟨2, 3, b__law_is_power⟩
def b__law_is_poly : ISs := (.cons (.ite (.not (.isi (.var 1) .tuple)) (.cons (.ret (.bl false))
  .nil) .nil)
  (.cons (.forr (.nm 2) (.seq (.var 1)) (.cons (.ite (.or (.not (.isi (.var 2) .tuple)) (.or (.cmp .NotEq (.bi .len (.cons (.var 2) .nil)) (.int 2)) (.not (.call f__law_is_power (.cons (.ix (.var 0) (.int 0)) (.cons (.ix (.var 2) (.int 0)) .nil)))))) (.cons (.ret (.bl false))
  .nil) .nil)
  (.cons (.ite (.or (.not (.call f__law_is_fraction (.cons (.ix (.var 2) (.int 1)) .nil))) (.cmp .Eq (.ix (.ix (.var 2) (.int 1)) (.int 0)) (.int 0))) (.cons (.ret (.bl false))
  .nil) .nil)
  .nil)))
  (.cons (.asg (.nm 3) (.comp (.nm 2) [2] (.seq (.var 1)) .no (.call f__law_key (.cons (.var 0) (.cons (.ix (.var 2) (.int 0)) .nil)))))
  (.cons (.ret (.cmp .NotIn (.bl false) (.comp (.nm 4) [4] (.rng2 (.int 1) (.bi .len (.cons (.var 3) .nil))) .no (.cmp .Gt (.ix (.var 3) (.op .Sub (.var 4) (.int 1))) (.ix (.var 3) (.var 4))))))
  .nil))))
abbrev d__law_is_poly : Fd := ⟨2, 5, b__law_is_poly⟩
def b__law_values_fit : ISs := (.cons (.asg (.nm 4) (.call f_value_at (.cons (.var 1) (.cons (.var 3) .nil))))
  (.cons (.asg (.nm 5) (.call f_value_at (.cons (.var 2) (.cons (.var 3) .nil))))
  (.cons (.asg (.nm 6) (.lst (.cons (.call f__law_plus (.cons (.var 4) (.cons (.var 5) .nil))) (.cons (.call f__law_minus (.cons (.var 4) (.cons (.var 5) .nil))) (.cons (.call f__law_product (.cons (.var 4) (.cons (.var 5) .nil))) (.cons (.call f__law_product (.cons (.var 4) (.cons (.tup (.cons (.neg (.int 3)) (.cons (.int 2) .nil))) .nil))) .nil))))))
  (.cons (.expr (.me .append (.var 6) (.cons (.call f__law_product (.cons (.var 4) (.cons (.call f__law_product (.cons (.var 4) (.cons (.var 4) .nil))) .nil))) .nil)))
  (.cons (.asg (.nm 7) (.lst (.cons (.call f_add_poly (.cons (.var 0) (.cons (.var 1) (.cons (.var 2) .nil)))) (.cons (.call f_subtract_poly (.cons (.var 0) (.cons (.var 1) (.cons (.var 2) .nil)))) (.cons (.call f_multiply_poly (.cons (.var 0) (.cons (.var 1) (.cons (.var 2) .nil)))) (.cons (.call f_scale_poly (.cons (.var 0) (.cons (.var 1) (.cons (.tup (.cons (.neg (.int 3)) (.cons (.int 2) .nil))) .nil)))) .nil))))))
  (.cons (.expr (.me .append (.var 7) (.cons (.call f_power_poly (.cons (.var 0) (.cons (.var 1) (.cons (.int 3) .nil)))) .nil)))
  (.cons (.ite (.cmp .In (.bl false) (.comp (.nm 8) [8] (.seq (.var 7)) .no (.call f__law_is_poly (.cons (.var 0) (.cons (.var 8) .nil))))) (.cons (.ret (.bl false))
  .nil) .nil)
  (.cons (.ret (.call f__law_same (.cons (.comp (.nm 8) [8] (.seq (.var 7)) .no (.call f_value_at (.cons (.var 8) (.cons (.var 3) .nil)))) (.cons (.var 6) .nil))))
  .nil))))))))
abbrev d__law_values_fit : Fd := ⟨4, 9, b__law_values_fit⟩
def b__law_heads_fit : ISs := (.cons (.asg (.nm 3) (.call f_multiply_poly (.cons (.var 0) (.cons (.var 1) (.cons (.var 2) .nil)))))
  (.cons (.asg (.nm 4) (.call f_head_of (.cons (.var 1) .nil)))
  (.cons (.asg (.nm 5) (.call f_head_of (.cons (.var 2) .nil)))
  (.cons (.asg (.nm 6) (.tup (.cons (.call f__law_joined (.cons (.ix (.var 4) (.int 0)) (.cons (.ix (.var 5) (.int 0)) .nil))) (.cons (.call f__law_product (.cons (.ix (.var 4) (.int 1)) (.cons (.ix (.var 5) (.int 1)) .nil))) .nil))))
  (.cons (.ite (.or (.not (.call f__law_same (.cons (.call f_head_of (.cons (.var 3) .nil)) (.cons (.var 6) .nil)))) (.not (.call f__law_same (.cons (.call f_degree_of (.cons (.var 3) .nil)) (.cons (.op .Add (.call f_degree_of (.cons (.var 1) .nil)) (.call f_degree_of (.cons (.var 2) .nil))) .nil))))) (.cons (.ret (.bl false))
  .nil) .nil)
  (.cons (.ite (.cmp .In (.bl false) (.comp (.nm 7) [7] (.seq (.var 1)) .no (.call f__law_same (.cons (.call f_compare_powers (.cons (.var 0) (.cons (.ix (.var 4) (.int 0)) (.cons (.ix (.var 7) (.int 0)) .nil)))) (.cons (.bi .int (.cons (.cmp .NotEq (.var 7) (.ix (.var 1) (.int 0))) .nil)) .nil))))) (.cons (.ret (.bl false))
  .nil) .nil)
  (.cons (.ret (.call f__law_same (.cons (.call f_scale_poly (.cons (.var 0) (.cons (.call f_made_first (.cons (.var 0) (.cons (.var 1) .nil))) (.cons (.ix (.var 4) (.int 1)) .nil)))) (.cons (.var 1) .nil))))
  .nil)))))))
abbrev d__law_heads_fit : Fd := ⟨3, 8, b__law_heads_fit⟩
def b_law : ISs := (.cons (.asg (.nm 1) (.call f__law_draws (.cons (.var 0) (.cons (.int 400) .nil))))
  (.cons (.forr (.nm 2) (.rng1 (.int 3)) (.cons (.asg (.nm 3) (.op .Add (.int 1) (.call f__law_take (.cons (.var 1) (.cons (.int 3) .nil)))))
  (.cons (.asg (.nm 4) (.tup (.cons (.var 3) (.cons (.call f__law_order (.cons (.var 1) (.cons (.var 3) .nil))) .nil))))
  (.cons (.asg (.nm 5) (.tup (.cons (.var 3) (.cons (.call f__law_order (.cons (.var 1) (.cons (.var 3) .nil))) .nil))))
  (.cons (.asg (.nm 6) (.call f__law_drawn (.cons (.var 1) (.cons (.var 4) (.cons (.int 3) (.cons (.op .Add (.int 1) (.call f__law_take (.cons (.var 1) (.cons (.int 3) .nil)))) .nil))))))
  (.cons (.asg (.nm 7) (.call f__law_drawn (.cons (.var 1) (.cons (.var 4) (.cons (.int 2) (.cons (.op .Add (.int 1) (.call f__law_take (.cons (.var 1) (.cons (.int 4) .nil)))) .nil))))))
  (.cons (.asg (.nm 8) (.bi .tuple (.cons (.comp (.nm 16) [16] (.rng1 (.var 3)) .no (.call f__law_pick (.cons (.var 1) (.cons (.lst (.cons (.tup (.cons (.int 0) (.cons (.int 1) .nil))) (.cons (.tup (.cons (.int 1) (.cons (.int 1) .nil))) (.cons (.tup (.cons (.neg (.int 2)) (.cons (.int 1) .nil))) (.cons (.tup (.cons (.int 1) (.cons (.int 3) .nil))) (.cons (.tup (.cons (.int 5) (.cons (.int 7) .nil))) .nil)))))) .nil)))) .nil)))
  (.cons (.ite (.or (.not (.call f__law_values_fit (.cons (.var 4) (.cons (.var 6) (.cons (.var 7) (.cons (.var 8) .nil)))))) (.not (.call f__law_heads_fit (.cons (.var 4) (.cons (.var 6) (.cons (.var 7) .nil)))))) (.cons (.ret (.bl false))
  .nil) .nil)
  (.cons (.asg (.nm 9) (.bi .tuple (.cons (.comp (.nm 16) [16] (.rng1 (.var 3)) .no (.call f__law_drawn (.cons (.var 1) (.cons (.var 5) (.cons (.int 1) (.cons (.int 2) .nil)))))) .nil)))
  (.cons (.asg (.nm 10) (.bi .tuple (.cons (.comp (.nm 17) [17] (.seq (.var 9)) .no (.call f_value_at (.cons (.var 17) (.cons (.var 8) .nil)))) .nil)))
  (.cons (.ite (.not (.call f__law_same (.cons (.call f_value_at (.cons (.call f_put_in (.cons (.var 5) (.cons (.var 6) (.cons (.var 9) .nil)))) (.cons (.var 8) .nil))) (.cons (.call f_value_at (.cons (.var 6) (.cons (.var 10) .nil))) .nil)))) (.cons (.ret (.bl false))
  .nil) .nil)
  (.cons (.asg (.nm 11) (.call f_multiply_poly (.cons (.var 4) (.cons (.var 6) (.cons (.var 7) .nil)))))
  (.cons (.forr (.nm 12) (.rng1 (.var 3)) (.cons (.asg (.nm 13) (.lst (.cons (.call f_multiply_poly (.cons (.var 4) (.cons (.call f_derive (.cons (.var 4) (.cons (.var 6) (.cons (.var 12) .nil)))) (.cons (.var 7) .nil)))) (.cons (.call f_multiply_poly (.cons (.var 4) (.cons (.var 6) (.cons (.call f_derive (.cons (.var 4) (.cons (.var 7) (.cons (.var 12) .nil)))) .nil)))) .nil))))
  (.cons (.ite (.not (.call f__law_same (.cons (.call f_derive (.cons (.var 4) (.cons (.var 11) (.cons (.var 12) .nil)))) (.cons (.call f_add_poly (.cons (.var 4) (.cons (.ix (.var 13) (.int 0)) (.cons (.ix (.var 13) (.int 1)) .nil)))) .nil)))) (.cons (.ret (.bl false))
  .nil) .nil)
  .nil)))
  (.cons (.asg (.nm 14) (.bi .tuple (.cons (.comp (.nm 12) [12] (.rng1 (.var 3)) .no (.call f_unknown_poly (.cons (.var 5) (.cons (.var 12) .nil)))) .nil)))
  (.cons (.asg (.nm 15) (.call f_multiply_poly (.cons (.var 5) (.cons (.call f_turned_poly (.cons (.var 5) (.cons (.var 6) .nil))) (.cons (.call f_turned_poly (.cons (.var 5) (.cons (.var 7) .nil))) .nil)))))
  (.cons (.ite (.not (.call f__law_same (.cons (.lst (.cons (.call f_put_in (.cons (.var 5) (.cons (.var 11) (.cons (.var 14) .nil)))) (.cons (.call f_turned_poly (.cons (.var 4) (.cons (.var 15) .nil))) (.cons (.call f_ring_poly (.cons (.var 5) (.cons (.var 11) .nil))) .nil)))) (.cons (.lst (.cons (.var 15) (.cons (.var 11) (.cons (.var 15) .nil)))) .nil)))) (.cons (.ret (.bl false))
  .nil) .nil)
  (.cons (.ite (.not (.call f__law_same (.cons (.call f_subtract_poly (.cons (.var 4) (.cons (.var 11) (.cons (.var 11) .nil)))) (.cons (.call f_constant_poly (.cons (.var 4) (.cons (.tup (.cons (.int 0) (.cons (.int 1) .nil))) .nil))) .nil)))) (.cons (.ret (.bl false))
  .nil) .nil)
  .nil)))))))))))))))))
  (.cons (.ret (.bl true))
  .nil)))
abbrev d_law : Fd := ⟨1, 18, b_law⟩
abbrev fds : List Fd := [d_fraction, d_add, d_multiply, d_raised, d_zero_power, d_unit_power, d_power_product, d_total, d_back_key, d_part_of, d_dot, d_power_key, d_sorted_powers, d_poly_dict, d_dict_poly, d_put_member, d_put_product, d_ring_poly, d_turned_poly, d_constant_poly, d_unknown_poly, d_add_poly, d_scale_poly, d_subtract_poly, d_multiply_poly, d_power_poly, d_head_of, d_degree_of, d_derive, d_value_at, d_put_in, d_made_first, d_compare_powers, d__law_draws, d__law_take, d__law_pick, d__law_same, d__law_shuffled, d__law_is_int, d__law_gcd, d__law_frac, d__law_plus, d__law_minus, d__law_product, d__law_is_fraction, d__law_key, d__law_poly, d__law_joined, d__law_order, d__law_fraction, d__law_power, d__law_drawn, d__law_is_power, d__law_is_poly, d__law_values_fit, d__law_heads_fit, d_law]
def gl : Nat → D := fun g => match g with
  | _ => .non
end K05
end

section
set_option Elab.async false
set_option linter.all false
set_option maxRecDepth 100000
set_option maxHeartbeats 1000000
set_option exponentiation.threshold 20000
namespace K05
open PySem PySem.Spec L2 Dl
theorem atI_0 {α : Type} {a : α} {l : List α} : atI (a :: l) 0 = some a := atI_of (by omega) rfl
theorem atI_1 {α : Type} {a b : α} {l : List α} : atI (a :: b :: l) 1 = some b := atI_of (by omega) rfl
theorem atI_2 {α : Type} {a b c : α} {l : List α} : atI (a :: b :: c :: l) 2 = some c := atI_of (by omega) rfl
theorem w_eqS {x y : Str} {QB : Bool → Store → Prop} {S : Store} (hx : PyData.canLay0 (.str x) = true) (hy : PyData.canLay0 (.str y) = true) : wq (eqD (.str x) (.str y)) QB S = QB (decide (x = y)) S := by
  rw [w_eqD (by unfold D.bf; exact hx) (by unfold D.bf; exact hy) (Nat.zero_le _) (Nat.zero_le _)]
  congr 1
  simp only [D.str.injEq]
theorem w_eqTS {ds : List D} {y : Str} {QB : Bool → Store → Prop} {S : Store} (hx : D.bfs ds = true ∧ D.dps ds ≤ 60) (hy : PyData.canLay0 (.str y) = true) : wq (eqD (.tup ds) (.str y)) QB S = QB false S := by
  rw [w_eqD (by unfold D.bf; exact hx.1) (by unfold D.bf; exact hy) (by unfold D.dp; omega) (Nat.zero_le _)]
  congr 1
theorem ok_lex : PyData.canLay0 (.str "lex") = true := by decide +kernel
theorem wd_lex_lex : decide (("lex" : Str) = "lex") = true := by decide +kernel
theorem wd_lex_degree : decide (("lex" : Str) = "degree") = false := by decide +kernel
theorem wd_lex_back : decide (("lex" : Str) = "back") = false := by decide +kernel
theorem wd_lex_blocks : decide (("lex" : Str) = "blocks") = false := by decide +kernel
theorem wd_lex_weights : decide (("lex" : Str) = "weights") = false := by decide +kernel
theorem ok_degree : PyData.canLay0 (.str "degree") = true := by decide +kernel
theorem wd_degree_lex : decide (("degree" : Str) = "lex") = false := by decide +kernel
theorem wd_degree_degree : decide (("degree" : Str) = "degree") = true := by decide +kernel
theorem wd_degree_back : decide (("degree" : Str) = "back") = false := by decide +kernel
theorem wd_degree_blocks : decide (("degree" : Str) = "blocks") = false := by decide +kernel
theorem wd_degree_weights : decide (("degree" : Str) = "weights") = false := by decide +kernel
theorem ok_back : PyData.canLay0 (.str "back") = true := by decide +kernel
theorem wd_back_lex : decide (("back" : Str) = "lex") = false := by decide +kernel
theorem wd_back_degree : decide (("back" : Str) = "degree") = false := by decide +kernel
theorem wd_back_back : decide (("back" : Str) = "back") = true := by decide +kernel
theorem wd_back_blocks : decide (("back" : Str) = "blocks") = false := by decide +kernel
theorem wd_back_weights : decide (("back" : Str) = "weights") = false := by decide +kernel
theorem ok_blocks : PyData.canLay0 (.str "blocks") = true := by decide +kernel
theorem wd_blocks_lex : decide (("blocks" : Str) = "lex") = false := by decide +kernel
theorem wd_blocks_degree : decide (("blocks" : Str) = "degree") = false := by decide +kernel
theorem wd_blocks_back : decide (("blocks" : Str) = "back") = false := by decide +kernel
theorem wd_blocks_blocks : decide (("blocks" : Str) = "blocks") = true := by decide +kernel
theorem wd_blocks_weights : decide (("blocks" : Str) = "weights") = false := by decide +kernel
theorem ok_weights : PyData.canLay0 (.str "weights") = true := by decide +kernel
theorem wd_weights_lex : decide (("weights" : Str) = "lex") = false := by decide +kernel
theorem wd_weights_degree : decide (("weights" : Str) = "degree") = false := by decide +kernel
theorem wd_weights_back : decide (("weights" : Str) = "back") = false := by decide +kernel
theorem wd_weights_blocks : decide (("weights" : Str) = "blocks") = false := by decide +kernel
theorem wd_weights_weights : decide (("weights" : Str) = "weights") = true := by decide +kernel
local macro_rules | `(tactic| walk_at "dl") => `(tactic| simp (disch := first | assumption | exact get_new | (refine get_app ?_; first | assumption | exact get_new | (refine get_app ?_; first | assumption | exact get_new)) | (refine get_set ?_; assumption) | exact atI_0 | exact atI_1 | exact atI_2 | exact ok_lex | exact ok_degree | exact ok_back | exact ok_blocks | exact ok_weights) only [
  e_cB, e_fB, e_var, e_int, e_bl, e_non, e_str, e_glo, e_tup, e_lst, e_op, e_neg, e_not, e_and, e_or, e_cmp, e_chain, e_ite, e_ix, e_sl, e_rev, e_call, e_bi, e_me, e_isi, e_isis, e_comp, e_tupr, e_lstr, e_nil, e_cons, e_ono, e_oso, e_cno, e_cso, vt_and, vt_or, vt_not, vt_cmp, vt_chain, vt_var, vt_bl, vt_call, vt_bi, vt_isi, vt_isis, vi_seq, vi_rng1, vi_rng2, vi_zip, vg_nm, vg_tp, vg_ixs, gs_nil, gs_cons, x_asg, x_par, x_aug, x_expr, x_ret, x_retN, x_ite, x_for, x_whl, x_pass, x_brk, x_cnt, xs_nil, xs_cons, r_nx, r_rt, w_neg, w_tupr, w_lstr,
  TGs.len, wq_pure, List.getElem?_cons_zero, List.getElem?_cons_succ, List.set_cons_zero, List.set_cons_succ, List.length_cons, List.length_nil, List.length_map, if_true, Bool.false_eq_true, if_false, startE, List.map_cons, List.map_nil, List.replicate, List.cons_append, List.nil_append, wipeE, Nat.zero_add, Nat.reduceAdd, Nat.reduceSub, true_and,
  w_getL_ref, w_getS_ref, w_getL_ro, w_getS_ro, w_getS_tup, w_add, w_sub, w_mul, w_addT, w_addL, w_mulL, w_fdiv, w_mod, w_pow, w_shl, w_lt, w_le, w_gt, w_ge, w_ltT, w_gtT, w_eq, w_ne, w_isN, w_isnN, w_in, w_nin, w_trB, w_trN, w_trI, w_trT, w_trL, w_lenT, w_lenR, w_lenL, w_sumT, w_sumL, w_int, w_intB, w_tupL, w_listL, w_listT, w_append, w_pop, w_reverse, w_isL, w_revT, w_asInt, w_slR, w_srcT, w_srcR, w_srcL, w_rng, w_zipT, w_unpkT, w_unpkL, w_eqB, w_eqT, w_eqI, w_ixT, w_eqS, w_eqTS, Bool.not_true, Bool.not_false, decide_true, decide_false, wd_lex_lex, wd_lex_degree, wd_lex_back, wd_lex_blocks, wd_lex_weights, wd_degree_lex, wd_degree_degree, wd_degree_back, wd_degree_blocks, wd_degree_weights, wd_back_lex, wd_back_degree, wd_back_back, wd_back_blocks, wd_back_weights, wd_blocks_lex, wd_blocks_degree, wd_blocks_back, wd_blocks_blocks, wd_blocks_weights, wd_weights_lex, wd_weights_degree, wd_weights_back, wd_weights_blocks, wd_weights_weights])
theorem take_wq {n l : Nat} {m : Int} {S : Store} {Q : D → Store → Prop} (hd : Dw l S) (hm : 0 < m)
    (h : ∀ (r : Int) (S' : Store), 0 ≤ r → r < m → Dr l S S' → Q (.int r) S') : wq (call gl fds (n + 1) f__law_take [.ref l, .int m]) Q S := by
  obtain ⟨xs, hl⟩ := hd
  rw [wq_call (fd := d__law_take) rfl rfl]
  dsimp only [d__law_take]
  unfold b__law_take
  try walk_at "dl"
  rcases List.eq_nil_or_concat xs with rfl | ⟨ys, y, rfl⟩
  · exact h 0 S (by omega) hm (Dw.refl ⟨_, hl⟩)
  · rw [if_neg (by simp; omega)]
    rw [List.concat_eq_append, List.map_append, List.map_cons, List.map_nil] at hl
    try walk_at "dl"
    have hf : Fr [l] S (S.set l (.lst (ys.map .int))) := Fr.set .refl _ (.inl (by simp))
    refine ⟨decide_eq_true (by omega), h _ _ (Int.fmod_nonneg_of_pos _ hm) (Int.fmod_lt_of_pos _ hm) ⟨⟨ys, get_set hl⟩, hf⟩⟩
theorem pick_wq {n l r : Nat} {ds : List D} {S : Store} {Q : D → Store → Prop} (hd : Dw l S) (hr : S[r]? = some (.lst ds)) (hne : r ≠ l) (h0 : 0 < ds.length)
    (h : ∀ (d : D) (S' : Store), d ∈ ds → Dr l S S' → Q d S') : wq (call gl fds (n + 2) f__law_pick [.ref l, .ref r]) Q S := by
  rw [wq_call (fd := d__law_pick) rfl rfl]
  dsimp only [d__law_pick]
  unfold b__law_pick
  try walk_at "dl"
  refine take_wq hd (by omega) fun k S' k0 k1 k2 => ?_
  have hr' := k2.get hr hne
  have hk : k.toNat < ds.length := by omega
  rw [w_ixL hr' (atI_of k0 (List.getElem?_eq_getElem hk))]
  exact h _ _ (List.getElem_mem _) k2
def Rg (a b : Int) (p : List Int) : Prop := ∀ x ∈ p, a ≤ x ∧ x ≤ b
theorem Rg.set {a b : Int} {p : List Int} (h : Rg a b p) {i : Nat} {x : Int} (h1 : a ≤ x) (h2 : x ≤ b) : Rg a b (p.set i x) := fun y hy => by
  rcases List.mem_or_eq_of_mem_set hy with m | rfl
  · exact h y m
  · exact ⟨h1, h2⟩
theorem Rg.mono {a b a' b' : Int} {p : List Int} (h : Rg a b p) (h1 : a' ≤ a) (h2 : b ≤ b') : Rg a' b' p := fun y hy => by
  have := h y hy
  omega
theorem Rg.getD {a b : Int} {p : List Int} (h : Rg a b p) {i : Nat} (hi : i < p.length) : a ≤ p.getD i 0 ∧ p.getD i 0 ≤ b := h _ (Dl.getD_mem hi)
theorem perm_erase : ∀ {α : Type} (xs : List α) (k : Nat) (h : k < xs.length), List.Perm (xs[k] :: xs.eraseIdx k) xs
  | _, [], k, h => by simp at h
  | _, x :: xs, 0, h => by simp
  | _, x :: xs, k + 1, h => by
    simp only [List.getElem_cons_succ, List.eraseIdx_cons_succ]
    exact (List.Perm.swap _ _ _).trans ((perm_erase xs k (by simpa using h)).cons x)
theorem shuffled_wq {n l r : Nat} {ds : List D} {S : Store} {Q : D → Store → Prop} (hd : Dw l S) (hr : S[r]? = some (.lst ds)) (hne : r ≠ l) (hl : ds.length ≤ 1000)
    (h : ∀ (es : List D) (r' : Nat) (S' : Store), es.Perm ds → S.length ≤ r' → r' ≠ l → S'[r']? = some (.lst es) → Dr l S S' → Q (.ref r') S') : wq (call gl fds (n + 2) f__law_shuffled [.ref l, .ref r]) Q S := by
  rw [wq_call (fd := d__law_shuffled) rfl rfl]
  dsimp only [d__law_shuffled]
  unfold b__law_shuffled
  try walk_at "dl"
  refine ⟨by decide, by decide, by decide, small_rng (by omega), ?_⟩
  rw [rngItems_nat]
  have hlt := hd.lt
  have e1 : (S ++ [Ob.lst ds]).length = S.length + 1 := by simp
  refine forL_inv1 (e := fun (k : Nat) => D.int (k : Int)) (fun i e S' => Dr l S S' ∧ (∃ xs ys : List D, S'[S.length]? = some (.lst xs) ∧ S'[S.length + 1]? = some (.lst ys) ∧ (ys ++ xs).Perm ds ∧ ys.length = i) ∧ ∃ o4, e = [some (.ref l), some (.ref r), some (.ref S.length), some (.ref (S.length + 1)), o4]) (fun _ _ _ _ => Gd_none) ?_ ?_ ?_
  · refine ⟨(hd.refl.new _).new _, ⟨ds, [], get_app get_new, ?_, by simp, rfl⟩, none, ?_⟩
    · rw [← e1]; exact get_new
    · rw [e1]
  · rintro e S4 ⟨d4, ⟨xs, ys, g1, g2, pm, hy⟩, o4, rfl⟩
    try walk_at "dl"
    have hx : xs = [] := by
      have := pm.length_eq
      simp only [List.length_append, List.length_range] at this hy
      exact List.eq_nil_of_length_eq_zero (by omega)
    subst hx
    exact h ys _ S4 (by simpa using pm) (by omega) (by omega) g2 d4
  · rintro i x e S4 hx ⟨d4, ⟨xs, ys, g1, g2, pm, hy⟩, o4, rfl⟩
    try walk_at "dl"
    have hxl : 0 < xs.length := by
      have := pm.length_eq
      have hi := (List.getElem?_eq_some_iff.mp hx).1
      simp only [List.length_append, List.length_range] at this hi
      omega
    have hxx : xs.length ≤ 1000 := by
      have := pm.length_eq
      simp only [List.length_append] at this
      omega
    refine ⟨by decide, take_wq d4.d (by omega) fun k S5 k0 k1 d5 => ?_⟩
    have hk : k.toNat < xs.length := by omega
    have g1' := d5.get g1 (by omega)
    have g2' := d5.get g2 (by omega)
    rw [w_popAt g1' k0 hxx (List.getElem?_eq_getElem hk)]
    have d6 : Dr l S (S5.set S.length (.lst (xs.eraseIdx k.toNat))) := (d4.trans d5).set _ (by omega) (by omega)
    have g2'' : (S5.set S.length (.lst (xs.eraseIdx k.toNat)))[S.length + 1]? = some (.lst ys) := by rw [List.getElem?_set_ne (by omega)]; exact g2'
    have g1'' : (S5.set S.length (.lst (xs.eraseIdx k.toNat)))[S.length]? = some (.lst (xs.eraseIdx k.toNat)) := get_set g1'
    rw [w_append g2'']
    have hyl : ys.length < sizeLine := by
      have := pm.length_eq
      simp only [List.length_append] at this
      exact Nat.lt_of_lt_of_le (show ys.length < 1001 by omega) (by decide)
    refine ⟨hyl, d6.set _ (by omega) (by omega), ⟨xs.eraseIdx k.toNat, ys ++ [xs[k.toNat]], ?_, get_set g2'', ?_, by simp [hy]⟩, _, rfl⟩
    · rw [List.getElem?_set_ne (by omega)]; exact g1''
    · rw [List.append_assoc]
      refine List.Perm.trans (List.Perm.append_left ys ?_) pm
      exact perm_erase xs k.toNat hk
end K05
end

section
set_option Elab.async false
set_option linter.all false
set_option maxRecDepth 100000
set_option maxHeartbeats 1000000
set_option exponentiation.threshold 20000
namespace K05
open PySem PySem.Spec L2 Dl
local macro_rules | `(tactic| walk_at "dl") => `(tactic| simp (disch := first | assumption | exact get_new | (refine get_app ?_; first | assumption | exact get_new | (refine get_app ?_; first | assumption | exact get_new)) | (refine get_set ?_; assumption) | exact atI_0 | exact atI_1 | exact atI_2 | exact ok_lex | exact ok_degree | exact ok_back | exact ok_blocks | exact ok_weights) only [
  e_cB, e_fB, e_var, e_int, e_bl, e_non, e_str, e_glo, e_tup, e_lst, e_op, e_neg, e_not, e_and, e_or, e_cmp, e_chain, e_ite, e_ix, e_sl, e_rev, e_call, e_bi, e_me, e_isi, e_isis, e_comp, e_tupr, e_lstr, e_nil, e_cons, e_ono, e_oso, e_cno, e_cso, vt_and, vt_or, vt_not, vt_cmp, vt_chain, vt_var, vt_bl, vt_call, vt_bi, vt_isi, vt_isis, vi_seq, vi_rng1, vi_rng2, vi_zip, vg_nm, vg_tp, vg_ixs, gs_nil, gs_cons, x_asg, x_par, x_aug, x_expr, x_ret, x_retN, x_ite, x_for, x_whl, x_pass, x_brk, x_cnt, xs_nil, k_one, k_cons, k_rt, k_bk, k_ct, r_nx, r_rt, w_neg, w_tupr, w_lstr,
  TGs.len, wq_pure, List.getElem?_cons_zero, List.getElem?_cons_succ, List.set_cons_zero, List.set_cons_succ, List.length_cons, List.length_nil, List.length_map, if_true, Bool.false_eq_true, if_false, startE, List.map_cons, List.map_nil, List.replicate, List.cons_append, List.nil_append, wipeE, Nat.zero_add, Nat.reduceAdd, Nat.reduceSub, true_and,
  w_getL_ref, w_getS_ref, w_getL_ro, w_getS_ro, w_getS_tup, w_add, w_sub, w_mul, w_addT, w_addL, w_mulL, w_fdiv, w_mod, w_pow, w_shl, w_lt, w_le, w_gt, w_ge, w_ltT, w_gtT, w_eq, w_ne, w_isN, w_isnN, w_in, w_nin, w_trB, w_trN, w_trI, w_trT, w_trL, w_lenT, w_lenR, w_lenL, w_sumT, w_sumL, w_int, w_intB, w_tupL, w_listL, w_listT, w_append, w_pop, w_reverse, w_isL, w_revT, w_asInt, w_slR, w_srcT, w_srcR, w_srcL, w_rng, w_zipT, w_unpkT, w_unpkL, w_eqB, w_eqT, w_eqI, w_ixT, w_eqS, w_eqTS, Bool.not_true, Bool.not_false, decide_true, decide_false, wd_lex_lex, wd_lex_degree, wd_lex_back, wd_lex_blocks, wd_lex_weights, wd_degree_lex, wd_degree_degree, wd_degree_back, wd_degree_blocks, wd_degree_weights, wd_back_lex, wd_back_degree, wd_back_back, wd_back_blocks, wd_back_weights, wd_blocks_lex, wd_blocks_degree, wd_blocks_back, wd_blocks_blocks, wd_blocks_weights, wd_weights_lex, wd_weights_degree, wd_weights_back, wd_weights_blocks, wd_weights_weights])
local macro_rules | `(tactic| walk_at "nx") => `(tactic| (rw [k_nx]; try walk_at "dl"))
local macro_rules | `(tactic| walk_at "cj") => `(tactic| repeat refine And.intro (by first | decide | exact lens_of (by decide) | exact lens_of (by simp) | simp) ?_)
theorem fits_nat {i : Int} (h : i.natAbs < 2 ^ 8000) (j : Int) (h2 : j.natAbs < 2 ^ 8000) : mulFits i j = true := mulFits_of h h2
theorem natAbs_sub_lt {a b : Int} {e : Nat} (ha : a.natAbs < 2 ^ e) (hb : b.natAbs < 2 ^ e) : (a - b).natAbs < 2 ^ (e + 1) := by
  rw [Nat.pow_succ]
  generalize 2 ^ e = u at *
  omega
theorem natAbs_mul_lt {a b : Int} {e f : Nat} (ha : a.natAbs < 2 ^ e) (hb : b.natAbs < 2 ^ f) : (a * b).natAbs < 2 ^ (e + f) := by
  rw [Int.natAbs_mul, Nat.pow_add]
  exact Nat.mul_lt_mul'' ha hb
theorem pow_le {a : Nat} {e f : Nat} (h : a < 2 ^ e) (hf : e ≤ f) : a < 2 ^ f := Nat.lt_of_lt_of_le h (Nat.pow_le_pow_right (by omega) hf)
theorem gcd_wq {n : Nat} {a b : Int} {S : Store} {Q : D → Store → Prop} (ha : a.natAbs < 2 ^ 8000) (hb : b.natAbs < 2 ^ 8000) (h : Q (.int (Nat.gcd a.natAbs b.natAbs : Nat)) S) : wq (call gl fds (n + 1) f__law_gcd [.int a, .int b]) Q S := by
  rw [wq_call (fd := d__law_gcd) rfl rfl]
  dsimp only [d__law_gcd]
  unfold b__law_gcd
  have ab : ∀ i : Int, (if i < 0 then -i else i) = (i.natAbs : Int) := fun i => by split <;> omega
  walk_at "dl"
  rw [w_abs, ab]
  refine ⟨by decide, ?_⟩
  walk_at "nx"
  rw [w_abs, ab]
  refine ⟨by decide, ?_⟩
  walk_at "nx"
  refine ⟨by decide, ?_⟩
  rw [show rngItems 0 20000 = (List.range 20000).map fun (k : Nat) => D.int (k : Int) from rngItems_nat 20000]
  generalize hg : Nat.gcd a.natAbs b.natAbs = g at *
  have fin : ∀ (x : Nat), Nat.gcd x 0 = g → Q (.int (x : Int)) S := fun x hx => by
    rw [Nat.gcd_zero_right] at hx
    rw [hx]; exact h
  refine forL_inv1 (e := fun (k : Nat) => D.int (k : Int)) (fun i e S' => S' = S ∧ ∃ x y : Nat, Nat.gcd x y = g ∧ ((i = 0 ∧ x < 2 ^ 8000 ∧ y < 2 ^ 8000) ∨ (0 < i ∧ y < x ∧ x * y < 2 ^ (16001 - i))) ∧ ∃ o4 o5, e = [some (.int a), some (.int b), some (.int x), some (.int y), o4, o5]) (fun _ _ _ _ => Gd_none) ?_ ?_ ?_
  · exact ⟨rfl, a.natAbs, b.natAbs, hg, .inl ⟨rfl, ha, hb⟩, _, _, rfl⟩
  · rintro e S' ⟨rfl, x, y, h1, h2, o4, o5, rfl⟩
    rw [List.length_range] at h2
    walk_at "nx"
    have hy : y = 0 := by
      rcases h2 with ⟨e, _⟩ | ⟨_, h3, h4⟩
      · omega
      · rw [show 16001 - 20000 = 0 from rfl, Nat.pow_zero] at h4
        have : x * y = 0 := by omega
        rcases Nat.mul_eq_zero.mp this with e | e <;> omega
    subst hy
    exact fin x h1
  · rintro i k e S' hk ⟨rfl, x, y, h1, h2, o4, o5, rfl⟩
    have hi : i < 20000 := by
      have := (List.getElem?_eq_some_iff.mp hk).1
      rwa [List.length_range] at this
    walk_at "dl"
    refine ⟨by decide, ?_⟩
    by_cases hy : y = 0
    · subst hy
      rw [if_pos (by simp)]
      try walk_at "dl"
      try walk_at "nx"
      exact fin x h1
    · rw [if_neg (by simpa using hy)]
      try walk_at "dl"
      walk_at "nx"
      refine ⟨decide_eq_true (by omega), by decide, ?_⟩
      walk_at "nx"
      refine ⟨by decide, ?_⟩
      walk_at "nx"
      refine ⟨by decide, rfl, y, x % y, ?_, .inr ⟨by omega, Nat.mod_lt _ (by omega), ?_⟩, some (.int k), some (.int ((x : Int).fmod y)), ?_⟩
      · rw [Nat.gcd_comm, ← Nat.gcd_rec, Nat.gcd_comm]; exact h1
      · rcases h2 with ⟨rfl, h3, h4⟩ | ⟨h3, h4, h5⟩
        · have h6 : x % y ≤ x := Nat.mod_le _ _
          have h7 : y * (x % y) < 2 ^ 8000 * 2 ^ 8000 := Nat.mul_lt_mul'' h4 (by omega)
          rwa [← Nat.pow_add] at h7
        · obtain ⟨_, h6⟩ := euclid_half (show 0 < y by omega) h4
          by_cases hz : i ≤ 16000
          · have e : 16001 - i = (16001 - (i + 1)) + 1 := by omega
            rw [e, Nat.pow_succ] at h5
            omega
          · have e : 16001 - i = 0 := by omega
            have e2 : 16001 - (i + 1) = 0 := by omega
            rw [e, Nat.pow_zero] at h5
            rw [e2, Nat.pow_zero]
            omega
      · rw [Int.fmod_eq_emod_of_nonneg _ (by omega)]
        rfl
/-- n / d made least: the same value, not greater in its parts -/
theorem frac_wq {n : Nat} {a b : Int} {S : Store} {Q : D → Store → Prop} (ha : a.natAbs < 2 ^ 8000) (hb : b.natAbs < 2 ^ 8000) (hb0 : b ≠ 0)
    (h : ∀ c d : Int, 0 < d → c * b = a * d → c.natAbs ≤ a.natAbs → d.natAbs ≤ b.natAbs → Nat.gcd c.natAbs d.natAbs = 1 → Q (.tup [.int c, .int d]) S) : wq (call gl fds (n + 2) f__law_frac [.int a, .int b]) Q S := by
  rw [wq_call (fd := d__law_frac) rfl rfl]
  dsimp only [d__law_frac]
  unfold b__law_frac
  walk_at "dl"
  refine gcd_wq ha hb ?_
  rw [w_max]
  have hg0 : 0 < Nat.gcd a.natAbs b.natAbs := Nat.gcd_pos_of_pos_right _ (by omega)
  have hgb : Nat.gcd a.natAbs b.natAbs ≤ b.natAbs := Nat.gcd_le_right _ (by omega)
  have hda : (Nat.gcd a.natAbs b.natAbs) ∣ a.natAbs := Nat.gcd_dvd_left _ _
  have hdb : (Nat.gcd a.natAbs b.natAbs) ∣ b.natAbs := Nat.gcd_dvd_right _ _
  have hcop : Nat.gcd (a.natAbs / Nat.gcd a.natAbs b.natAbs) (b.natAbs / Nat.gcd a.natAbs b.natAbs) = 1 := by
    rw [Nat.gcd_div hda hdb, Nat.div_self hg0]
  generalize Nat.gcd a.natAbs b.natAbs = g at *
  rw [show (if (g : Int) > 1 then (g : Int) else 1) = g by split <;> omega]
  refine ⟨by decide, ?_⟩
  obtain ⟨x, hx⟩ : (g : Int) ∣ a := Int.ofNat_dvd_left.mpr hda
  obtain ⟨y, hy⟩ : (g : Int) ∣ b := Int.ofNat_dvd_left.mpr hdb
  have hgl : g.log2 < 9000 := log2_lt (Nat.lt_of_le_of_lt hgb (pow_le hb (by decide))) (by decide)
  have ha2 : a.natAbs = g * x.natAbs := by rw [hx, Int.natAbs_mul, Int.natAbs_natCast]
  have hb2 : b.natAbs = g * y.natAbs := by rw [hy, Int.natAbs_mul, Int.natAbs_natCast]
  rw [ha2, hb2, Nat.mul_div_cancel_left _ hg0, Nat.mul_div_cancel_left _ hg0] at hcop
  have hxl : x.natAbs ≤ a.natAbs := by rw [ha2]; exact Nat.le_mul_of_pos_left _ hg0
  have hyl : y.natAbs ≤ b.natAbs := by rw [hb2]; exact Nat.le_mul_of_pos_left _ hg0
  have hgi : (0 : Int) < g := by omega
  walk_at "nx"
  by_cases c : b < 0
  · rw [if_pos (decide_eq_true c)]
    try walk_at "dl"
    refine ⟨by decide, ?_⟩
    walk_at "nx"
    try rw [k_nx]
    try walk_at "dl"
    have hy0 : y < 0 := by
      rw [hy] at c
      exact Classical.byContradiction fun e => absurd (Int.mul_nonneg (show 0 ≤ (g : Int) by omega) (show 0 ≤ y by omega)) (by omega)
    have l1 : (0 - (g : Int)).natAbs.log2 < 9000 := by rw [show (0 - (g : Int)).natAbs = g by omega]; exact hgl
    have q1 : a.fdiv (0 - g) = -x := by
      rw [hx, show (g : Int) * x = (0 - g) * (-x) by rw [Int.zero_sub, Int.neg_mul_neg]]
      exact Int.mul_fdiv_cancel_left _ (by omega)
    have q2 : b.fdiv (0 - g) = -y := by
      rw [hy, show (g : Int) * y = (0 - g) * (-y) by rw [Int.zero_sub, Int.neg_mul_neg]]
      exact Int.mul_fdiv_cancel_left _ (by omega)
    have hd : (decide (0 - (g : Int) ≠ 0) && decide ((0 - (g : Int)).natAbs.log2 < 9000)) = true := by
      rw [decide_eq_true (show (0 - (g : Int)) ≠ 0 by omega), decide_eq_true l1]; rfl
    rw [q1, q2]
    refine ⟨hd, hd, lens_of (by decide), h _ _ (by omega) ?_ (by omega) (by omega) (by rw [Int.natAbs_neg, Int.natAbs_neg]; exact hcop)⟩
    rw [hx, hy]
    grind
  · rw [if_neg (by simpa using c)]
    walk_at "nx"
    have hy0 : 0 < y := by
      have : 0 < b := by omega
      rw [hy] at this
      exact Classical.byContradiction fun e => absurd (Int.mul_nonneg (show 0 ≤ (g : Int) by omega) (show 0 ≤ -y by omega)) (by rw [Int.mul_neg]; omega)
    have q1 : a.fdiv g = x := by
      rw [hx]
      exact Int.mul_fdiv_cancel_left _ (by omega)
    have q2 : b.fdiv g = y := by
      rw [hy]
      exact Int.mul_fdiv_cancel_left _ (by omega)
    have hd : (decide ((g : Int) ≠ 0) && decide ((g : Int).natAbs.log2 < 9000)) = true := by
      rw [decide_eq_true (show (g : Int) ≠ 0 by omega), decide_eq_true (show (g : Int).natAbs.log2 < 9000 by rw [Int.natAbs_natCast]; exact hgl)]; rfl
    rw [q1, q2]
    refine ⟨hd, hd, lens_of (by decide), h _ _ hy0 ?_ hxl hyl hcop⟩
    rw [hx, hy]
    grind
end K05
end

section
set_option Elab.async false
set_option linter.all false
set_option maxRecDepth 100000
set_option maxHeartbeats 1000000
set_option exponentiation.threshold 20000
namespace K05
open PySem PySem.Spec L2 Dl
local macro_rules | `(tactic| walk_at "dl") => `(tactic| simp (disch := first | assumption | exact get_new | (refine get_app ?_; first | assumption | exact get_new | (refine get_app ?_; first | assumption | exact get_new)) | (refine get_set ?_; assumption) | exact atI_0 | exact atI_1 | exact atI_2 | exact ok_lex | exact ok_degree | exact ok_back | exact ok_blocks | exact ok_weights) only [
  e_cB, e_fB, e_var, e_int, e_bl, e_non, e_str, e_glo, e_tup, e_lst, e_op, e_neg, e_not, e_and, e_or, e_cmp, e_chain, e_ite, e_ix, e_sl, e_rev, e_call, e_bi, e_me, e_isi, e_isis, e_comp, e_tupr, e_lstr, e_nil, e_cons, e_ono, e_oso, e_cno, e_cso, vt_and, vt_or, vt_not, vt_cmp, vt_chain, vt_var, vt_bl, vt_call, vt_bi, vt_isi, vt_isis, vi_seq, vi_rng1, vi_rng2, vi_zip, vg_nm, vg_tp, vg_ixs, gs_nil, gs_cons, x_asg, x_par, x_aug, x_expr, x_ret, x_retN, x_ite, x_for, x_whl, x_pass, x_brk, x_cnt, xs_nil, k_one, k_cons, k_rt, k_bk, k_ct, r_nx, r_rt, w_neg, w_tupr, w_lstr,
  TGs.len, wq_pure, List.getElem?_cons_zero, List.getElem?_cons_succ, List.set_cons_zero, List.set_cons_succ, List.length_cons, List.length_nil, List.length_map, if_true, Bool.false_eq_true, if_false, startE, List.map_cons, List.map_nil, List.replicate, List.cons_append, List.nil_append, wipeE, Nat.zero_add, Nat.reduceAdd, Nat.reduceSub, true_and,
  w_getL_ref, w_getS_ref, w_getL_ro, w_getS_ro, w_getS_tup, w_add, w_sub, w_mul, w_addT, w_addL, w_mulL, w_fdiv, w_mod, w_pow, w_shl, w_lt, w_le, w_gt, w_ge, w_ltT, w_gtT, w_eq, w_ne, w_isN, w_isnN, w_in, w_nin, w_trB, w_trN, w_trI, w_trT, w_trL, w_lenT, w_lenR, w_lenL, w_sumT, w_sumL, w_int, w_intB, w_tupL, w_listL, w_listT, w_append, w_pop, w_reverse, w_isL, w_revT, w_asInt, w_slR, w_srcT, w_srcR, w_srcL, w_rng, w_zipT, w_unpkT, w_unpkL, w_eqB, w_eqT, w_eqI, w_ixT, w_eqS, w_eqTS, Bool.not_true, Bool.not_false, decide_true, decide_false, wd_lex_lex, wd_lex_degree, wd_lex_back, wd_lex_blocks, wd_lex_weights, wd_degree_lex, wd_degree_degree, wd_degree_back, wd_degree_blocks, wd_degree_weights, wd_back_lex, wd_back_degree, wd_back_back, wd_back_blocks, wd_back_weights, wd_blocks_lex, wd_blocks_degree, wd_blocks_back, wd_blocks_blocks, wd_blocks_weights, wd_weights_lex, wd_weights_degree, wd_weights_back, wd_weights_blocks, wd_weights_weights])
local macro_rules | `(tactic| walk_at "nx") => `(tactic| (rw [k_nx]; try walk_at "dl"))
local macro_rules | `(tactic| walk_at "cj") => `(tactic| repeat refine And.intro (by first | decide | exact lens_of (by decide) | exact lens_of (by simp) | simp) ?_)
def dI (xs : List Int) : D := .tup (xs.map .int)
def dN (ks : List Nat) : D := .tup (ks.map fun (k : Nat) => D.int (k : Int))
theorem sub_map {α β : Type} {f : β → α} {xs : List β} : ∀ {es : List α}, (∀ e ∈ es, e ∈ xs.map f) → ∃ ys : List β, es = ys.map f ∧ ∀ y ∈ ys, y ∈ xs
  | [], _ => ⟨[], rfl, fun _ h => by cases h⟩
  | e :: es, h => by
    obtain ⟨ys, a, b⟩ := sub_map fun e he => h e (List.mem_cons_of_mem _ he)
    obtain ⟨y, hy, rfl⟩ := List.mem_map.mp (h e List.mem_cons_self)
    refine ⟨y :: ys, by rw [a, List.map_cons], fun z hz => ?_⟩
    rcases List.mem_cons.mp hz with rfl | hz
    · exact hy
    · exact b z hz
inductive Od where
  | lex | deg | back | blk (ks : List Nat) | wts (rows : List (List Int))
def Od.d : Od → D
  | .lex => .str "lex"
  | .deg => .str "degree"
  | .back => .str "back"
  | .blk ks => .tup [.str "blocks", dN ks]
  | .wts rows => .tup [.str "weights", .tup (rows.map dI)]
/-- a row that tells the k-th number alone -/
def UnitAt (m k : Nat) (r : List Int) : Prop := r.getD k 0 ≠ 0 ∧ ∀ j, j < m → j ≠ k → r.getD j 0 = 0
def WtsOk (m : Nat) (rows : List (List Int)) : Prop := ∃ lone, lone < m ∧ (∃ r ∈ rows, r.getD lone 0 ≠ 0) ∧ ∀ k, k < m → k ≠ lone → ∃ r ∈ rows, UnitAt m k r
def Od.ok (m : Nat) : Od → Prop
  | .blk ks => List.Sublist ks (List.range m)
  | .wts rows => (rows.length ≤ 100 ∧ ∀ r ∈ rows, r.length = m ∧ Rg (-100) 100 r) ∧ WtsOk m rows
  | _ => True
theorem dI_inj {a b : List Int} (h : dI a = dI b) : a = b := by
  unfold dI at h
  injection h with h
  exact map_int_inj.mp h
theorem order_wq {n l m : Nat} {S : Store} {Q : D → Store → Prop} (hd : Dw l S) (hm : 0 < m) (hm' : m ≤ 10)
    (h : ∀ (o : Od) (S' : Store), o.ok m → Dr l S S' → Q o.d S') : wq (call gl fds (n + 3) f__law_order [.ref l, .int m]) Q S := by
  rw [wq_call (fd := d__law_order) rfl rfl]
  dsimp only [d__law_order]
  unfold b__law_order
  walk_at "dl"
  refine ⟨lens_of (by decide), ?_⟩
  refine pick_wq (hd.new _) get_new (by have := hd.lt; omega) (by decide) fun d S2 hm2 d2 => ?_
  have d02 := (hd.refl.new _).trans d2
  clear d2
  simp only [List.mem_cons, List.not_mem_nil, or_false] at hm2
  have key : d = .str "lex" ∨ d = .str "degree" ∨ d = .str "back" ∨ d = .str "blocks" ∨ d = .str "weights" := by
    rcases hm2 with e | e | e | e | e | e | e <;> simp [e]
  clear hm2
  refine ⟨by decide, ?_⟩
  walk_at "nx"
  rcases key with rfl | rfl | rfl | rfl | rfl
  · walk_at "dl"
    walk_at "nx"
    exact h .lex S2 trivial d02
  · walk_at "dl"
    walk_at "nx"
    exact h .deg S2 trivial d02
  · walk_at "dl"
    walk_at "nx"
    exact h .back S2 trivial d02
  · walk_at "dl"
    refine ⟨small_rng (by omega), ?_⟩
    rw [rngItems_nat]
    refine compL_sub (e := fun (k : Nat) => D.int (k : Int)) (by simp; omega) (fun _ _ => Gd_none) d02.d (fun k hk S' a => ?_) fun ks S' sb a => ?_
    · walk_at "dl"
      refine ⟨by decide, ?_⟩
      try walk_at "dl"
      refine take_wq a.d (by decide) fun r S3 r0 r1 d3 => ?_
      try walk_at "dl"
      by_cases c : r = 0
      · rw [if_pos (decide_eq_true c)]
        exact ⟨by simp, d3⟩
      · rw [if_neg (by simpa using c)]
        exact ⟨by simp, d3⟩
    · refine ⟨lens_of (by decide), ?_⟩
      exact h (.blk ks) _ sb ((d02.trans a).new _)
  · walk_at "dl"
    walk_at "nx"
    walk_at "nx"
    refine ⟨small_rng (by omega), ?_⟩
    rw [rngItems_nat]
    refine compL_drw (e := fun (k : Nat) => D.int (k : Int)) (e2 := D.int) (R := fun _ y => 0 ≤ y ∧ y ≤ 99) (by simp; omega) (fun _ _ => Gd_none) d02.d (fun k hk S' a => ?_) fun first S3 hf1 hf2 a => ?_
    · walk_at "dl"
      refine ⟨by decide, lens_of (by decide), ?_⟩
      refine pick_wq (a.d.new _) get_new (by have := a.d.lt; omega) (by decide) fun d S4 hm4 d4 => ?_
      refine ⟨?_, (a.d.refl.new _).trans d4⟩
      simp only [List.mem_cons, List.not_mem_nil, or_false] at hm4
      rcases hm4 with rfl | rfl | rfl | rfl | rfl | rfl <;> exact ⟨_, rfl, by decide⟩
    have hfl : first.length = m := by simpa using hf1
    have hfr : Rg 0 100 first := fun y hy => by
      obtain ⟨i, hi, rfl⟩ := List.getElem_of_mem hy
      have := hf2 ((List.range m)[i]'(by simp; omega), first[i]) (by
        rw [List.mem_iff_getElem]
        exact ⟨i, by simp; omega, by simp⟩)
      simp only at this
      omega
    clear hf1 hf2
    have d3 := d02.trans a
    have hlt := hd.lt
    have hle := d3.f.le
    have hlt3 := a.d.lt
    refine ⟨by decide, ?_⟩
    have g3 : (S3 ++ [Ob.lst (first.map .int)])[S3.length]? = some (.lst (first.map .int)) := get_new
    have d4 := d3.new (Ob.lst (first.map .int))
    have hne : S3.length ≠ l := by omega
    have hrf : S.length ≤ S3.length := hle
    generalize S3.length = rf at *
    generalize (S3 ++ [Ob.lst (first.map .int)]) = S4 at *
    walk_at "nx"
    refine take_wq d4.d (by omega) fun lone S5 l0 l1 d5 => ?_
    have g5 := d5.get g3 hne
    have d05 := d4.trans d5
    try walk_at "dl"
    refine ⟨by decide, ?_⟩
    walk_at "nx"
    refine take_wq d5.d (by omega) fun v S6 v0 v1 d6 => ?_
    have g6 := d6.get g5 hne
    have d06 := d05.trans d6
    walk_at "dl"
    have hlone : lone.toNat < first.length := by omega
    rw [w_set g6 l0 (by simpa using hlone)]
    have g7 : (S6.set rf (.lst (List.set (first.map .int) lone.toNat (.int (1 + v)))))[rf]? = some (.lst ((first.set lone.toNat (1 + v)).map .int)) := by rw [get_set g6, List.map_set]
    have d07 := d06.set (.lst (List.set (first.map .int) lone.toNat (.int (1 + v)))) hrf hne
    have hfr7 : Rg 0 100 (first.set lone.toNat (1 + v)) := hfr.set (by omega) (by omega)
    have hfl7 : (first.set lone.toNat (1 + v)).length = m := by simpa using hfl
    have hfl0 : (first.set lone.toNat (1 + v)).getD lone.toNat 0 ≠ 0 := by
      rw [List.getD_eq_getElem?_getD, List.getElem?_set_self hlone]
      simp; omega
    generalize first.set lone.toNat (1 + v) = fst at *
    generalize (S6.set rf (.lst (List.set (first.map .int) lone.toNat (.int (1 + v))))) = S7 at *
    walk_at "nx"
    have hrf7 := lt_of_get g7
    refine ⟨lens_of (by decide), by decide, ?_⟩
    have g8 : (S7 ++ [Ob.lst []])[S7.length]? = some (.lst (([] : List (List Int)).map dI)) := get_new
    have g8f := get_app (o := Ob.lst []) g7
    have d08 := d07.new (Ob.lst [])
    have hne8 : S7.length ≠ l := by have := d07.d.lt; omega
    have hrr8 : S.length ≤ S7.length := d07.f.le
    have hfr8 : rf ≠ S7.length := by omega
    generalize S7.length = rr at *
    generalize (S7 ++ [Ob.lst []]) = S8 at *
    walk_at "nx"
    refine ⟨small_rng (by omega), ?_⟩
    rw [rngItems_nat]
    refine forL_inv1 (e := fun (k : Nat) => D.int (k : Int)) (fun i e S' => Dr l S S' ∧ S'[rf]? = some (.lst (fst.map .int)) ∧ (∃ rows : List (List Int), S'[rr]? = some (.lst (rows.map dI)) ∧ rows.length ≤ i ∧ (∀ r ∈ rows, r.length = m ∧ Rg (-100) 100 r) ∧ ∀ k, k < i → k ≠ lone.toNat → ∃ r ∈ rows, UnitAt m k r) ∧ ∃ o6 o7 o8, e = [some (.ref l), some (.int m), some (.str "weights"), some (.ref rf), some (.int lone), some (.ref rr), o6, o7, o8]) (fun _ _ _ _ => Gd_none) ?_ ?_ ?_
    · exact ⟨d08, g8f, ⟨[], g8, by simp, (fun r hr => by cases hr), (fun k hk => absurd hk (Nat.not_lt_zero _))⟩, _, _, _, rfl⟩
    · rintro e S9 ⟨d9, gf, ⟨rows, gr, hrl, hrw, hun⟩, o6, o7, o8, rfl⟩
      walk_at "nx"
      refine ⟨lens_of (by decide), shuffled_wq d9.d gr hne8 (by simp at hrl ⊢; omega) fun es r' S10 pm hr1 hr2 gr' d10 => ?_⟩
      walk_at "dl"
      obtain ⟨rows', rfl, hmem⟩ := sub_map (fun e he => pm.subset he)
      have hl' := pm.length_eq
      simp only [List.length_map, List.length_range] at hl' hrl
      refine ⟨lens_of (by simp; omega), lens_of (by decide), ?_⟩
      refine h (.wts (fst :: rows')) S10 ⟨⟨by simp; omega, fun r hr => ?_⟩, lone.toNat, by omega, ⟨fst, List.mem_cons_self, ?_⟩, fun k hk hkl => ?_⟩ (d9.trans d10)
      · rcases List.mem_cons.mp hr with rfl | hr
        · exact ⟨hfl7, hfr7.mono (by omega) (by omega)⟩
        · exact hrw r (hmem r hr)
      · exact hfl0
      · obtain ⟨r, hr, hu⟩ := hun k (by simpa using hk) hkl
        obtain ⟨y, hy, hyr⟩ := List.mem_map.mp (pm.symm.subset (List.mem_map_of_mem (f := dI) hr))
        exact ⟨y, List.mem_cons_of_mem _ hy, by rw [dI_inj hyr]; exact hu⟩
    · rintro i x e S9 hx ⟨d9, gf, ⟨rows, gr, hrl, hrw, hun⟩, o6, o7, o8, rfl⟩
      have hxm : x < m := by
        have := List.mem_of_getElem? hx
        simpa using this
      have him : i < m := by
        have := (List.getElem?_eq_some_iff.mp hx).1
        simpa using this
      have hxi : x = i := by
        rw [List.getElem?_range him] at hx
        exact (Option.some.inj hx).symm
      walk_at "dl"
      refine ⟨by decide, ?_⟩
      by_cases c : (x : Int) = lone
      · rw [if_neg (by simpa using c)]
        walk_at "nx"
        exact ⟨d9, gf, ⟨rows, gr, by omega, hrw, fun k hk hkl => hun k (by omega) hkl⟩, _, _, _, rfl⟩
      · rw [if_pos (by simpa using c)]
        refine take_wq d9.d (by decide) fun y S10 y0 y1 d10 => ?_
        have gf10 := d10.get gf hne
        have gr10 := d10.get gr hne8
        walk_at "dl"
        refine ⟨mulFits_of (fits_small (by omega) (by omega)) (fits_small (by omega) (by omega)), lens_of (by decide), ?_⟩
        rw [w_ixL (get_app gf10) (atI_ints (by omega)), w_eqI]
        have hsg : ∃ sg : Int, sg ≠ 0 ∧ -1 ≤ sg ∧ sg ≤ 1 ∧ atI [D.int (1 - 2 * y), D.int 1] (if decide (fst.getD x 0 = 0) = true then 1 else 0) = some (.int sg) := by
          split
          · exact ⟨1, by omega, by omega, by omega, atI_1⟩
          · exact ⟨1 - 2 * y, by omega, by omega, by omega, atI_0⟩
        obtain ⟨sg, sn, s0, s1, hsg⟩ := hsg
        rw [w_ixL get_new hsg]
        refine ⟨by decide, ?_⟩
        have d11 := (d9.trans d10).new (Ob.lst [D.int (1 - 2 * y), D.int 1])
        have gf11 := get_app (o := Ob.lst [D.int (1 - 2 * y), D.int 1]) gf10
        have gr11 := get_app (o := Ob.lst [D.int (1 - 2 * y), D.int 1]) gr10
        generalize (S10 ++ [Ob.lst [D.int (1 - 2 * y), D.int 1]]) = S11 at *
        walk_at "nx"
        refine ⟨small_rng (by omega), ?_⟩
        rw [rngItems_nat]
        refine compL_drw (e := fun (k : Nat) => D.int (k : Int)) (e2 := D.int) (R := fun j y => (-100 ≤ y ∧ y ≤ 100) ∧ (j = x → y ≠ 0) ∧ (j ≠ x → y = 0)) (by simp; omega) (fun _ _ => Gd_none) d11.d (fun j hj S' a => ?_) fun row S12 hf1 hf2 a => ?_
        · have hj := List.mem_range.mp hj
          walk_at "dl"
          refine ⟨by decide, take_wq a.d (by decide) fun r S13 r0 r1 d13 => ?_⟩
          walk_at "dl"
          have hr : sg * (1 + r) ≤ 3 ∧ -3 ≤ sg * (1 + r) := by
            have : sg = -1 ∨ sg = 0 ∨ sg = 1 := by omega
            rcases this with rfl | rfl | rfl <;> omega
          have hr0 : sg * (1 + r) ≠ 0 := by
            have : sg = -1 ∨ sg = 1 := by omega
            rcases this with rfl | rfl <;> omega
          refine ⟨mulFits_of (fits_small (by omega) (by omega)) (fits_small (by omega) (by omega)), mulFits_of (fits_small (by omega) (by omega)) (by split <;> exact fits_small (by omega) (by omega)), ⟨_, rfl, ?_⟩, d13⟩
          by_cases hjx : (j : Int) = (x : Int)
          · rw [if_pos (by simpa using hjx)]
            exact ⟨by omega, fun _ => by omega, fun z => absurd (by omega) z⟩
          · rw [if_neg (by simpa using hjx)]
            exact ⟨by omega, fun z => absurd (by omega) hjx, fun _ => by omega⟩
        · have hfl : row.length = m := by simpa using hf1
          have hfr : Rg (-100) 100 row := fun y hy => by
            obtain ⟨i, hi, rfl⟩ := List.getElem_of_mem hy
            have := hf2 ((List.range m)[i]'(by simp; omega), row[i]) (by
              rw [List.mem_iff_getElem]
              exact ⟨i, by simp; omega, by simp⟩)
            simp only at this
            omega
          have hru : UnitAt m x row := by
            have ent : ∀ j, j < m → (j = x → row.getD j 0 ≠ 0) ∧ (j ≠ x → row.getD j 0 = 0) := fun j hj => by
              have := hf2 ((List.range m)[j]'(by simp; omega), row[j]'(by omega)) (by
                rw [List.mem_iff_getElem]
                exact ⟨j, by simp; omega, by simp⟩)
              simp only [List.getElem_range] at this
              rw [List.getD_eq_getElem?_getD, List.getElem?_eq_getElem (show j < row.length by omega)]
              exact this.2
            exact ⟨(ent x hxm).1 rfl, fun j hj hjk => (ent j hj).2 hjk⟩
          have gf12 := a.get gf11 hne
          have gr12 := a.get gr11 hne8
          walk_at "dl"
          refine ⟨Nat.lt_of_le_of_lt (show rows.length ≤ 10 by omega) (by decide), ?_⟩
          walk_at "nx"
          walk_at "nx"
          refine ⟨((d11.trans a).new _).set _ hrr8 hne8, ?_, ⟨rows ++ [row], ?_, by simp; omega, ?_, ?_⟩, _, _, _, rfl⟩
          · rw [List.getElem?_set_ne (by omega)]
            exact get_app gf12
          · rw [get_set (get_app gr12)]
            simp [dI]
          · intro r hr
            rcases List.mem_append.mp hr with hr | hr
            · exact hrw r hr
            · rw [List.mem_singleton.mp hr]
              exact ⟨hfl, hfr⟩
          · intro k hk hkl
            by_cases hki : k = i
            · exact ⟨row, by simp, by rw [hki, ← hxi]; exact hru⟩
            · obtain ⟨r, hr, hu⟩ := hun k (by omega) hkl
              exact ⟨r, by simp [hr], hu⟩
end K05
end

section
set_option Elab.async false
set_option linter.all false
set_option maxRecDepth 100000
set_option maxHeartbeats 1000000
set_option exponentiation.threshold 20000
namespace K05
open PySem PySem.Spec L2 Dl
local macro_rules | `(tactic| walk_at "dl") => `(tactic| simp (disch := first | assumption | exact get_new | (refine get_app ?_; first | assumption | exact get_new | (refine get_app ?_; first | assumption | exact get_new)) | (refine get_set ?_; assumption) | exact atI_0 | exact atI_1 | exact atI_2 | exact ok_lex | exact ok_degree | exact ok_back | exact ok_blocks | exact ok_weights) only [
  e_cB, e_fB, e_var, e_int, e_bl, e_non, e_str, e_glo, e_tup, e_lst, e_op, e_neg, e_not, e_and, e_or, e_cmp, e_chain, e_ite, e_ix, e_sl, e_rev, e_call, e_bi, e_me, e_isi, e_isis, e_comp, e_tupr, e_lstr, e_nil, e_cons, e_ono, e_oso, e_cno, e_cso, vt_and, vt_or, vt_not, vt_cmp, vt_chain, vt_var, vt_bl, vt_call, vt_bi, vt_isi, vt_isis, vi_seq, vi_rng1, vi_rng2, vi_zip, vg_nm, vg_tp, vg_ixs, gs_nil, gs_cons, x_asg, x_par, x_aug, x_expr, x_ret, x_retN, x_ite, x_for, x_whl, x_pass, x_brk, x_cnt, xs_nil, k_one, k_cons, k_rt, k_bk, k_ct, r_nx, r_rt, w_neg, w_tupr, w_lstr,
  TGs.len, wq_pure, List.getElem?_cons_zero, List.getElem?_cons_succ, List.set_cons_zero, List.set_cons_succ, List.length_cons, List.length_nil, List.length_map, if_true, Bool.false_eq_true, if_false, startE, List.map_cons, List.map_nil, List.replicate, List.cons_append, List.nil_append, wipeE, Nat.zero_add, Nat.reduceAdd, Nat.reduceSub, true_and,
  w_getL_ref, w_getS_ref, w_getL_ro, w_getS_ro, w_getS_tup, w_add, w_sub, w_mul, w_addT, w_addL, w_mulL, w_fdiv, w_mod, w_pow, w_shl, w_lt, w_le, w_gt, w_ge, w_ltT, w_gtT, w_eq, w_ne, w_isN, w_isnN, w_in, w_nin, w_trB, w_trN, w_trI, w_trT, w_trL, w_lenT, w_lenR, w_lenL, w_sumT, w_sumL, w_int, w_intB, w_tupL, w_listL, w_listT, w_append, w_pop, w_reverse, w_isL, w_revT, w_asInt, w_slR, w_srcT, w_srcR, w_srcL, w_rng, w_zipT, w_unpkT, w_unpkL, w_eqB, w_eqT, w_eqI, w_ixT, w_eqS, w_eqTS, Bool.not_true, Bool.not_false, decide_true, decide_false, wd_lex_lex, wd_lex_degree, wd_lex_back, wd_lex_blocks, wd_lex_weights, wd_degree_lex, wd_degree_degree, wd_degree_back, wd_degree_blocks, wd_degree_weights, wd_back_lex, wd_back_degree, wd_back_back, wd_back_blocks, wd_back_weights, wd_blocks_lex, wd_blocks_degree, wd_blocks_back, wd_blocks_blocks, wd_blocks_weights, wd_weights_lex, wd_weights_degree, wd_weights_back, wd_weights_blocks, wd_weights_weights])
local macro_rules | `(tactic| walk_at "nx") => `(tactic| (rw [k_nx]; try walk_at "dl"))
local macro_rules | `(tactic| walk_at "cj") => `(tactic| repeat refine And.intro (by first | decide | exact lens_of (by decide) | exact lens_of (by simp) | simp) ?_)
def bkey (p : List Int) : List Int := p.sum :: p.reverse.map (fun x => -x)
def part (ks : List Nat) (b : Bool) (p : List Int) : List Int := ((List.range p.length).filter fun k => decide (k ∈ ks) == b).map fun k => p.getD k 0
def dotP (r p : List Int) : Int := ((r.zip p).map fun q => q.1 * q.2).sum
def pkey (o : Od) (p : List Int) : List Int := match o with
  | .lex => p
  | .deg => p.sum :: p
  | .back => bkey p
  | .blk ks => bkey (part ks true p) ++ bkey (part ks false p)
  | .wts rows => rows.map fun r => dotP r p
theorem back_key_wq {n : Nat} {p : List Int} {S : Store} {Q : D → Store → Prop} (hl : p.length ≤ 100) (h : ∀ S', Fr [] S S' → Q (.tup ((bkey p).map .int)) S') : wq (call gl fds (n + 1) f_back_key [.tup (p.map .int)]) Q S := by
  rw [wq_call (fd := d_back_key) rfl rfl]
  dsimp only [d_back_key]
  unfold b_back_key
  walk_at "dl"
  refine ⟨lens_of (by decide), ?_⟩
  rw [← List.map_reverse]
  refine compL_tot (e := D.int) (fun x => D.int (-x)) (by simp; omega) (fun _ _ => Gd_none) (fun x hx S' a => ?_) fun S' a => ?_
  · walk_at "dl"
    exact ⟨by decide, .refl⟩
  · try walk_at "dl"
    refine ⟨lens_of (by simp; omega), ?_⟩
    have e : bkey p = p.sum :: p.reverse.map (fun x => -x) := rfl
    have := h _ (a.new (.lst (p.reverse.map fun x => D.int (-x))))
    rw [e, List.map_cons, List.map_map] at this
    exact this
theorem inF_nats (k : Nat) : ∀ ks : List Nat, inF (.int k) (ks.map fun (j : Nat) => D.int (j : Int)) = decide (k ∈ ks)
  | [] => by simp [inF]
  | j :: js => by
    have := inF_nats k js
    unfold inF at *
    rw [List.map_cons, List.any_cons, this]
    simp only [eqF, List.mem_cons]
    by_cases e : k = j
    · subst e; simp
    · have : ((j : Int) == (k : Int)) = false := by simp; omega
      rw [this]
      simp [e]
theorem flat_nats : ∀ ks : List Nat, (ks.map fun (j : Nat) => D.int (j : Int)).all flat = true
  | [] => rfl
  | j :: js => by
    rw [List.map_cons, List.all_cons, flat_nats js]
    rfl
theorem filterMap_fm {α β : Type} (c : α → Bool) (g : α → β) : ∀ xs : List α, xs.filterMap (fun x => if c x = true then some (g x) else none) = (xs.filter c).map g
  | [] => rfl
  | x :: xs => by
    rw [List.filterMap_cons, filterMap_fm c g xs]
    cases e : c x <;> simp [e]
theorem part_of_wq {n : Nat} {p : List Int} {ks : List Nat} {b : Bool} {S : Store} {Q : D → Store → Prop} (hl : p.length ≤ 100) (h : ∀ S', Fr [] S S' → Q (.tup ((part ks b p).map .int)) S') : wq (call gl fds (n + 1) f_part_of [.tup (p.map .int), dN ks, .bl b]) Q S := by
  unfold dN
  rw [wq_call (fd := d_part_of) rfl rfl]
  dsimp only [d_part_of]
  unfold b_part_of
  walk_at "dl"
  refine ⟨small_rng (by omega), ?_⟩
  rw [rngItems_nat]
  refine compL_filt (e := fun (k : Nat) => D.int (k : Int)) (fun k => if (decide (k ∈ ks) == b) = true then some (.int (p.getD k 0)) else none) (by simp; omega) (fun _ _ => Gd_none) (fun k hk S' a => ?_) fun S' a => ?_
  · have hk := List.mem_range.mp hk
    walk_at "dl"
    rw [flat_nats, inF_nats]
    refine ⟨by decide, rfl, ?_⟩
    cases c : (decide (k ∈ ks) == b) with
    | true =>
      rw [if_pos rfl, w_ixT (atI_ints hk), if_pos rfl]
      exact ⟨rfl, .refl⟩
    | false =>
      rw [if_neg (by decide), if_neg (by decide)]
      exact ⟨rfl, .refl⟩
  · try walk_at "dl"
    have e : (List.range p.length).filterMap (fun k => if (decide (k ∈ ks) == b) = true then some (D.int (p.getD k 0)) else none) = (part ks b p).map .int := by
      rw [filterMap_fm (fun k => decide (k ∈ ks) == b) (fun k => D.int (p.getD k 0))]
      unfold part
      rw [List.map_map]
      rfl
    rw [e]
    exact h _ (a.new _)
theorem dot_wq {n : Nat} {r p : List Int} {S : Store} {Q : D → Store → Prop} (hl : p.length ≤ 100) (hr : Rg (-1000) 1000 r) (hp : Rg (-1000) 1000 p) (h : ∀ S', Fr [] S S' → Q (.int (dotP r p)) S') : wq (call gl fds (n + 1) f_dot [.tup (r.map .int), .tup (p.map .int)]) Q S := by
  rw [wq_call (fd := d_dot) rfl rfl]
  dsimp only [d_dot]
  unfold b_dot
  walk_at "dl"
  have e : ((r.map D.int).zip (p.map D.int)).map (fun q => D.tup [q.1, q.2]) = (r.zip p).map fun q => D.tup [D.int q.1, D.int q.2] := by
    rw [List.zip_map, List.map_map]
    rfl
  rw [e]
  refine compL_tot (e := fun (q : Int × Int) => D.tup [D.int q.1, D.int q.2]) (fun q => D.int (q.1 * q.2)) (by rw [List.length_zip]; omega) (fun _ _ => Gd_none) (fun q hq S' a => ?_) fun S' a => ?_
  · have h1 := hr q.1 (List.of_mem_zip hq).1
    have h2 := hp q.2 (List.of_mem_zip hq).2
    walk_at "dl"
    exact ⟨by decide, by decide, mulFits_of (fits_small (by omega) (by omega)) (fits_small (by omega) (by omega)), .refl⟩
  · have e : (r.zip p).map (fun q => D.int (q.1 * q.2)) = ((r.zip p).map fun q => q.1 * q.2).map .int := by rw [List.map_map]; rfl
    rw [e, w_sumL get_new]
    exact h _ (a.new _)
theorem blk_bf (ks : List Nat) : D.bfs [.str "blocks", dN ks] = true ∧ D.dps [.str "blocks", dN ks] ≤ 60 := by
  have e : dN ks = .tup ((ks.map fun (k : Nat) => (k : Int)).map .int) := by unfold dN; rw [List.map_map]; rfl
  rw [e]
  refine ⟨?_, ?_⟩
  · simp only [D.bfs, D.bf, bfs_ints, Bool.and_true]
    exact ok_blocks
  · simp only [D.dps, D.dp, dps_ints]
    omega
theorem rows_bf : ∀ rows : List (List Int), D.bfs (rows.map dI) = true ∧ D.dps (rows.map dI) ≤ 1
  | [] => ⟨rfl, by decide⟩
  | r :: rows => by
    have := rows_bf rows
    refine ⟨?_, ?_⟩
    · rw [List.map_cons]
      simp only [dI, D.bfs, D.bf, bfs_ints, Bool.true_and]
      exact this.1
    · rw [List.map_cons]
      simp only [dI, D.dps, D.dp, dps_ints]
      have := this.2
      unfold dI at this
      omega
theorem wts_bf (rows : List (List Int)) : D.bfs [.str "weights", .tup (rows.map dI)] = true ∧ D.dps [.str "weights", .tup (rows.map dI)] ≤ 60 := by
  have := rows_bf rows
  refine ⟨?_, ?_⟩
  · simp only [D.bfs, D.bf, this.1, Bool.and_true]
    exact ok_weights
  · simp only [D.dps, D.dp]
    omega
theorem power_key_wq {n m : Nat} {o : Od} {p : List Int} {S : Store} {Q : D → Store → Prop} (ho : o.ok m) (hpl : p.length = m) (hm : m ≤ 10) (hp : Rg (-1000) 1000 p) (h : ∀ S', Fr [] S S' → Q (.tup ((pkey o p).map .int)) S') : wq (call gl fds (n + 2) f_power_key [.tup [.int m, o.d], .tup (p.map .int)]) Q S := by
  rw [wq_call (fd := d_power_key) rfl rfl]
  dsimp only [d_power_key]
  unfold b_power_key
  walk_at "dl"
  refine ⟨by decide, ?_⟩
  walk_at "nx"
  cases o with
  | lex =>
    simp only [Od.d]
    walk_at "dl"
    walk_at "nx"
    exact h S .refl
  | deg =>
    simp only [Od.d]
    walk_at "dl"
    walk_at "nx"
    walk_at "nx"
    exact ⟨lens_of (by decide), lens_of (by omega), h S .refl⟩
  | back =>
    simp only [Od.d]
    walk_at "dl"
    exact back_key_wq (by omega) fun S' a => by
      try walk_at "dl"
      exact h S' a
  | blk ks =>
    have hb := blk_bf ks
    simp only [Od.d]
    walk_at "dl"
    walk_at "nx"
    walk_at "nx"
    walk_at "nx"
    refine part_of_wq (by omega) fun S1 a1 => ?_
    have hl1 : ∀ b, (part ks b p).length ≤ 100 := fun b => by
      unfold part
      rw [List.length_map]
      refine Nat.le_trans (List.length_filter_le _ _) ?_
      simp; omega
    refine back_key_wq (hl1 _) fun S2 a2 => ?_
    try walk_at "dl"
    refine part_of_wq (by omega) fun S3 a3 => ?_
    refine back_key_wq (hl1 _) fun S4 a4 => ?_
    try walk_at "dl"
    refine ⟨lens_of ?_, ?_⟩
    · have := hl1 true
      have := hl1 false
      simp only [bkey, List.length_map, List.length_cons, List.length_reverse]
      omega
    · have := h S4 (((a1.trans a2).trans a3).trans a4)
      simp only [pkey, List.map_append] at this
      exact this
  | wts rows =>
    have hb := wts_bf rows
    simp only [Od.d]
    walk_at "dl"
    walk_at "nx"
    walk_at "nx"
    walk_at "nx"
    walk_at "nx"
    refine compL_tot (e := dI) (fun r => D.int (dotP r p)) (by have := ho.1.1; omega) (fun _ _ => Gd_none) (fun r hr S' a => ?_) fun S' a => ?_
    · unfold dI
      walk_at "dl"
      refine ⟨by decide, dot_wq (by omega) ((ho.1.2 r hr).2.mono (by omega) (by omega)) hp fun S2 a2 => ?_⟩
      exact ⟨rfl, a2⟩
    · try walk_at "dl"
      have := h _ (a.new (.lst (rows.map fun r => D.int (dotP r p))))
      simp only [pkey, List.map_map] at this
      exact this
end K05
end

section
set_option Elab.async false
set_option linter.all false
set_option maxRecDepth 100000
set_option maxHeartbeats 1000000
set_option exponentiation.threshold 20000
namespace K05
open PySem PySem.Spec L2 Dl
local macro_rules | `(tactic| walk_at "dl") => `(tactic| simp (disch := first | assumption | exact get_new | (refine get_app ?_; first | assumption | exact get_new | (refine get_app ?_; first | assumption | exact get_new)) | (refine get_set ?_; assumption) | exact atI_0 | exact atI_1 | exact atI_2 | exact ok_lex | exact ok_degree | exact ok_back | exact ok_blocks | exact ok_weights) only [
  e_cB, e_fB, e_var, e_int, e_bl, e_non, e_str, e_glo, e_tup, e_lst, e_op, e_neg, e_not, e_and, e_or, e_cmp, e_chain, e_ite, e_ix, e_sl, e_rev, e_call, e_bi, e_me, e_isi, e_isis, e_comp, e_tupr, e_lstr, e_nil, e_cons, e_ono, e_oso, e_cno, e_cso, vt_and, vt_or, vt_not, vt_cmp, vt_chain, vt_var, vt_bl, vt_call, vt_bi, vt_isi, vt_isis, vi_seq, vi_rng1, vi_rng2, vi_zip, vg_nm, vg_tp, vg_ixs, gs_nil, gs_cons, x_asg, x_par, x_aug, x_expr, x_ret, x_retN, x_ite, x_for, x_whl, x_pass, x_brk, x_cnt, xs_nil, k_one, k_cons, k_rt, k_bk, k_ct, r_nx, r_rt, w_neg, w_tupr, w_lstr,
  TGs.len, wq_pure, List.getElem?_cons_zero, List.getElem?_cons_succ, List.set_cons_zero, List.set_cons_succ, List.length_cons, List.length_nil, List.length_map, if_true, Bool.false_eq_true, if_false, startE, List.map_cons, List.map_nil, List.replicate, List.cons_append, List.nil_append, wipeE, Nat.zero_add, Nat.reduceAdd, Nat.reduceSub, true_and,
  w_getL_ref, w_getS_ref, w_getL_ro, w_getS_ro, w_getS_tup, w_add, w_sub, w_mul, w_addT, w_addL, w_mulL, w_fdiv, w_mod, w_pow, w_shl, w_lt, w_le, w_gt, w_ge, w_ltT, w_gtT, w_eq, w_ne, w_isN, w_isnN, w_in, w_nin, w_trB, w_trN, w_trI, w_trT, w_trL, w_lenT, w_lenR, w_lenL, w_sumT, w_sumL, w_int, w_intB, w_tupL, w_listL, w_listT, w_append, w_pop, w_reverse, w_isL, w_revT, w_asInt, w_slR, w_srcT, w_srcR, w_srcL, w_rng, w_zipT, w_unpkT, w_unpkL, w_eqB, w_eqT, w_eqI, w_ixT, w_eqS, w_eqTS, Bool.not_true, Bool.not_false, decide_true, decide_false, wd_lex_lex, wd_lex_degree, wd_lex_back, wd_lex_blocks, wd_lex_weights, wd_degree_lex, wd_degree_degree, wd_degree_back, wd_degree_blocks, wd_degree_weights, wd_back_lex, wd_back_degree, wd_back_back, wd_back_blocks, wd_back_weights, wd_blocks_lex, wd_blocks_degree, wd_blocks_back, wd_blocks_blocks, wd_blocks_weights, wd_weights_lex, wd_weights_degree, wd_weights_back, wd_weights_blocks, wd_weights_weights])
local macro_rules | `(tactic| walk_at "nx") => `(tactic| (rw [k_nx]; try walk_at "dl"))
local macro_rules | `(tactic| walk_at "cj") => `(tactic| repeat refine And.intro (by first | decide | exact lens_of (by decide) | exact lens_of (by simp) | simp) ?_)
theorem map_getD : ∀ p : List Int, (List.range p.length).map (fun k => p.getD k 0) = p := fun p => by
  refine List.ext_getElem (by simp) fun i h1 h2 => ?_
  simp only [List.getElem_map, List.getElem_range]
  rw [List.getD_eq_getElem?_getD, List.getElem?_eq_getElem h2]
  rfl
theorem rngOk_of {m : Nat} (h : m ≤ 10) : rngOk (m : Int) = true := by
  unfold rngOk
  rw [small62_of (by omega) (by omega), decide_eq_true (by omega)]
  rfl
theorem w_ixBack {Q : D → Store → Prop} {S : Store} : wq (ixD (.str "back") (.int 0)) Q S = Q (.str "b") S := wq_l (by rfl)
theorem ok_b : PyData.canLay0 (.str "b") = true := by decide +kernel
theorem dot_range {m : Nat} {r p : List Int} (h1 : r.length = m) (h2 : p.length = m) : ((List.range m).map fun k => r.getD k 0 * p.getD k 0).sum = dotP r p := by
  unfold dotP
  congr 1
  refine List.ext_getElem (by simp [h1, h2]) fun i a b => ?_
  simp only [List.length_map, List.length_range] at a
  simp only [List.getElem_map, List.getElem_range, List.getElem_zip]
  rw [List.getD_eq_getElem?_getD, List.getD_eq_getElem?_getD, List.getElem?_eq_getElem (show i < r.length by omega), List.getElem?_eq_getElem (show i < p.length by omega)]
  rfl
def lparts (p : List Int) (parts : List (List Nat)) : List Int := (parts.map fun ks => bkey (ks.map fun k => p.getD k 0)).flatten
theorem lkey_wq {n m : Nat} {o : Od} {p : List Int} {S : Store} {Q : D → Store → Prop} (ho : o.ok m) (hpl : p.length = m) (hm : m ≤ 10) (hp : Rg (-1000) 1000 p) (h : ∀ S', Fr [] S S' → Q (.tup ((pkey o p).map .int)) S') : wq (call gl fds (n + 1) f__law_key [.tup [.int m, o.d], .tup (p.map .int)]) Q S := by
  rw [wq_call (fd := d__law_key) rfl rfl]
  dsimp only [d__law_key]
  unfold b__law_key
  have key : ∀ (parts : List (List Nat)) (S3 : Store) (rp : Nat), Fr [] S S3 → S3[rp]? = some (.lst (parts.map dN)) → parts.length ≤ 2 → (∀ ks ∈ parts, ks.length ≤ m ∧ ∀ k ∈ ks, k < m) → pkey o p = lparts p parts →
      wq (exs gl (Dl.call gl fds n) (ISs.cons (.asg (.nm 5) (.tup .nil))
  (.cons (.forr (.nm 6) (.seq (.var 4)) (.cons (.asg (.nm 5) (.op .Add (.op .Add (.var 5) (.tup (.cons (.bi .sum (.cons (.comp (.nm 8) [8] (.seq (.var 6)) .no (.ix (.var 1) (.var 8))) .nil)) .nil))) (.bi .tuple (.cons (.comp (.nm 8) [8] (.seq (.rev (.var 6))) .no (.op .Sub (.int 0) (.ix (.var 1) (.var 8)))) .nil))))
  .nil))
  (.cons (.ret (.var 5))
  .nil))) [some (.tup [.int m, o.d]), some (.tup (p.map .int)), some (.int m), some o.d, some (.ref rp), none, none, none, none]) (fun r S' => wq (ofFl r) Q S') S3 := by
    intro parts S3 rp f3 g3 hpn hks hpk
    walk_at "dl"
    refine ⟨lens_of (by decide), by decide, ?_⟩
    walk_at "nx"
    refine forL_gen (e := dN) (fun done rest e S' => Fr [] S S' ∧ Fr [] S3 S' ∧ ∃ o6 o7 o8, e = [some (.tup [.int m, o.d]), some (.tup (p.map .int)), some (.int m), some o.d, some (.ref rp), some (.tup ((lparts p done).map .int)), o6, o7, o8] ∧ (lparts p done).length ≤ 20 * done.length) ?_ ?_ ?_ ?_
    · rintro a b e S' ⟨_, f, _⟩
      exact Gd_ref (f.get _ _ (by simp) g3)
    · exact ⟨f3, .refl, none, none, none, rfl, Nat.le_refl _⟩
    · rintro e S' ⟨f, _, o6, o7, o8, rfl, _⟩
      walk_at "nx"
      rw [← hpk]
      exact h S' f
    · rintro done ks rest e S4 hd ⟨f4, f34, o6, o7, o8, rfl, hln⟩
      have hk := hks ks (by rw [hd]; simp)
      have hdl : done.length ≤ 2 := by rw [hd] at hpn; simp at hpn; omega
      walk_at "dl"
      refine ⟨by decide, ?_⟩
      unfold dN
      walk_at "dl"
      refine compL_tot (e := fun (k : Nat) => D.int (k : Int)) (fun k => D.int (p.getD k 0)) (by have := hk.1; omega) (fun _ _ => Gd_none) (fun k hk' S' a => ?_) fun S5 a5 => ?_
      · walk_at "dl"
        refine ⟨by decide, ?_⟩
        rw [w_ixT (atI_ints (by have := hk.2 k hk'; omega))]
        exact ⟨rfl, .refl⟩
      · have e1 : ks.map (fun k => D.int (p.getD k 0)) = (ks.map fun k => p.getD k 0).map .int := by rw [List.map_map]; rfl
        rw [e1, w_sumL get_new]
        refine ⟨lens_of (by decide), ?_⟩
        try walk_at "dl"
        refine ⟨lens_of (by omega), ?_⟩
        rw [← List.map_reverse]
        refine compL_tot (e := fun (k : Nat) => D.int (k : Int)) (fun k => D.int (0 - p.getD k 0)) (by have := hk.1; simp; omega) (fun _ _ => Gd_none) (fun k hk' S' a => ?_) fun S6 a6 => ?_
        · walk_at "dl"
          refine ⟨by decide, ?_⟩
          rw [w_ixT (atI_ints (by have := hk.2 k (by simpa using hk'); omega)), w_sub]
          exact ⟨rfl, .refl⟩
        · try walk_at "dl"
          have e2 : lparts p (done ++ [ks]) = lparts p done ++ bkey (ks.map fun k => p.getD k 0) := by
            unfold lparts
            simp
          have hln2 : (lparts p (done ++ [ks])).length ≤ 20 * (done ++ [ks]).length := by
            rw [e2]
            have := hk.1
            simp only [List.length_append, bkey, List.length_cons, List.length_map, List.length_reverse, List.length_nil]
            omega
          refine ⟨lens_of ?_, by decide, ?_⟩
          · have := hk.1
            simp
            omega
          walk_at "nx"
          refine ⟨((f4.trans (a5.new _)).trans a6).new _, ((f34.trans (a5.new _)).trans a6).new _, some (.tup (ks.map fun (k : Nat) => D.int (k : Int))), o7, o8, ?_, hln2⟩
          rw [e2]
          unfold bkey
          simp only [List.map_append, List.map_cons, List.map_reverse, List.map_map, List.append_assoc, List.cons_append, List.nil_append]
          have e3 : ks.map (D.int ∘ (fun x => -x) ∘ fun k => p.getD k 0) = ks.map fun k => D.int (0 - p.getD k 0) := List.map_congr_left fun k _ => by
            show D.int (-(p.getD k 0)) = D.int (0 - p.getD k 0)
            rw [Int.zero_sub]
          first | rw [e3] | rfl | trace_state
  walk_at "dl"
  refine ⟨by decide, by decide, ?_⟩
  walk_at "nx"
  cases o with
  | lex =>
    simp only [Od.d]
    walk_at "dl"
    exact h S .refl
  | deg =>
    simp only [Od.d]
    walk_at "dl"
    walk_at "nx"
    exact ⟨lens_of (by decide), lens_of (by omega), h S .refl⟩
  | back =>
    simp only [Od.d] at key ⊢
    walk_at "dl"
    walk_at "nx"
    walk_at "nx"
    rw [w_ixBack, w_eqS ok_b ok_weights, if_neg (by decide +kernel)]
    walk_at "nx"
    refine ⟨rngOk_of hm, lens_of (by decide), by decide, ?_⟩
    rw [rngItems_nat]
    walk_at "nx"
    rw [k_nx]
    refine key [List.range m] _ _ (Fr.new .refl _) get_new (by simp) (fun ks hk => ?_) ?_
    · rw [List.mem_singleton.mp hk]
      exact ⟨by simp, fun k hk => List.mem_range.mp hk⟩
    · unfold lparts
      rw [← hpl]
      simp only [List.map_cons, List.map_nil, map_getD, pkey, List.flatten_cons, List.flatten_nil, List.append_nil]
  | blk ks =>
    have hb := blk_bf ks
    simp only [Od.d] at key ⊢
    walk_at "dl"
    walk_at "nx"
    walk_at "nx"
    walk_at "nx"
    refine ⟨rngOk_of hm, lens_of (by decide), by decide, ?_⟩
    rw [rngItems_nat]
    walk_at "nx"
    refine ⟨small_rng (by omega), ?_⟩
    rw [rngItems_nat]
    have hsub : List.Sublist ks (List.range m) := ho
    refine compL_filt (e := fun (k : Nat) => D.int (k : Int)) (fun k => if (!decide (k ∈ ks)) = true then some (.int (k : Int)) else none) (by simp; omega) (fun _ _ => Gd_none) (fun k hk' S' a => ?_) fun S' a => ?_
    · unfold dN
      walk_at "dl"
      rw [flat_nats, inF_nats]
      refine ⟨by decide, rfl, ?_⟩
      cases c : (!decide (k ∈ ks)) with
      | true =>
        rw [if_pos rfl, if_pos rfl]
        exact ⟨rfl, .refl⟩
      | false =>
        rw [if_neg (by decide), if_neg (by decide)]
        exact ⟨rfl, .refl⟩
    · try walk_at "dl"
      refine ⟨lens_of (by decide), by decide, ?_⟩
      rw [filterMap_fm (fun k => !decide (k ∈ ks)) (fun (k : Nat) => D.int (k : Int))]
      rw [k_nx, xs_nil, k_nx]
      refine key [ks, (List.range m).filter fun k => !decide (k ∈ ks)] _ _ (((Fr.new .refl _).trans a).new _ |>.new _) get_new (by simp) (fun k hk => ?_) ?_
      · simp only [List.mem_cons, List.not_mem_nil, or_false] at hk
        rcases hk with rfl | rfl
        · have := hsub.length_le
          exact ⟨by simpa using this, fun k hk => List.mem_range.mp (hsub.subset hk)⟩
        · exact ⟨Nat.le_trans (List.length_filter_le _ _) (by simp), fun k hk => List.mem_range.mp (List.mem_filter.mp hk).1⟩
      · unfold lparts
        simp only [List.map_cons, List.map_nil, pkey, List.flatten_cons, List.flatten_nil, List.append_nil, part, hpl]
        have t1 : (fun k => decide (k ∈ ks) == true) = fun k => decide (k ∈ ks) := funext fun k => by cases decide (k ∈ ks) <;> rfl
        have t2 : (fun k => decide (k ∈ ks) == false) = fun k => !decide (k ∈ ks) := funext fun k => by cases decide (k ∈ ks) <;> rfl
        rw [t1, t2, filter_sub hsub List.nodup_range]
  | wts rows =>
    have hb := wts_bf rows
    simp only [Od.d]
    walk_at "dl"
    walk_at "nx"
    walk_at "nx"
    refine compL_tot (e := dI) (fun r => D.int (dotP r p)) (by have := ho.1.1; omega) (fun _ _ => Gd_none) (fun r hr S' a => ?_) fun S' a => ?_
    · have hrl := (ho.1.2 r hr).1
      have hrr := (ho.1.2 r hr).2
      unfold dI
      walk_at "dl"
      refine ⟨by decide, small_rng (by omega), ?_⟩
      rw [rngItems_nat]
      refine compL_tot (e := fun (k : Nat) => D.int (k : Int)) (fun k => D.int (r.getD k 0 * p.getD k 0)) (by simp; omega) (fun _ _ => Gd_none) (fun k hk S2 a2 => ?_) fun S2 a2 => ?_
      · have hk := List.mem_range.mp hk
        walk_at "dl"
        refine ⟨by decide, ?_⟩
        rw [w_ixT (atI_ints (by omega)), w_ixT (atI_ints (by omega)), w_mul]
        have b1 := hrr.getD (show k < r.length by omega)
        have b2 := hp.getD (show k < p.length by omega)
        exact ⟨mulFits_of (fits_small (by omega) (by omega)) (fits_small (by omega) (by omega)), rfl, .refl⟩
      · have e : (List.range m).map (fun k => D.int (r.getD k 0 * p.getD k 0)) = ((List.range m).map fun k => r.getD k 0 * p.getD k 0).map .int := by rw [List.map_map]; rfl
        rw [e, w_sumL get_new, dot_range hrl hpl]
        exact ⟨rfl, a2.new _⟩
    · try walk_at "dl"
      have := h _ (a.new (.lst (rows.map fun r => D.int (dotP r p))))
      simp only [pkey, List.map_map] at this
      exact this
theorem sum_one {f g : Nat → Int} {x : Nat} : ∀ {xs : List Nat}, xs.Nodup → x ∈ xs → (∀ y ∈ xs, y ≠ x → f y = g y) → (xs.map f).sum - (xs.map g).sum = f x - g x
  | [], _, h, _ => by cases h
  | y :: xs, nd, h, k => by
    rw [List.nodup_cons] at nd
    simp only [List.map_cons, List.sum_cons]
    by_cases e : y = x
    · subst e
      have : xs.map f = xs.map g := List.map_congr_left fun z hz => k z (by simp [hz]) (fun e => nd.1 (e ▸ hz))
      rw [this]; omega
    · have hx : x ∈ xs := by
        rcases List.mem_cons.mp h with h | h
        · exact absurd h.symm e
        · exact h
      have := sum_one nd.2 hx fun z hz => k z (by simp [hz])
      have := k y (by simp) e
      omega
theorem eq_of_getD {a b : List Int} (h : a.length = b.length) (k : ∀ i, i < a.length → a.getD i 0 = b.getD i 0) : a = b := by
  refine List.ext_getElem h fun i h1 h2 => ?_
  have := k i h1
  rw [List.getD_eq_getElem?_getD, List.getD_eq_getElem?_getD, List.getElem?_eq_getElem h1, List.getElem?_eq_getElem h2] at this
  exact this
theorem bkey_inj {a b : List Int} (h : bkey a = bkey b) : a = b := by
  unfold bkey at h
  simp only [List.cons.injEq] at h
  have h2 := h.2
  have h3 : a.reverse = b.reverse := by
    have := congrArg (List.map fun x : Int => -x) h2
    simpa [List.map_map, Function.comp_def] using this
  simpa using h3
theorem part_inj {a b : List Int} {ks : List Nat} (hl : a.length = b.length) (h1 : part ks true a = part ks true b) (h2 : part ks false a = part ks false b) : a = b := by
  refine eq_of_getD hl fun i hi => ?_
  unfold part at h1 h2
  rw [← hl] at h1 h2
  have e1 := List.map_inj_left.mp h1
  have e2 := List.map_inj_left.mp h2
  by_cases c : i ∈ ks
  · exact e1 i (List.mem_filter.mpr ⟨List.mem_range.mpr hi, by simp [c]⟩)
  · exact e2 i (List.mem_filter.mpr ⟨List.mem_range.mpr hi, by simp [c]⟩)
theorem wts_inj {m : Nat} {rows : List (List Int)} {a b : List Int} (hw : WtsOk m rows) (hr : ∀ r ∈ rows, r.length = m) (ha : a.length = m) (hb : b.length = m) (h : ∀ r ∈ rows, dotP r a = dotP r b) : a = b := by
  obtain ⟨lone, hl, ⟨r0, hr0, hn0⟩, hu⟩ := hw
  have key : ∀ r ∈ rows, ∀ k, k < m → (∀ j, j < m → j ≠ k → r.getD j 0 * a.getD j 0 = r.getD j 0 * b.getD j 0) → r.getD k 0 * a.getD k 0 = r.getD k 0 * b.getD k 0 := fun r hrr k hk hj => by
    have := sum_one (f := fun k => r.getD k 0 * a.getD k 0) (g := fun k => r.getD k 0 * b.getD k 0) (x := k) (xs := List.range m) List.nodup_range (List.mem_range.mpr hk) fun j hj' hjk => hj j (List.mem_range.mp hj') hjk
    rw [dot_range (hr r hrr) ha, dot_range (hr r hrr) hb, h r hrr] at this
    omega
  have e1 : ∀ k, k < m → k ≠ lone → a.getD k 0 = b.getD k 0 := fun k hk hkl => by
    obtain ⟨r, hrr, h1, h2⟩ := hu k hk hkl
    have := key r hrr k hk fun j hj hjk => by rw [h2 j hj hjk, Int.zero_mul, Int.zero_mul]
    exact Int.eq_of_mul_eq_mul_left h1 this
  have e2 := key r0 hr0 lone hl fun j hj hjk => by rw [e1 j hj hjk]
  have e3 := Int.eq_of_mul_eq_mul_left hn0 e2
  refine eq_of_getD (ha.trans hb.symm) fun i hi => ?_
  by_cases c : i = lone
  · rw [c]; exact e3
  · exact e1 i (by omega) c
theorem pkey_inj {m : Nat} {o : Od} {a b : List Int} (ho : o.ok m) (ha : a.length = m) (hb : b.length = m) (h : pkey o a = pkey o b) : a = b := by
  have hl : a.length = b.length := ha.trans hb.symm
  cases o with
  | lex => exact h
  | deg => simp only [pkey, List.cons.injEq] at h; exact h.2
  | back => exact bkey_inj h
  | blk ks =>
    simp only [pkey] at h
    have hlen : (bkey (part ks true a)).length = (bkey (part ks true b)).length := by
      simp only [bkey, part, List.length_cons, List.length_map, List.length_reverse, hl]
    obtain ⟨h1, h2⟩ := List.append_inj h hlen
    exact part_inj hl (bkey_inj h1) (bkey_inj h2)
  | wts rows => exact wts_inj ho.2 (fun r hr => (ho.1.2 r hr).1) ha hb (List.map_inj_left.mp h)
theorem pkey_ne {m : Nat} {o : Od} {a : List Int} (ho : o.ok m) (hm : 0 < m) (ha : a.length = m) : pkey o a ≠ [] := by
  cases o with
  | lex => intro h; simp only [pkey] at h; rw [h] at ha; simp at ha; omega
  | deg => simp [pkey]
  | back => simp [pkey, bkey]
  | blk ks => simp [pkey, bkey]
  | wts rows =>
    obtain ⟨lone, hl, ⟨r0, hr0, _⟩, _⟩ := ho.2
    intro h
    simp only [pkey, List.map_eq_nil_iff] at h
    rw [h] at hr0
    cases hr0
end K05
end

section
set_option Elab.async false
set_option linter.all false
set_option maxRecDepth 100000
set_option maxHeartbeats 1000000
set_option exponentiation.threshold 20000
namespace K05
open PySem PySem.Spec L2 Dl
local macro_rules | `(tactic| walk_at "dl") => `(tactic| simp (disch := first | assumption | exact get_new | (refine get_app ?_; first | assumption | exact get_new | (refine get_app ?_; first | assumption | exact get_new)) | (refine get_set ?_; assumption) | exact atI_0 | exact atI_1 | exact atI_2 | exact ok_lex | exact ok_degree | exact ok_back | exact ok_blocks | exact ok_weights) only [
  e_cB, e_fB, e_var, e_int, e_bl, e_non, e_str, e_glo, e_tup, e_lst, e_op, e_neg, e_not, e_and, e_or, e_cmp, e_chain, e_ite, e_ix, e_sl, e_rev, e_call, e_bi, e_me, e_isi, e_isis, e_comp, e_tupr, e_lstr, e_nil, e_cons, e_ono, e_oso, e_cno, e_cso, vt_and, vt_or, vt_not, vt_cmp, vt_chain, vt_var, vt_bl, vt_call, vt_bi, vt_isi, vt_isis, vi_seq, vi_rng1, vi_rng2, vi_zip, vg_nm, vg_tp, vg_ixs, gs_nil, gs_cons, x_asg, x_par, x_aug, x_expr, x_ret, x_retN, x_ite, x_for, x_whl, x_pass, x_brk, x_cnt, xs_nil, xs_cons, r_nx, r_rt, w_neg, w_tupr, w_lstr,
  TGs.len, wq_pure, List.getElem?_cons_zero, List.getElem?_cons_succ, List.set_cons_zero, List.set_cons_succ, List.length_cons, List.length_nil, List.length_map, if_true, Bool.false_eq_true, if_false, startE, List.map_cons, List.map_nil, List.replicate, List.cons_append, List.nil_append, wipeE, Nat.zero_add, Nat.reduceAdd, Nat.reduceSub, true_and,
  w_getL_ref, w_getS_ref, w_getL_ro, w_getS_ro, w_getS_tup, w_add, w_sub, w_mul, w_addT, w_addL, w_mulL, w_fdiv, w_mod, w_pow, w_shl, w_lt, w_le, w_gt, w_ge, w_ltT, w_gtT, w_eq, w_ne, w_isN, w_isnN, w_in, w_nin, w_trB, w_trN, w_trI, w_trT, w_trL, w_lenT, w_lenR, w_lenL, w_sumT, w_sumL, w_int, w_intB, w_tupL, w_listL, w_listT, w_append, w_pop, w_reverse, w_isL, w_revT, w_asInt, w_slR, w_srcT, w_srcR, w_srcL, w_rng, w_zipT, w_unpkT, w_unpkL, w_eqB, w_eqT, w_eqI, w_ixT, w_eqS, w_eqTS, Bool.not_true, Bool.not_false, decide_true, decide_false, wd_lex_lex, wd_lex_degree, wd_lex_back, wd_lex_blocks, wd_lex_weights, wd_degree_lex, wd_degree_degree, wd_degree_back, wd_degree_blocks, wd_degree_weights, wd_back_lex, wd_back_degree, wd_back_back, wd_back_blocks, wd_back_weights, wd_blocks_lex, wd_blocks_degree, wd_blocks_back, wd_blocks_blocks, wd_blocks_weights, wd_weights_lex, wd_weights_degree, wd_weights_back, wd_weights_blocks, wd_weights_weights])
theorem sum_rep (m : Nat) : (List.replicate m (0 : Int)).sum = 0 := by
  induction m with
  | zero => rfl
  | succ m ih => rw [List.replicate_succ, List.sum_cons, ih]; rfl
theorem sum_set : ∀ {p : List Int} {k : Nat}, k < p.length → (p.set k (p.getD k 0 + 1)).sum = p.sum + 1
  | [], k, h => by simp at h
  | x :: p, 0, h => by
    simp only [List.set_cons_zero, List.sum_cons, List.getD_cons_zero]
    omega
  | x :: p, k + 1, h => by
    have ih := sum_set (p := p) (k := k) (by simpa using h)
    simp only [List.set_cons_succ, List.sum_cons, List.getD_cons_succ] at *
    omega
theorem power_wq {n l m : Nat} {g : Int} {S : Store} {Q : D → Store → Prop} (hd : Dw l S) (hm : 0 < m) (hm' : m ≤ 100) (hg : 0 ≤ g) (hg' : g ≤ 1000)
    (h : ∀ (p : List Int) (S' : Store), p.length = m → Rg 0 g p → p.sum ≤ g → Dr l S S' → Q (.tup (p.map .int)) S') : wq (call gl fds (n + 2) f__law_power [.ref l, .int m, .int g]) Q S := by
  rw [wq_call (fd := d__law_power) rfl rfl]
  dsimp only [d__law_power]
  unfold b__law_power
  try walk_at "dl"
  refine ⟨lens_of (by omega), ?_⟩
  refine ⟨?_, by decide, ?_⟩
  · rw [decide_eq_true (by omega), decide_eq_true (by omega), lens_of (by simp; omega)]; rfl
  have ez : (List.replicate (m : Int).toNat [D.int 0]).flatten = (List.replicate m (0 : Int)).map .int := by
    rw [Int.toNat_natCast]
    clear h hm hm'
    induction m with
    | zero => rfl
    | succ m ih => simp only [List.replicate_succ, List.flatten_cons, ih, List.map_cons, List.cons_append, List.nil_append]
  rw [ez]
  generalize hS1 : S ++ [Ob.lst [D.int 0]] = S1
  have f1 : Fr [] S S1 := by subst hS1; exact Fr.new .refl _
  have hr : (S1 ++ [Ob.lst ((List.replicate m (0 : Int)).map .int)])[S1.length]? = some (.lst ((List.replicate m (0 : Int)).map .int)) := get_new
  have hlt : S.length ≤ S1.length := f1.le
  generalize hr0 : S1.length = r at *
  have f2 : Fr [] S (S1 ++ [Ob.lst ((List.replicate m (0 : Int)).map .int)]) := f1.new _
  clear f1
  generalize S1 ++ [Ob.lst ((List.replicate m (0 : Int)).map .int)] = S2 at *
  have hne : r ≠ l := by have := hd.lt; omega
  refine take_wq (hd.fr f2).d (by omega) fun k S3 k0 k1 d3 => ?_
  obtain ⟨k, rfl⟩ := Int.eq_ofNat_of_zero_le k0
  try walk_at "dl"
  refine ⟨small_rng (by omega), ?_⟩
  rw [rngItems_nat]
  have dd := (hd.fr f2).trans d3
  refine forL_inv1 (e := fun (k : Nat) => D.int (k : Int)) (fun i e S' => Dr l S S' ∧ (∃ p : List Int, S'[r]? = some (.lst (p.map .int)) ∧ p.length = m ∧ Rg 0 i p ∧ p.sum ≤ i) ∧ ∃ o4 o5, e = [some (.ref l), some (.int m), some (.int g), some (.ref r), o4, o5]) (fun _ _ _ _ => Gd_none) ?_ ?_ ?_
  · exact ⟨dd, ⟨_, d3.get hr hne, by simp, fun x hx => by have := List.eq_of_mem_replicate hx; omega, by rw [sum_rep]; omega⟩, _, _, rfl⟩
  · rintro e S4 ⟨d4, ⟨p, p1, p2, p3, p4⟩, o4, o5, rfl⟩
    try walk_at "dl"
    exact h p S4 p2 (p3.mono (by omega) (by simp; omega)) (by simp at p4; omega) d4
  · rintro i x e S4 hx ⟨d4, ⟨p, p1, p2, p3, p4⟩, o4, o5, rfl⟩
    try walk_at "dl"
    refine ⟨by decide, ?_⟩
    refine take_wq d4.d (by omega) fun k S5 k0 k1 d5 => ?_
    try walk_at "dl"
    refine ⟨by decide, ?_⟩
    have g5 := d5.get p1 hne
    have hk : k.toNat < p.length := by omega
    rw [w_ixL g5 (atI_int k0 hk)]
    try walk_at "dl"
    rw [w_set g5 k0 (by simpa using hk)]
    have hb := p3.getD hk
    refine ⟨(d4.trans d5).set _ hlt hne, ⟨p.set k.toNat (p.getD k.toNat 0 + 1), ?_, by simpa using p2, ?_, ?_⟩, _, _, rfl⟩
    · rw [get_set g5, List.map_set]
    · exact (p3.mono (by omega) (by omega)).set (by omega) (by omega)
    · rw [sum_set hk]
      omega
end K05
end

section
set_option Elab.async false
set_option linter.all false
set_option maxRecDepth 100000
set_option maxHeartbeats 1000000
set_option exponentiation.threshold 20000
namespace K05
open PySem PySem.Spec L2 Dl
local macro_rules | `(tactic| walk_at "dl") => `(tactic| simp (disch := first | assumption | exact get_new | (refine get_app ?_; first | assumption | exact get_new | (refine get_app ?_; first | assumption | exact get_new)) | (refine get_set ?_; assumption) | exact atI_0 | exact atI_1 | exact atI_2 | exact ok_lex | exact ok_degree | exact ok_back | exact ok_blocks | exact ok_weights) only [
  e_cB, e_fB, e_var, e_int, e_bl, e_non, e_str, e_glo, e_tup, e_lst, e_op, e_neg, e_not, e_and, e_or, e_cmp, e_chain, e_ite, e_ix, e_sl, e_rev, e_call, e_bi, e_me, e_isi, e_isis, e_comp, e_tupr, e_lstr, e_nil, e_cons, e_ono, e_oso, e_cno, e_cso, vt_and, vt_or, vt_not, vt_cmp, vt_chain, vt_var, vt_bl, vt_call, vt_bi, vt_isi, vt_isis, vi_seq, vi_rng1, vi_rng2, vi_zip, vg_nm, vg_tp, vg_ixs, gs_nil, gs_cons, x_asg, x_par, x_aug, x_expr, x_ret, x_retN, x_ite, x_for, x_whl, x_pass, x_brk, x_cnt, xs_nil, k_one, k_cons, k_rt, k_bk, k_ct, r_nx, r_rt, w_neg, w_tupr, w_lstr,
  TGs.len, wq_pure, List.getElem?_cons_zero, List.getElem?_cons_succ, List.set_cons_zero, List.set_cons_succ, List.length_cons, List.length_nil, List.length_map, if_true, Bool.false_eq_true, if_false, startE, List.map_cons, List.map_nil, List.replicate, List.cons_append, List.nil_append, wipeE, Nat.zero_add, Nat.reduceAdd, Nat.reduceSub, true_and,
  w_getL_ref, w_getS_ref, w_getL_ro, w_getS_ro, w_getS_tup, w_add, w_sub, w_mul, w_addT, w_addL, w_mulL, w_fdiv, w_mod, w_pow, w_shl, w_lt, w_le, w_gt, w_ge, w_ltT, w_gtT, w_eq, w_ne, w_isN, w_isnN, w_in, w_nin, w_trB, w_trN, w_trI, w_trT, w_trL, w_lenT, w_lenR, w_lenL, w_sumT, w_sumL, w_int, w_intB, w_tupL, w_listL, w_listT, w_append, w_pop, w_reverse, w_isL, w_revT, w_asInt, w_slR, w_srcT, w_srcR, w_srcL, w_rng, w_zipT, w_unpkT, w_unpkL, w_eqB, w_eqT, w_eqI, w_ixT, w_eqS, w_eqTS, Bool.not_true, Bool.not_false, decide_true, decide_false, wd_lex_lex, wd_lex_degree, wd_lex_back, wd_lex_blocks, wd_lex_weights, wd_degree_lex, wd_degree_degree, wd_degree_back, wd_degree_blocks, wd_degree_weights, wd_back_lex, wd_back_degree, wd_back_back, wd_back_blocks, wd_back_weights, wd_blocks_lex, wd_blocks_degree, wd_blocks_back, wd_blocks_blocks, wd_blocks_weights, wd_weights_lex, wd_weights_degree, wd_weights_back, wd_weights_blocks, wd_weights_weights])
local macro_rules | `(tactic| walk_at "nx") => `(tactic| (rw [k_nx]; try walk_at "dl"))
local macro_rules | `(tactic| walk_at "cj") => `(tactic| repeat refine And.intro (by first | decide | exact lens_of (by decide) | exact lens_of (by simp) | simp) ?_)
/-- not too great for the machine -/
structure Sz (q : Rat) : Prop where
  n : q.num.natAbs < 2 ^ 3900
  d : q.den < 2 ^ 3900
theorem Sz.of {N M : Nat} {q : Rat} (h : Bd N M q) (hn : N < 2 ^ 3900) (hm : M < 2 ^ 3900) : Sz q := ⟨Nat.lt_of_le_of_lt h.num hm, Nat.lt_of_le_of_lt h.den.2 hn⟩
theorem w_gcd {a b : Int} {S : Store} {Q : D → Store → Prop} : wq (biRun .gcd [.int a, .int b]) Q S = Q (.int ((Nat.gcd a.natAbs b.natAbs : Nat) : Int)) S := wq_l rfl
theorem den_ne (q : Rat) : ((q.den : Nat) : Int) ≠ 0 := by have := q.den_pos; omega
theorem den_lt (q : Rat) : (0 : Int) < ((q.den : Nat) : Int) := by have := q.den_pos; omega
theorem rat_add (p q : Rat) : ((p.num * q.den + q.num * p.den : Int) : Rat) / (((p.den : Int) * (q.den : Int) : Int) : Rat) = p + q := by
  have h1 := num_den p
  have h2 := num_den q
  have h3 : ((p.den : Nat) : Rat) ≠ 0 := by exact_mod_cast p.den_nz
  have h4 : ((q.den : Nat) : Rat) ≠ 0 := by exact_mod_cast q.den_nz
  push_cast
  grind
theorem rat_mul (p q : Rat) : ((p.num * q.num : Int) : Rat) / (((p.den : Int) * (q.den : Int) : Int) : Rat) = p * q := by
  have h1 := num_den p
  have h2 := num_den q
  have h3 : ((p.den : Nat) : Rat) ≠ 0 := by exact_mod_cast p.den_nz
  have h4 : ((q.den : Nat) : Rat) ≠ 0 := by exact_mod_cast q.den_nz
  push_cast
  grind
theorem bd_mul {a b : Int} (ha : a.natAbs < 2 ^ 3900) (hb : b.natAbs < 2 ^ 3900) : (a * b).natAbs < 2 ^ 7800 := natAbs_mul_lt ha hb
theorem bd_add {a b : Int} (ha : a.natAbs < 2 ^ 7800) (hb : b.natAbs < 2 ^ 7800) : (a + b).natAbs < 2 ^ 7801 := by
  have e : (2 : Nat) ^ 7801 = 2 ^ 7800 * 2 := by rw [show (7801 : Nat) = 7800 + 1 from rfl, Nat.pow_succ]
  rw [e]
  generalize (2 : Nat) ^ 7800 = u at *
  omega
theorem Sz.dn {q : Rat} (h : Sz q) : ((q.den : Nat) : Int).natAbs < 2 ^ 3900 := by rw [Int.natAbs_natCast]; exact h.d
theorem up8 {a e : Nat} (h : a < 2 ^ e) (he : e ≤ 8000) : a < 2 ^ 8000 := pow_le h he
theorem plus_wq {n : Nat} {p q : Rat} {S : Store} {Q : D → Store → Prop} (hp : Sz p) (hq : Sz q) (h : Q (frQ (p + q)) S) : wq (call gl fds (n + 3) f__law_plus [frQ p, frQ q]) Q S := by
  unfold frQ
  rw [wq_call (fd := d__law_plus) rfl rfl]
  dsimp only [d__law_plus]
  unfold b__law_plus
  walk_at "dl"
  have m1 := bd_mul hp.n hq.dn
  have m2 := bd_mul hq.n hp.dn
  have m3 := bd_mul hp.dn hq.dn
  refine ⟨fits_nat (up8 hp.n (by decide)) _ (up8 hq.dn (by decide)), fits_nat (up8 hq.n (by decide)) _ (up8 hp.dn (by decide)), fits_nat (up8 hp.dn (by decide)) _ (up8 hq.dn (by decide)), frac_wq (up8 (bd_add m1 m2) (by decide)) (up8 m3 (by decide)) (Int.mul_ne_zero (den_ne p) (den_ne q)) fun c d hd0 hcd _ _ hg => ?_⟩
  rw [frQ_of (Int.mul_ne_zero (den_ne p) (den_ne q)) hd0 hcd hg, rat_add]
  exact h
theorem product_wq {n : Nat} {p q : Rat} {S : Store} {Q : D → Store → Prop} (hp : Sz p) (hq : Sz q) (h : Q (frQ (p * q)) S) : wq (call gl fds (n + 3) f__law_product [frQ p, frQ q]) Q S := by
  unfold frQ
  rw [wq_call (fd := d__law_product) rfl rfl]
  dsimp only [d__law_product]
  unfold b__law_product
  walk_at "dl"
  have m1 := bd_mul hp.n hq.n
  have m3 := bd_mul hp.dn hq.dn
  refine ⟨fits_nat (up8 hp.n (by decide)) _ (up8 hq.n (by decide)), fits_nat (up8 hp.dn (by decide)) _ (up8 hq.dn (by decide)), frac_wq (up8 m1 (by decide)) (up8 m3 (by decide)) (Int.mul_ne_zero (den_ne p) (den_ne q)) fun c d hd0 hcd _ _ hg => ?_⟩
  rw [frQ_of (Int.mul_ne_zero (den_ne p) (den_ne q)) hd0 hcd hg, rat_mul]
  exact h
/-- the program's own -/
theorem fraction_wq {n : Nat} {a b : Int} {S : Store} {Q : D → Store → Prop} (hb8 : b.natAbs < 2 ^ 8000) (hb : 0 < b) (h : Q (frQ ((a : Rat) / (b : Rat))) S) : wq (call gl fds (n + 1) f_fraction [.int a, .int b]) Q S := by
  rw [wq_call (fd := d_fraction) rfl rfl]
  dsimp only [d_fraction]
  unfold b_fraction
  walk_at "dl"
  rw [if_neg (by simp; omega)]
  walk_at "nx"
  rw [w_gcd]
  have hg0 : 0 < Nat.gcd a.natAbs b.natAbs := Nat.gcd_pos_of_pos_right _ (by omega)
  have hgb : Nat.gcd a.natAbs b.natAbs ≤ b.natAbs := Nat.gcd_le_right _ (by omega)
  have hda : (Nat.gcd a.natAbs b.natAbs) ∣ a.natAbs := Nat.gcd_dvd_left _ _
  have hdb : (Nat.gcd a.natAbs b.natAbs) ∣ b.natAbs := Nat.gcd_dvd_right _ _
  have hcop : Nat.gcd (a.natAbs / Nat.gcd a.natAbs b.natAbs) (b.natAbs / Nat.gcd a.natAbs b.natAbs) = 1 := by
    rw [Nat.gcd_div hda hdb, Nat.div_self hg0]
  generalize Nat.gcd a.natAbs b.natAbs = g at *
  obtain ⟨x, hx⟩ : (g : Int) ∣ a := Int.ofNat_dvd_left.mpr hda
  obtain ⟨y, hy⟩ : (g : Int) ∣ b := Int.ofNat_dvd_left.mpr hdb
  have hgl : g.log2 < 9000 := log2_lt (Nat.lt_of_le_of_lt hgb (pow_le hb8 (by decide))) (by decide)
  have ha2 : a.natAbs = g * x.natAbs := by rw [hx, Int.natAbs_mul, Int.natAbs_natCast]
  have hb2 : b.natAbs = g * y.natAbs := by rw [hy, Int.natAbs_mul, Int.natAbs_natCast]
  rw [ha2, hb2, Nat.mul_div_cancel_left _ hg0, Nat.mul_div_cancel_left _ hg0] at hcop
  have hgi : (0 : Int) < g := by omega
  have hy0 : 0 < y := by
    rw [hy] at hb
    exact Classical.byContradiction fun e => absurd (Int.mul_nonneg (show 0 ≤ (g : Int) by omega) (show 0 ≤ -y by omega)) (by rw [Int.mul_neg]; omega)
  have q1 : a.fdiv g = x := by
    rw [hx]
    exact Int.mul_fdiv_cancel_left _ (by omega)
  have q2 : b.fdiv g = y := by
    rw [hy]
    exact Int.mul_fdiv_cancel_left _ (by omega)
  have hd : (decide ((g : Int) ≠ 0) && decide ((g : Int).natAbs.log2 < 9000)) = true := by
    rw [decide_eq_true (show (g : Int) ≠ 0 by omega), decide_eq_true (show (g : Int).natAbs.log2 < 9000 by rw [Int.natAbs_natCast]; exact hgl)]; rfl
  refine ⟨by decide, ?_⟩
  walk_at "nx"
  rw [q1, q2]
  have e := frQ_of (show b ≠ 0 by omega) hy0 (show x * b = a * y by rw [hx, hy]; grind) hcop
  rw [← e] at h
  exact ⟨hd, hd, lens_of (by decide), h⟩
theorem add_wq {n : Nat} {p q : Rat} {S : Store} {Q : D → Store → Prop} (hp : Sz p) (hq : Sz q) (h : Q (frQ (p + q)) S) : wq (call gl fds (n + 2) f_add [frQ p, frQ q]) Q S := by
  unfold frQ
  rw [wq_call (fd := d_add) rfl rfl]
  dsimp only [d_add]
  unfold b_add
  walk_at "dl"
  have m1 := bd_mul hp.n hq.dn
  have m2 := bd_mul hq.n hp.dn
  have m3 := bd_mul hp.dn hq.dn
  refine ⟨fits_nat (up8 hp.n (by decide)) _ (up8 hq.dn (by decide)), fits_nat (up8 hq.n (by decide)) _ (up8 hp.dn (by decide)), fits_nat (up8 hp.dn (by decide)) _ (up8 hq.dn (by decide)), fraction_wq (up8 m3 (by decide)) (Int.mul_pos (den_lt p) (den_lt q)) ?_⟩
  rw [rat_add]
  exact h
theorem multiply_wq {n : Nat} {p q : Rat} {S : Store} {Q : D → Store → Prop} (hp : Sz p) (hq : Sz q) (h : Q (frQ (p * q)) S) : wq (call gl fds (n + 2) f_multiply [frQ p, frQ q]) Q S := by
  unfold frQ
  rw [wq_call (fd := d_multiply) rfl rfl]
  dsimp only [d_multiply]
  unfold b_multiply
  walk_at "dl"
  have m3 := bd_mul hp.dn hq.dn
  refine ⟨fits_nat (up8 hp.n (by decide)) _ (up8 hq.n (by decide)), fits_nat (up8 hp.dn (by decide)) _ (up8 hq.dn (by decide)), fraction_wq (up8 m3 (by decide)) (Int.mul_pos (den_lt p) (den_lt q)) ?_⟩
  rw [rat_mul]
  exact h
end K05
end

section
set_option Elab.async false
set_option linter.all false
set_option maxRecDepth 100000
set_option maxHeartbeats 1000000
set_option exponentiation.threshold 20000
namespace K05
open PySem PySem.Spec L2 Dl
local macro_rules | `(tactic| walk_at "dl") => `(tactic| simp (disch := first | assumption | exact get_new | (refine get_app ?_; first | assumption | exact get_new | (refine get_app ?_; first | assumption | exact get_new)) | (refine get_set ?_; assumption) | exact atI_0 | exact atI_1 | exact atI_2 | exact ok_lex | exact ok_degree | exact ok_back | exact ok_blocks | exact ok_weights) only [
  e_cB, e_fB, e_var, e_int, e_bl, e_non, e_str, e_glo, e_tup, e_lst, e_op, e_neg, e_not, e_and, e_or, e_cmp, e_chain, e_ite, e_ix, e_sl, e_rev, e_call, e_bi, e_me, e_isi, e_isis, e_comp, e_tupr, e_lstr, e_nil, e_cons, e_ono, e_oso, e_cno, e_cso, vt_and, vt_or, vt_not, vt_cmp, vt_chain, vt_var, vt_bl, vt_call, vt_bi, vt_isi, vt_isis, vi_seq, vi_rng1, vi_rng2, vi_zip, vg_nm, vg_tp, vg_ixs, gs_nil, gs_cons, x_asg, x_par, x_aug, x_expr, x_ret, x_retN, x_ite, x_for, x_whl, x_pass, x_brk, x_cnt, xs_nil, k_one, k_cons, k_rt, k_bk, k_ct, r_nx, r_rt, w_neg, w_tupr, w_lstr,
  TGs.len, wq_pure, List.getElem?_cons_zero, List.getElem?_cons_succ, List.set_cons_zero, List.set_cons_succ, List.length_cons, List.length_nil, List.length_map, if_true, Bool.false_eq_true, if_false, startE, List.map_cons, List.map_nil, List.replicate, List.cons_append, List.nil_append, wipeE, Nat.zero_add, Nat.reduceAdd, Nat.reduceSub, true_and,
  w_getL_ref, w_getS_ref, w_getL_ro, w_getS_ro, w_getS_tup, w_add, w_sub, w_mul, w_addT, w_addL, w_mulL, w_fdiv, w_mod, w_pow, w_shl, w_lt, w_le, w_gt, w_ge, w_ltT, w_gtT, w_eq, w_ne, w_isN, w_isnN, w_in, w_nin, w_trB, w_trN, w_trI, w_trT, w_trL, w_lenT, w_lenR, w_lenL, w_sumT, w_sumL, w_int, w_intB, w_tupL, w_listL, w_listT, w_append, w_pop, w_reverse, w_isL, w_revT, w_asInt, w_slR, w_srcT, w_srcR, w_srcL, w_rng, w_zipT, w_unpkT, w_unpkL, w_eqB, w_eqT, w_eqI, w_ixT, w_eqS, w_eqTS, Bool.not_true, Bool.not_false, decide_true, decide_false, wd_lex_lex, wd_lex_degree, wd_lex_back, wd_lex_blocks, wd_lex_weights, wd_degree_lex, wd_degree_degree, wd_degree_back, wd_degree_blocks, wd_degree_weights, wd_back_lex, wd_back_degree, wd_back_back, wd_back_blocks, wd_back_weights, wd_blocks_lex, wd_blocks_degree, wd_blocks_back, wd_blocks_blocks, wd_blocks_weights, wd_weights_lex, wd_weights_degree, wd_weights_back, wd_weights_blocks, wd_weights_weights])
local macro_rules | `(tactic| walk_at "nx") => `(tactic| (rw [k_nx]; try walk_at "dl"))
local macro_rules | `(tactic| walk_at "cj") => `(tactic| repeat refine And.intro (by first | decide | exact lens_of (by decide) | exact lens_of (by simp) | simp) ?_)
theorem joined_wq {n : Nat} {p q : List Int} {S : Store} {Q : D → Store → Prop} (hl : p.length ≤ 1000) (he : q.length = p.length)
    (h : ∀ S', Fr [] S S' → Q (.tup ((List.zipWith (· + ·) p q).map .int)) S') : wq (call gl fds (n + 1) f__law_joined [.tup (p.map .int), .tup (q.map .int)]) Q S := by
  rw [wq_call (fd := d__law_joined) rfl rfl]
  dsimp only [d__law_joined]
  unfold b__law_joined
  try walk_at "dl"
  refine ⟨small_rng (by omega), ?_⟩
  rw [rngItems_nat]
  refine compL_tot (e := fun (k : Nat) => D.int (k : Int)) (fun k => D.int (p.getD k 0 + q.getD k 0)) (by simpa using hl) (fun _ _ => Gd_none) (fun k hk S' a => ?_) fun S' a => ?_
  · have hk := List.mem_range.mp hk
    try walk_at "dl"
    refine ⟨by decide, ?_⟩
    rw [w_ixT (atI_ints hk), w_ixT (atI_ints (by omega)), w_add]
    exact ⟨rfl, .refl⟩
  · have e : (List.range p.length).map (fun k => D.int (p.getD k 0 + q.getD k 0)) = (List.zipWith (· + ·) p q).map .int := by
      refine List.ext_getElem (by simp [he]) fun i h1 h2 => ?_
      simp only [List.length_map, List.length_range, List.length_zipWith] at h1 h2
      simp only [List.getElem_map, List.getElem_range, List.getElem_zipWith]
      rw [List.getD_eq_getElem?_getD, List.getD_eq_getElem?_getD, List.getElem?_eq_getElem h1, List.getElem?_eq_getElem (by omega)]
      rfl
    rw [e]
    exact h _ (a.new _)
theorem w_mulT {ds : List D} {k : Int} {S : Store} {Q : D → Store → Prop} : wq (bop .Mult (.tup ds) (.int k)) Q S = ((decide (ds ≠ []) && decide (1 ≤ k) && decide (k ≤ 1000) && decide (ds.length ≤ 1000)) = true ∧ Q (.tup (List.replicate k.toNat ds).flatten) S) := by
  unfold bop
  dsimp only
  rw [wq_bind, wq_need, wq_pure]
abbrev zer (m : Nat) : List Int := List.replicate m 0
theorem zer_flat (m : Nat) : (List.replicate m [D.int 0]).flatten = (zer m).map .int := by
  induction m with
  | zero => rfl
  | succ m ih => simp only [List.replicate_succ, List.flatten_cons, ih, List.map_cons, List.cons_append, List.nil_append]
theorem zmul_wq {m : Nat} {S : Store} {Q : D → Store → Prop} (h0 : 0 < m) (hm : m ≤ 100) (h : Q (.tup ((zer m).map .int)) S) : wq (bop .Mult (.tup [.int 0]) (.int m)) Q S := by
  rw [w_mulT, Int.toNat_natCast, zer_flat]
  refine ⟨?_, h⟩
  rw [decide_eq_true (by simp), decide_eq_true (by omega), decide_eq_true (by omega), decide_eq_true (by simp)]
  rfl
theorem zero_power_wq {n m : Nat} {S : Store} {Q : D → Store → Prop} (h0 : 0 < m) (hm : m ≤ 100) (h : Q (.tup ((zer m).map .int)) S) : wq (call gl fds (n + 1) f_zero_power [.int m]) Q S := by
  rw [wq_call (fd := d_zero_power) rfl rfl]
  dsimp only [d_zero_power]
  unfold b_zero_power
  walk_at "dl"
  exact ⟨lens_of (by decide), zmul_wq h0 hm h⟩
theorem power_product_wq {n : Nat} {p q : List Int} {S : Store} {Q : D → Store → Prop} (hl : p.length ≤ 100) (h : ∀ S', Fr [] S S' → Q (.tup ((addE p q).map .int)) S') : wq (call gl fds (n + 1) f_power_product [.tup (p.map .int), .tup (q.map .int)]) Q S := by
  rw [wq_call (fd := d_power_product) rfl rfl]
  dsimp only [d_power_product]
  unfold b_power_product
  walk_at "dl"
  have e : ((p.map D.int).zip (q.map D.int)).map (fun q => D.tup [q.1, q.2]) = (p.zip q).map fun q => D.tup [D.int q.1, D.int q.2] := by
    rw [List.zip_map, List.map_map]
    rfl
  rw [e]
  refine compL_tot (e := fun (q : Int × Int) => D.tup [D.int q.1, D.int q.2]) (fun q => D.int (q.1 + q.2)) (by rw [List.length_zip]; omega) (fun _ _ => Gd_none) (fun q hq S' a => ?_) fun S' a => ?_
  · walk_at "dl"
    exact ⟨by decide, by decide, .refl⟩
  · try walk_at "dl"
    have e2 : (p.zip q).map (fun q => D.int (q.1 + q.2)) = (addE p q).map .int := by
      unfold addE
      rw [List.map_zipWith, ← List.map_uncurry_zip_eq_zipWith]
      rfl
    rw [e2]
    exact h _ (a.new _)
/-- a power of m unknowns with exponents from 0 to b -/
structure GE (m : Nat) (b : Int) (e : List Int) : Prop where
  len : e.length = m
  rg : Rg 0 b e
  sm : e.sum ≤ b
theorem GE.ne {m : Nat} {b : Int} {e : List Int} (h : GE m b e) (hm : 0 < m) : e ≠ [] := by
  intro z
  have := h.len
  rw [z] at this
  simp at this
  omega
theorem GE.mono {m : Nat} {b c : Int} {e : List Int} (h : GE m b e) (k : b ≤ c) : GE m c e := ⟨h.len, h.rg.mono (by omega) k, by have := h.sm; omega⟩
theorem sum_addE : ∀ {e f : List Int}, e.length = f.length → (addE e f).sum = e.sum + f.sum
  | [], [], _ => rfl
  | x :: e, y :: f, h => by
    have ih := sum_addE (e := e) (f := f) (by simpa using h)
    unfold addE at *
    simp only [List.zipWith_cons_cons, List.sum_cons, ih]
    omega
  | [], _ :: _, h => by simp at h
  | _ :: _, [], h => by simp at h
theorem GE.add {m : Nat} {b c : Int} {e f : List Int} (h : GE m b e) (k : GE m c f) : GE m (b + c) (addE e f) := by
  refine ⟨by simp [h.len, k.len], fun x hx => ?_, by rw [sum_addE (by rw [h.len, k.len])]; have := h.sm; have := k.sm; omega⟩
  obtain ⟨i, hi, rfl⟩ := List.getElem_of_mem hx
  simp only [List.length_zipWith] at hi
  simp only [List.getElem_zipWith]
  have h1 := h.rg _ (List.getElem_mem (show i < e.length by omega))
  have h2 := k.rg _ (List.getElem_mem (show i < f.length by omega))
  omega
theorem GE.zer {m : Nat} {b : Int} (hb : 0 ≤ b) : GE m b (zer m) := ⟨by simp, fun x hx => by have := List.eq_of_mem_replicate hx; omega, by rw [sum_rep]; exact hb⟩
theorem addE_zer {m : Nat} {b : Int} {e : List Int} (h : GE m b e) : addE e (zer m) = e := by
  refine List.ext_getElem (by simp [h.len]) fun i h1 h2 => ?_
  simp
theorem GE.k {m : Nat} {b : Int} {e : List Int} (h : GE m b e) (hb : b ≤ 1000) : Rg (-1000) 1000 e := h.rg.mono (by omega) hb
end K05
end

section
set_option Elab.async false
set_option linter.all false
set_option maxRecDepth 100000
set_option maxHeartbeats 1000000
set_option exponentiation.threshold 20000
namespace K05
open PySem PySem.Spec L2 Dl
theorem w_fr0 {q : Rat} {S : Store} {Q : D → Store → Prop} : wq (ixD (frQ q) (.int 0)) Q S = Q (.int q.num) S := by
  unfold frQ
  exact w_ixT rfl
theorem w_fr1 {q : Rat} {S : Store} {Q : D → Store → Prop} : wq (ixD (frQ q) (.int 1)) Q S = Q (.int q.den) S := by
  unfold frQ
  exact w_ixT rfl
theorem getD_tab (T : Tb) (e : List Int) : (findT (tabD T) (kI e)).getD (D.tup [.int 0, .int 1]) = frQ (val T e) := by
  rw [findT_tab]
  cases h : has T e with
  | true => rfl
  | false =>
    rw [val_not h]
    rfl
theorem num_zero (q : Rat) : q.num = 0 ↔ q = 0 := ⟨fun h => by
  have := num_den q
  rw [h] at this
  rw [← this]
  grind, fun h => by rw [h]; rfl⟩
/-- the table T after the terms done -/
structure TI (m : Nat) (b : Int) (N M : Nat) (done T : Tb) : Prop where
  nd : (T.map (·.1)).Nodup
  ok : ∀ p ∈ T, GE m b p.1 ∧ Bd N (done.length * M) p.2
  len : T.length ≤ done.length
  val : ∀ e, Dl.val T e = sumT done e
theorem TI.nil {m : Nat} {b : Int} {N M : Nat} : TI m b N M [] [] := ⟨List.nodup_nil, fun p hp => (by cases hp), Nat.le_refl _, fun e => rfl⟩
theorem TI.bd {m : Nat} {b : Int} {N M : Nat} {done T : Tb} (t : TI m b N M done T) (hN : 0 < N) (e : List Int) : Bd N (done.length * M) (Dl.val T e) := by
  cases h : has T e with
  | false => rw [val_not h]; exact Bd.zero hN
  | true =>
    obtain ⟨p, hp, rfl⟩ := List.mem_map.mp (has_mem.mp h)
    rw [val_mem t.nd hp]
    exact (t.ok p hp).2
theorem sumT_snoc (done : Tb) (e : List Int) (q : Rat) (e' : List Int) : sumT (done ++ [(e, q)]) e' = sumT done e' + if e' = e then q else 0 := by
  rw [sumT_app]
  simp only [sumT]
  grind
theorem TI.put {m : Nat} {b : Int} {N M : Nat} {done T : Tb} {e : List Int} {q v : Rat} (t : TI m b N M done T) (he : GE m b e) (hq : Bd N M q) (hv : v = Dl.val T e + q) : TI m b N M (done ++ [(e, q)]) (putQ T e v) := by
  have hl : (done ++ [(e, q)]).length = done.length + 1 := by simp
  have hb : Bd N ((done.length + 1) * M) v := by
    rw [hv, Nat.add_mul, Nat.one_mul]
    exact (t.bd hq.pos e).add hq
  refine ⟨nodup_put t.nd e v, fun p hp => ?_, ?_, fun e' => ?_⟩
  · rw [hl]
    rcases mem_put hp with h | h
    · obtain ⟨a, c⟩ := t.ok p h
      exact ⟨a, c.mono (Nat.mul_le_mul_right M (Nat.le_succ _))⟩
    · subst h
      exact ⟨he, hb⟩
  · rw [hl]
    have := len_put T e v
    have := t.len
    omega
  · rw [val_put, sumT_snoc, t.val e']
    by_cases c : e' = e
    · subst c
      rw [if_pos rfl, if_pos rfl, hv, t.val e']
    · rw [if_neg c, if_neg c]
      grind
theorem TI.drop {m : Nat} {b : Int} {N M : Nat} {done T : Tb} {e : List Int} (t : TI m b N M done T) (h0 : Dl.val T e = 0) : TI m b N M done (dropQ T e) := by
  refine ⟨nodup_drop t.nd e, fun p hp => t.ok p (List.mem_filter.mp hp).1, Nat.le_trans (List.length_filter_le _ _) t.len, fun e' => ?_⟩
  rw [val_drop]
  by_cases c : e' = e
  · rw [if_pos c, c, ← t.val e, h0]
  · rw [if_neg c]
    exact t.val e'
theorem tab_len (T : Tb) : (tabD T).length = T.length := by simp [tabD]
theorem TI.lenD {m : Nat} {b : Int} {N M : Nat} {done T : Tb} (t : TI m b N M done T) (hc : done.length ≤ 5000) : (tabD T).length < sizeLine := by
  rw [tab_len]
  have := t.len
  exact Nat.lt_of_le_of_lt (show T.length ≤ 5000 by omega) (by decide)
local macro_rules | `(tactic| walk_at "dl") => `(tactic| simp (disch := first | assumption | exact get_new | (refine get_app ?_; first | assumption | exact get_new | (refine get_app ?_; first | assumption | exact get_new)) | (refine get_set ?_; assumption) | exact atI_0 | exact atI_1 | exact atI_2 | exact ok_lex | exact ok_degree | exact ok_back | exact ok_blocks | exact ok_weights) only [
  e_cB, e_fB, e_dnew, e_dget, e_din, vt_din, e_dget2, e_dpop, e_sortp, x_dput, w_isT, w_din, w_dget2, w_dget, w_dput, w_dpop, w_fr0, w_fr1, e_var, e_int, e_bl, e_non, e_str, e_glo, e_tup, e_lst, e_op, e_neg, e_not, e_and, e_or, e_cmp, e_chain, e_ite, e_ix, e_sl, e_rev, e_call, e_bi, e_me, e_isi, e_isis, e_comp, e_tupr, e_lstr, e_nil, e_cons, e_ono, e_oso, e_cno, e_cso, vt_and, vt_or, vt_not, vt_cmp, vt_chain, vt_var, vt_bl, vt_call, vt_bi, vt_isi, vt_isis, vi_seq, vi_rng1, vi_rng2, vi_zip, vg_nm, vg_tp, vg_ixs, gs_nil, gs_cons, x_asg, x_par, x_aug, x_expr, x_ret, x_retN, x_ite, x_for, x_whl, x_pass, x_brk, x_cnt, xs_nil, k_one, k_cons, k_rt, k_bk, k_ct, r_nx, r_rt, w_neg, w_tupr, w_lstr,
  TGs.len, wq_pure, List.getElem?_cons_zero, List.getElem?_cons_succ, List.set_cons_zero, List.set_cons_succ, List.length_cons, List.length_nil, List.length_map, if_true, Bool.false_eq_true, if_false, startE, List.map_cons, List.map_nil, List.replicate, List.cons_append, List.nil_append, wipeE, Nat.zero_add, Nat.reduceAdd, Nat.reduceSub, true_and,
  w_getL_ref, w_getS_ref, w_getL_ro, w_getS_ro, w_getS_tup, w_add, w_sub, w_mul, w_addT, w_addL, w_mulL, w_fdiv, w_mod, w_pow, w_shl, w_lt, w_le, w_gt, w_ge, w_ltT, w_gtT, w_eq, w_ne, w_isN, w_isnN, w_in, w_nin, w_trB, w_trN, w_trI, w_trT, w_trL, w_lenT, w_lenR, w_lenL, w_sumT, w_sumL, w_int, w_intB, w_tupL, w_listL, w_listT, w_append, w_pop, w_reverse, w_isL, w_revT, w_asInt, w_slR, w_srcT, w_srcR, w_srcL, w_rng, w_zipT, w_unpkT, w_unpkL, w_eqB, w_eqT, w_eqI, w_ixT, w_eqS, w_eqTS, Bool.not_true, Bool.not_false, decide_true, decide_false, wd_lex_lex, wd_lex_degree, wd_lex_back, wd_lex_blocks, wd_lex_weights, wd_degree_lex, wd_degree_degree, wd_degree_back, wd_degree_blocks, wd_degree_weights, wd_back_lex, wd_back_degree, wd_back_back, wd_back_blocks, wd_back_weights, wd_blocks_lex, wd_blocks_degree, wd_blocks_back, wd_blocks_blocks, wd_blocks_weights, wd_weights_lex, wd_weights_degree, wd_weights_back, wd_weights_blocks, wd_weights_weights])
local macro_rules | `(tactic| walk_at "nx") => `(tactic| (rw [k_nx]; try walk_at "dl"))
local macro_rules | `(tactic| walk_at "cj") => `(tactic| repeat refine And.intro (by first | decide | exact lens_of (by decide) | exact lens_of (by simp) | simp) ?_)
local macro_rules | `(tactic| walk_at "cd") => `(tactic| repeat refine And.intro (by decide) ?_)
theorem mul_le_lt {c M u : Nat} (h : (c + 1) * M < u) : c * M < u ∧ M < u := by
  rw [Nat.add_mul, Nat.one_mul] at h
  omega
theorem put_member_wq {n l m : Nat} {b : Int} {N M : Nat} {done T : Tb} {e : List Int} {q : Rat} {S : Store} {Q : D → Store → Prop} (hm : 0 < m) (g : S[l]? = some (.dt false (tabD T))) (t : TI m b N M done T) (he : GE m b e) (hq : Bd N M q) (hN : N < 2 ^ 3900) (hM : (done.length + 1) * M < 2 ^ 3900) (hc : done.length ≤ 5000)
    (h : ∀ T', TI m b N M (done ++ [(e, q)]) T' → Q .non (S.set l (.dt false (tabD T')))) : wq (call gl fds (n + 3) f_put_member [.ref l, .tup (e.map .int), frQ q]) Q S := by
  rw [wq_call (fd := d_put_member) rfl rfl]
  dsimp only [d_put_member]
  unfold b_put_member
  have hne := he.ne hm
  have hz := t.lenD hc
  obtain ⟨b1, b2⟩ := mul_le_lt hM
  walk_at "dl"
  rw [findT_tab]
  cases hh : has T e with
  | true =>
    rw [if_pos rfl, Option.isSome_some, if_pos rfl]
    have hf : findT (tabD T) (kI e) = some (frQ (val T e)) := by rw [findT_tab, hh]; rfl
    walk_at "dl"
    refine add_wq (Sz.of (t.bd hq.pos e) hN b1) (Sz.of hq hN b2) ?_
    walk_at "dl"
    rw [putT_tab]
    repeat walk_at "nx"
    exact h _ (t.put he hq rfl)
  | false =>
    rw [if_neg (by simp)]
    try walk_at "dl"
    rw [putT_tab]
    repeat walk_at "nx"
    exact h _ (t.put he hq (by rw [val_not hh]; grind))
end K05
end

section
set_option Elab.async false
set_option linter.all false
set_option maxRecDepth 100000
set_option maxHeartbeats 1000000
set_option exponentiation.threshold 20000
namespace K05
open PySem PySem.Spec L2 Dl
local macro_rules | `(tactic| walk_at "dl") => `(tactic| simp (disch := first | assumption | exact get_new | (refine get_app ?_; first | assumption | exact get_new | (refine get_app ?_; first | assumption | exact get_new)) | (refine get_set ?_; assumption) | exact atI_0 | exact atI_1 | exact atI_2 | exact ok_lex | exact ok_degree | exact ok_back | exact ok_blocks | exact ok_weights) only [
  e_cB, e_fB, e_dnew, e_dget, e_din, vt_din, e_dget2, e_dpop, e_sortp, x_dput, w_isT, w_din, w_dget2, w_dget, w_dput, w_dpop, w_fr0, w_fr1, e_var, e_int, e_bl, e_non, e_str, e_glo, e_tup, e_lst, e_op, e_neg, e_not, e_and, e_or, e_cmp, e_chain, e_ite, e_ix, e_sl, e_rev, e_call, e_bi, e_me, e_isi, e_isis, e_comp, e_tupr, e_lstr, e_nil, e_cons, e_ono, e_oso, e_cno, e_cso, vt_and, vt_or, vt_not, vt_cmp, vt_chain, vt_var, vt_bl, vt_call, vt_bi, vt_isi, vt_isis, vi_seq, vi_rng1, vi_rng2, vi_zip, vg_nm, vg_tp, vg_ixs, gs_nil, gs_cons, x_asg, x_par, x_aug, x_expr, x_ret, x_retN, x_ite, x_for, x_whl, x_pass, x_brk, x_cnt, xs_nil, k_one, k_cons, k_rt, k_bk, k_ct, r_nx, r_rt, w_neg, w_tupr, w_lstr,
  TGs.len, wq_pure, List.getElem?_cons_zero, List.getElem?_cons_succ, List.set_cons_zero, List.set_cons_succ, List.length_cons, List.length_nil, List.length_map, if_true, Bool.false_eq_true, if_false, startE, List.map_cons, List.map_nil, List.replicate, List.cons_append, List.nil_append, wipeE, Nat.zero_add, Nat.reduceAdd, Nat.reduceSub, true_and,
  w_getL_ref, w_getS_ref, w_getL_ro, w_getS_ro, w_getS_tup, w_add, w_sub, w_mul, w_addT, w_addL, w_mulL, w_fdiv, w_mod, w_pow, w_shl, w_lt, w_le, w_gt, w_ge, w_ltT, w_gtT, w_eq, w_ne, w_isN, w_isnN, w_in, w_nin, w_trB, w_trN, w_trI, w_trT, w_trL, w_lenT, w_lenR, w_lenL, w_sumT, w_sumL, w_int, w_intB, w_tupL, w_listL, w_listT, w_append, w_pop, w_reverse, w_isL, w_revT, w_asInt, w_slR, w_srcT, w_srcR, w_srcL, w_rng, w_zipT, w_unpkT, w_unpkL, w_eqB, w_eqT, w_eqI, w_ixT, w_eqS, w_eqTS, Bool.not_true, Bool.not_false, decide_true, decide_false, wd_lex_lex, wd_lex_degree, wd_lex_back, wd_lex_blocks, wd_lex_weights, wd_degree_lex, wd_degree_degree, wd_degree_back, wd_degree_blocks, wd_degree_weights, wd_back_lex, wd_back_degree, wd_back_back, wd_back_blocks, wd_back_weights, wd_blocks_lex, wd_blocks_degree, wd_blocks_back, wd_blocks_blocks, wd_blocks_weights, wd_weights_lex, wd_weights_degree, wd_weights_back, wd_weights_blocks, wd_weights_weights])
local macro_rules | `(tactic| walk_at "nx") => `(tactic| (rw [k_nx]; try walk_at "dl"))
local macro_rules | `(tactic| walk_at "cj") => `(tactic| repeat refine And.intro (by first | decide | exact lens_of (by decide) | exact lens_of (by simp) | simp) ?_)
local macro_rules | `(tactic| walk_at "cd") => `(tactic| repeat refine And.intro (by decide) ?_)
/-- a polynomial's row: the one row of F, within bounds -/
structure PO (m : Nat) (o : Od) (b : Int) (N M c : Nat) (F : List Int → Rat) (L : Tb) : Prop where
  can : Can (pkey o) F L
  ok : ∀ p ∈ L, GE m b p.1 ∧ Bd N M p.2
  len : L.length ≤ c
theorem TI.inj {m : Nat} {o : Od} {b : Int} {N M : Nat} {done T : Tb} (t : TI m b N M done T) (ho : o.ok m) : ∀ x ∈ T.map (·.1), ∀ y ∈ T.map (·.1), pkey o x = pkey o y → x = y := fun x hx y hy h => by
  obtain ⟨p, hp, rfl⟩ := List.mem_map.mp hx
  obtain ⟨q, hq, rfl⟩ := List.mem_map.mp hy
  exact pkey_inj ho (t.ok p hp).1.len (t.ok q hq).1.len h
theorem nz_sub {T : Tb} {e : List Int} (h : e ∈ nz T) : e ∈ T.map (·.1) := by
  obtain ⟨p, hp, rfl⟩ := List.mem_map.mp h
  exact List.mem_map_of_mem (List.mem_filter.mp hp).1
theorem TI.po {m : Nat} {o : Od} {b : Int} {N M : Nat} {done T : Tb} (t : TI m b N M done T) (ho : o.ok m) : PO m o b N (done.length * M) done.length (sumT done) (rowOf (pkey o) T) := by
  have e : Dl.val T = sumT done := funext t.val
  refine ⟨e ▸ can_row (pkey o) t.nd (t.inj ho), fun p hp => ?_, ?_⟩
  · obtain ⟨x, hx, rfl⟩ := List.mem_map.mp hp
    have hx2 := nz_sub ((srt_perm _ _).mem_iff.mp hx)
    obtain ⟨q, hq, rfl⟩ := List.mem_map.mp hx2
    obtain ⟨h1, h2⟩ := t.ok q hq
    exact ⟨h1, by dsimp only; rw [val_mem t.nd hq]; exact h2⟩
  · unfold rowOf
    rw [List.length_map, (srt_perm _ _).length_eq]
    unfold nz
    rw [List.length_map]
    exact Nat.le_trans (List.length_filter_le _ _) t.len
theorem lock_fr {S S' : Store} {l : Nat} {kvs : List (List Key × D)} (g : S[l]? = some (.dt false kvs)) (a : Fr [] (S.set l (.dt true kvs)) S') : S'[l]? = some (.dt true kvs) ∧ Fr [] S (S'.set l (.dt false kvs)) ∧ (S'.set l (.dt false kvs))[l]? = some (.dt false kvs) := by
  have h1 : S'[l]? = some (.dt true kvs) := a.get l _ (by simp) (get_set g)
  refine ⟨h1, ⟨?_, fun i p hi e => ?_⟩, get_set h1⟩
  · have := a.le
    simp only [List.length_set] at *
    exact this
  · by_cases c : l = i
    · subst c
      rw [get_set h1]
      rw [g] at e
      exact e
    · rw [List.getElem?_set_ne c]
      exact a.get i p hi (by rw [List.getElem?_set_ne c]; exact e)
theorem unkey_tab (T : Tb) : ((tabD T).map fun kv => unkey kv.1) = T.map fun p => D.tup (p.1.map .int) := by
  unfold tabD
  rw [List.map_map]
  refine List.map_congr_left fun p _ => ?_
  simp only [Function.comp, unkey, kI, List.map_map]
  rfl
theorem find_mem {T : Tb} {e : List Int} (h : e ∈ T.map (·.1)) : findT (tabD T) (kI e) = some (frQ (Dl.val T e)) := by
  rw [findT_tab, has_mem.mpr h, if_pos rfl]
theorem filt_nz {β : Type} (T : Tb) (f : List Int → β) : (T.filterMap fun p => if decide (p.2 ≠ 0) = true then some (f p.1) else none) = (nz T).map f := by
  rw [filterMap_fm (fun p : List Int × Rat => decide (p.2 ≠ 0)) (fun p => f p.1)]
  unfold nz
  rw [List.map_map]
  rfl
theorem row_data (k : List Int → List Int) (T : Tb) : ((srt k (nz T)).map fun e => memD (e, Dl.val T e)) = (rowOf k T).map memD := by
  unfold rowOf
  rw [List.map_map]
  rfl
theorem ints_some : ∀ e : List Int, intsOf (e.map D.int) = some e
  | [] => rfl
  | x :: e => by simp only [List.map_cons, intsOf, ints_some e, Option.map_some]
theorem pairs_ok (k : List Int → List Int) : ∀ xs : List (List Int), pairsI (xs.map fun e => D.tup [.tup ((k e).map .int), .tup (e.map .int)]) = some (xs.map fun e => (k e, e))
  | [] => rfl
  | e :: xs => by
    have ih := pairs_ok k xs
    have h1 : pairI (D.tup [.tup ((k e).map .int), .tup (e.map .int)]) = some (k e, e) := by
      unfold pairI
      dsimp only
      rw [ints_some, ints_some]
    simp only [List.map_cons, pairsI, h1, ih]
theorem law_poly_wq {n l m : Nat} {o : Od} {b : Int} {N M : Nat} {done T : Tb} {S : Store} {Q : D → Store → Prop} (ho : o.ok m) (hm : 0 < m) (hm' : m ≤ 10) (hb : b ≤ 1000) (g : S[l]? = some (.dt false (tabD T))) (t : TI m b N M done T) (hc : done.length ≤ 1000)
    (h : ∀ L S', PO m o b N (done.length * M) done.length (sumT done) L → Fr [] S S' → Q (polyD L) S') : wq (call gl fds (n + 2) f__law_poly [.tup [.int m, o.d], .ref l]) Q S := by
  rw [wq_call (fd := d__law_poly) rfl rfl]
  dsimp only [d__law_poly]
  unfold b__law_poly
  have htl := t.len
  have hmem : ∀ x ∈ srt (pkey o) (nz T), x ∈ T.map (·.1) := fun x hx => nz_sub ((srt_perm _ _).mem_iff.mp hx)
  have hge : ∀ x ∈ T.map (·.1), GE m b x := fun x hx => by
    obtain ⟨p, hp, rfl⟩ := List.mem_map.mp hx
    exact (t.ok p hp).1
  have po := t.po ho
  walk_at "dl"
  refine e_dcomp rfl g ?_
  rw [unkey_tab]
  refine compL_filt (e := fun p : List Int × Rat => D.tup (p.1.map .int)) (fun p => if decide (p.2 ≠ 0) = true then some (D.tup [.tup ((pkey o p.1).map .int), .tup (p.1.map .int)]) else none) (by omega) (fun _ _ => Gd_none) (fun p hp S' a => ?_) fun S' a => ?_
  · have hk := List.mem_map_of_mem (f := (·.1)) hp
    have gp := hge _ hk
    have hne := gp.ne hm
    have g1 : S'[l]? = some (.dt true (tabD T)) := a.get l _ (by simp) (get_set g)
    have hf := find_mem hk
    rw [val_mem t.nd hp] at hf
    walk_at "dl"
    refine ⟨by decide, ?_⟩
    by_cases c : p.2 = 0
    · rw [if_neg (by rw [(num_zero p.2).mpr c]; decide), if_neg (by simpa using c)]
      exact ⟨rfl, .refl⟩
    · rw [if_pos (by rw [decide_eq_false (fun z => c ((num_zero p.2).mp z))]; rfl), if_pos (by simpa using c)]
      refine lkey_wq ho gp.len hm' (gp.k hb) fun S3 a3 => ?_
      exact ⟨by decide, rfl, a3⟩
  · obtain ⟨g1, f1, g2⟩ := lock_fr g a
    refine ⟨g1, ?_⟩
    rw [filt_nz T (fun e => D.tup [.tup ((pkey o e).map .int), .tup (e.map .int)])]
    have e1 := sort_law (pkey o) (fun e => D.tup [.tup ((pkey o e).map .int), .tup (e.map .int)]) (nz T) (fun a ha b hb => t.inj ho a (nz_sub ha) b (nz_sub hb))
    generalize hf0 : (fun e => D.tup [.tup ((pkey o e).map .int), .tup (e.map .int)]) = f0 at *
    have g3 := get_new (S := S'.set l (.dt false (tabD T))) (o := .lst ((nz T).map f0))
    have g4 := get_app (o := .lst ((nz T).map f0)) g2
    have f2 := f1.new (.lst ((nz T).map f0))
    rw [List.length_set] at g3
    generalize (S'.set l (.dt false (tabD T)) ++ [.lst ((nz T).map f0)]) = S2 at *
    rw [w_sortPD g3 (by rw [← hf0]; exact pairs_ok (pkey o) (nz T))]
    rw [List.map_map]
    refine ⟨by decide, ?_⟩
    have e2 : (nz T).map (encP ∘ fun e => (pkey o e, e)) = (nz T).map fun x => encP (pkey o x, x) := rfl
    rw [e2, e1]
    have g5 := get_new (S := S2) (o := .lst ((srt (pkey o) (nz T)).map f0))
    have g6 := get_app (o := .lst ((srt (pkey o) (nz T)).map f0)) g4
    have f3 := f2.new (.lst ((srt (pkey o) (nz T)).map f0))
    generalize S2.length = r2 at *
    generalize (S2 ++ [.lst ((srt (pkey o) (nz T)).map f0)]) = S5 at *
    walk_at "nx"
    refine compL_tot (e := f0) (fun e => memD (e, Dl.val T e)) ?_ (fun S' a => Gd_ref (a.get _ _ (by simp) g5)) (fun x hx S6 a6 => ?_) fun S6 a6 => ?_
    · have := po.len
      unfold rowOf at this
      rw [List.length_map] at this
      omega
    · have hk := hmem x hx
      have gp := hge _ hk
      have hne := gp.ne hm
      have hf := find_mem hk
      have g7 : S6[l]? = some (.dt false (tabD T)) := a6.get _ _ (by simp) g6
      subst hf0
      walk_at "dl"
      exact ⟨by decide, by decide, rfl, .refl⟩
    · rw [row_data]
      try walk_at "dl"
      exact h _ _ po ((f3.trans a6).new _)
theorem sorted_powers_wq {n r m : Nat} {o : Od} {b : Int} {xs : List (List Int)} {S : Store} {Q : D → Store → Prop} (ho : o.ok m) (hm : 0 < m) (hm' : m ≤ 10) (hb : b ≤ 1000) (g : S[r]? = some (.lst (xs.map fun e => D.tup (e.map .int)))) (hx : ∀ e ∈ xs, GE m b e)
    (h : ∀ S', Fr [] S S' → Q (.ref S'.length) (S' ++ [.lst ((srt (pkey o) xs).map fun e => D.tup (e.map .int))])) : wq (call gl fds (n + 3) f_sorted_powers [.tup [.int m, o.d], .ref r]) Q S := by
  rw [wq_call (fd := d_sorted_powers) rfl rfl]
  dsimp only [d_sorted_powers]
  unfold b_sorted_powers
  walk_at "dl"
  refine x_rsort (f := fun e : List Int => D.tup (e.map .int)) (key := pkey o) (l := r) (ys := xs) (Sx := S) ?_ g rfl (fun x hx' S' a => ?_) fun S' a => ?_
  · walk_at "dl"
  · have gp := hx x hx'
    walk_at "dl"
    exact power_key_wq ho gp.len hm' (gp.k hb) fun S3 a3 => ⟨rfl, pkey_ne ho hm gp.len, a3⟩
  · try walk_at "dl"
    rw [sort_prog]
    exact h _ a
theorem dict_poly_wq {n l m : Nat} {o : Od} {b : Int} {N M : Nat} {done T : Tb} {S : Store} {Q : D → Store → Prop} (ho : o.ok m) (hm : 0 < m) (hm' : m ≤ 10) (hb : b ≤ 1000) (g : S[l]? = some (.dt false (tabD T))) (t : TI m b N M done T) (hc : done.length ≤ 1000)
    (h : ∀ L S', PO m o b N (done.length * M) done.length (sumT done) L → Fr [] S S' → Q (polyD L) S') : wq (call gl fds (n + 4) f_dict_poly [.tup [.int m, o.d], .ref l]) Q S := by
  rw [wq_call (fd := d_dict_poly) rfl rfl]
  dsimp only [d_dict_poly]
  unfold b_dict_poly
  have htl := t.len
  have hmem : ∀ x ∈ srt (pkey o) (nz T), x ∈ T.map (·.1) := fun x hx => nz_sub ((srt_perm _ _).mem_iff.mp hx)
  have hge : ∀ x ∈ T.map (·.1), GE m b x := fun x hx => by
    obtain ⟨p, hp, rfl⟩ := List.mem_map.mp hx
    exact (t.ok p hp).1
  have po := t.po ho
  walk_at "dl"
  refine e_dcomp rfl g ?_
  rw [unkey_tab]
  refine compL_filt (e := fun p : List Int × Rat => D.tup (p.1.map .int)) (fun p => if decide (p.2 ≠ 0) = true then some (D.tup (p.1.map .int)) else none) (by omega) (fun _ _ => Gd_none) (fun p hp S' a => ?_) fun S' a => ?_
  · have hk := List.mem_map_of_mem (f := (·.1)) hp
    have gp := hge _ hk
    have hne := gp.ne hm
    have g1 : S'[l]? = some (.dt true (tabD T)) := a.get l _ (by simp) (get_set g)
    have hf := find_mem hk
    rw [val_mem t.nd hp] at hf
    walk_at "dl"
    refine ⟨by decide, ?_⟩
    by_cases c : p.2 = 0
    · rw [if_neg (by rw [(num_zero p.2).mpr c]; decide), if_neg (by simpa using c)]
      exact ⟨rfl, .refl⟩
    · rw [if_pos (by rw [decide_eq_false (fun z => c ((num_zero p.2).mp z))]; rfl), if_pos (by simpa using c)]
      exact ⟨rfl, .refl⟩
  · obtain ⟨g1, f1, g2⟩ := lock_fr g a
    refine ⟨g1, ?_⟩
    rw [filt_nz T (fun e => D.tup (e.map .int))]
    have g3 := get_new (S := S'.set l (.dt false (tabD T))) (o := .lst ((nz T).map fun e => D.tup (e.map .int)))
    have g4 := get_app (o := .lst ((nz T).map fun e => D.tup (e.map .int))) g2
    have f2 := f1.new (.lst ((nz T).map fun e => D.tup (e.map .int)))
    rw [List.length_set] at g3
    generalize (S'.set l (.dt false (tabD T)) ++ [.lst ((nz T).map fun e => D.tup (e.map .int))]) = S2 at *
    refine ⟨by decide, ?_⟩
    walk_at "nx"
    refine sorted_powers_wq ho hm hm' hb g3 (fun e he => hge e (nz_sub he)) fun S4 a4 => ?_
    have g5 := get_new (S := S4) (o := .lst ((srt (pkey o) (nz T)).map fun e => D.tup (e.map .int)))
    have g6 := get_app (o := .lst ((srt (pkey o) (nz T)).map fun e => D.tup (e.map .int))) (a4.get _ _ (by simp) g4)
    have f3 := (f2.trans a4).new (.lst ((srt (pkey o) (nz T)).map fun e => D.tup (e.map .int)))
    generalize S4.length = r2 at *
    generalize (S4 ++ [.lst ((srt (pkey o) (nz T)).map fun e => D.tup (e.map .int))]) = S5 at *
    try walk_at "dl"
    refine compL_tot (e := fun e : List Int => D.tup (e.map .int)) (fun e => memD (e, Dl.val T e)) ?_ (fun S' a => Gd_ref (a.get _ _ (by simp) g5)) (fun x hx S6 a6 => ?_) fun S6 a6 => ?_
    · have := po.len
      unfold rowOf at this
      rw [List.length_map] at this
      omega
    · have hk := hmem x hx
      have gp := hge _ hk
      have hne := gp.ne hm
      have hf := find_mem hk
      have g7 : S6[l]? = some (.dt false (tabD T)) := a6.get _ _ (by simp) g6
      walk_at "dl"
      exact ⟨by decide, by decide, rfl, .refl⟩
    · rw [row_data]
      try walk_at "dl"
      exact h _ _ po ((f3.trans a6).new _)
end K05
end

section
set_option Elab.async false
set_option linter.all false
set_option maxRecDepth 100000
set_option maxHeartbeats 1000000
set_option exponentiation.threshold 20000
namespace K05
open PySem PySem.Spec L2 Dl
local macro_rules | `(tactic| walk_at "dl") => `(tactic| simp (disch := first | assumption | exact get_new | (refine get_app ?_; first | assumption | exact get_new | (refine get_app ?_; first | assumption | exact get_new)) | (refine get_set ?_; assumption) | exact atI_0 | exact atI_1 | exact atI_2 | exact ok_lex | exact ok_degree | exact ok_back | exact ok_blocks | exact ok_weights) only [
  e_cB, e_fB, e_dnew, e_dget, e_din, vt_din, e_dget2, e_dpop, e_sortp, x_dput, w_isT, w_din, w_dget2, w_dget, w_dput, w_dpop, w_fr0, w_fr1, e_var, e_int, e_bl, e_non, e_str, e_glo, e_tup, e_lst, e_op, e_neg, e_not, e_and, e_or, e_cmp, e_chain, e_ite, e_ix, e_sl, e_rev, e_call, e_bi, e_me, e_isi, e_isis, e_comp, e_tupr, e_lstr, e_nil, e_cons, e_ono, e_oso, e_cno, e_cso, vt_and, vt_or, vt_not, vt_cmp, vt_chain, vt_var, vt_bl, vt_call, vt_bi, vt_isi, vt_isis, vi_seq, vi_rng1, vi_rng2, vi_zip, vg_nm, vg_tp, vg_ixs, gs_nil, gs_cons, x_asg, x_par, x_aug, x_expr, x_ret, x_retN, x_ite, x_for, x_whl, x_pass, x_brk, x_cnt, xs_nil, k_one, k_cons, k_rt, k_bk, k_ct, r_nx, r_rt, w_neg, w_tupr, w_lstr,
  TGs.len, wq_pure, List.getElem?_cons_zero, List.getElem?_cons_succ, List.set_cons_zero, List.set_cons_succ, List.length_cons, List.length_nil, List.length_map, if_true, Bool.false_eq_true, if_false, startE, List.map_cons, List.map_nil, List.replicate, List.cons_append, List.nil_append, wipeE, Nat.zero_add, Nat.reduceAdd, Nat.reduceSub, true_and,
  w_getL_ref, w_getS_ref, w_getL_ro, w_getS_ro, w_getS_tup, w_add, w_sub, w_mul, w_addT, w_addL, w_mulL, w_fdiv, w_mod, w_pow, w_shl, w_lt, w_le, w_gt, w_ge, w_ltT, w_gtT, w_eq, w_ne, w_isN, w_isnN, w_in, w_nin, w_trB, w_trN, w_trI, w_trT, w_trL, w_lenT, w_lenR, w_lenL, w_sumT, w_sumL, w_int, w_intB, w_tupL, w_listL, w_listT, w_append, w_pop, w_reverse, w_isL, w_revT, w_asInt, w_slR, w_srcT, w_srcR, w_srcL, w_rng, w_zipT, w_unpkT, w_unpkL, w_eqB, w_eqT, w_eqI, w_ixT, w_eqS, w_eqTS, Bool.not_true, Bool.not_false, decide_true, decide_false, wd_lex_lex, wd_lex_degree, wd_lex_back, wd_lex_blocks, wd_lex_weights, wd_degree_lex, wd_degree_degree, wd_degree_back, wd_degree_blocks, wd_degree_weights, wd_back_lex, wd_back_degree, wd_back_back, wd_back_blocks, wd_back_weights, wd_blocks_lex, wd_blocks_degree, wd_blocks_back, wd_blocks_blocks, wd_blocks_weights, wd_weights_lex, wd_weights_degree, wd_weights_back, wd_weights_blocks, wd_weights_weights])
local macro_rules | `(tactic| walk_at "nx") => `(tactic| (rw [k_nx]; try walk_at "dl"))
local macro_rules | `(tactic| walk_at "cj") => `(tactic| repeat refine And.intro (by first | decide | exact lens_of (by decide) | exact lens_of (by simp) | simp) ?_)
local macro_rules | `(tactic| walk_at "cd") => `(tactic| repeat refine And.intro (by decide) ?_)
/-- the table l after the terms done, seen from S0 where it is new -/
def At (l m : Nat) (b : Int) (N M : Nat) (S0 : Store) (done : Tb) (S : Store) : Prop := ∃ T, S[l]? = some (.dt false (tabD T)) ∧ TI m b N M done T ∧ Fr [] S0 S
theorem At.fr {l m : Nat} {b : Int} {N M : Nat} {S0 S S' : Store} {done : Tb} (h : At l m b N M S0 done S) (k : Fr [] S S') : At l m b N M S0 done S' := by
  obtain ⟨T, h1, h2, h3⟩ := h
  exact ⟨T, k.get _ _ (by simp) h1, h2, h3.trans k⟩
theorem At.f {l m : Nat} {b : Int} {N M : Nat} {S0 S : Store} {done : Tb} (h : At l m b N M S0 done S) : Fr [] S0 S := by
  obtain ⟨T, h1, h2, h3⟩ := h
  exact h3
theorem At.new {m : Nat} {b : Int} {N M : Nat} {S : Store} : At S.length m b N M S [] (S ++ [.dt false []]) := ⟨[], get_new, TI.nil, Fr.new .refl _⟩
theorem put_member_at {n l m : Nat} {b : Int} {N M : Nat} {done : Tb} {e : List Int} {q : Rat} {S0 S : Store} {Q : D → Store → Prop} (hm : 0 < m) (hl : S0.length ≤ l) (t : At l m b N M S0 done S) (he : GE m b e) (hq : Bd N M q) (hN : N < 2 ^ 3900) (hM : (done.length + 1) * M < 2 ^ 3900) (hc : done.length ≤ 1000)
    (h : ∀ S', At l m b N M S0 (done ++ [(e, q)]) S' → Q .non S') : wq (call gl fds (n + 3) f_put_member [.ref l, .tup (e.map .int), frQ q]) Q S := by
  obtain ⟨T, h1, h2, h3⟩ := t
  exact put_member_wq hm h1 h2 he hq hN hM (by omega) fun T' t' => h _ ⟨T', get_set h1, t', h3.set _ (.inr hl)⟩
theorem law_poly_at {n l m : Nat} {o : Od} {b : Int} {N M : Nat} {done : Tb} {S0 S : Store} {Q : D → Store → Prop} (ho : o.ok m) (hm : 0 < m) (hm' : m ≤ 10) (hb : b ≤ 1000) (t : At l m b N M S0 done S) (hc : done.length ≤ 1000)
    (h : ∀ L S', PO m o b N (done.length * M) done.length (sumT done) L → Fr [] S0 S' → Q (polyD L) S') : wq (call gl fds (n + 2) f__law_poly [.tup [.int m, o.d], .ref l]) Q S := by
  obtain ⟨T, h1, h2, h3⟩ := t
  exact law_poly_wq ho hm hm' hb h1 h2 hc fun L S' po f => h L S' po (h3.trans f)
theorem dict_poly_at {n l m : Nat} {o : Od} {b : Int} {N M : Nat} {done : Tb} {S0 S : Store} {Q : D → Store → Prop} (ho : o.ok m) (hm : 0 < m) (hm' : m ≤ 10) (hb : b ≤ 1000) (t : At l m b N M S0 done S) (hc : done.length ≤ 1000)
    (h : ∀ L S', PO m o b N (done.length * M) done.length (sumT done) L → Fr [] S0 S' → Q (polyD L) S') : wq (call gl fds (n + 4) f_dict_poly [.tup [.int m, o.d], .ref l]) Q S := by
  obtain ⟨T, h1, h2, h3⟩ := t
  exact dict_poly_wq ho hm hm' hb h1 h2 hc fun L S' po f => h L S' po (h3.trans f)
/-- members within bounds -/
def Mb (m : Nat) (b : Int) (N M : Nat) (f : Tb) : Prop := ∀ p ∈ f, GE m b p.1 ∧ Bd N M p.2
theorem bd_len {a c k M : Nat} (h : (c + 1) * M < k) (hac : a ≤ c) : (a + 1) * M < k := Nat.lt_of_le_of_lt (Nat.mul_le_mul_right M (by omega)) h
def terms (rs : List (Nat × Tb × Tb)) : Tb := rs.flatMap fun x => prodT x.2.1 x.2.2
theorem terms_cut {done rest : List (Nat × Tb × Tb)} {x : Nat × Tb × Tb} : terms (done ++ x :: rest) = terms done ++ (prodT x.2.1 x.2.2 ++ terms rest) := by simp [terms]
theorem prod_cut {d f : Tb} {p : List Int × Rat} {g : Tb} : prodT (d ++ p :: f) g = prodT d g ++ ((g.map fun q => (addE p.1 q.1, p.2 * q.2)) ++ prodT f g) := by simp [prodT]
end K05
end

section
set_option Elab.async false
set_option linter.all false
set_option maxRecDepth 100000
set_option maxHeartbeats 1000000
set_option exponentiation.threshold 20000
namespace K05
open PySem PySem.Spec L2 Dl
local macro_rules | `(tactic| walk_at "dl") => `(tactic| simp (disch := first | assumption | exact get_new | (refine get_app ?_; first | assumption | exact get_new | (refine get_app ?_; first | assumption | exact get_new)) | (refine get_set ?_; assumption) | exact atI_0 | exact atI_1 | exact atI_2 | exact ok_lex | exact ok_degree | exact ok_back | exact ok_blocks | exact ok_weights) only [
  e_cB, e_fB, e_dnew, e_dget, e_din, vt_din, e_dget2, e_dpop, e_sortp, x_dput, w_isT, w_din, w_dget2, w_dget, w_dput, w_dpop, w_fr0, w_fr1, e_var, e_int, e_bl, e_non, e_str, e_glo, e_tup, e_lst, e_op, e_neg, e_not, e_and, e_or, e_cmp, e_chain, e_ite, e_ix, e_sl, e_rev, e_call, e_bi, e_me, e_isi, e_isis, e_comp, e_tupr, e_lstr, e_nil, e_cons, e_ono, e_oso, e_cno, e_cso, vt_and, vt_or, vt_not, vt_cmp, vt_chain, vt_var, vt_bl, vt_call, vt_bi, vt_isi, vt_isis, vi_seq, vi_rng1, vi_rng2, vi_zip, vg_nm, vg_tp, vg_ixs, gs_nil, gs_cons, x_asg, x_par, x_aug, x_expr, x_ret, x_retN, x_ite, x_for, x_whl, x_pass, x_brk, x_cnt, xs_nil, k_one, k_cons, k_rt, k_bk, k_ct, r_nx, r_rt, w_neg, w_tupr, w_lstr,
  TGs.len, wq_pure, List.getElem?_cons_zero, List.getElem?_cons_succ, List.set_cons_zero, List.set_cons_succ, List.length_cons, List.length_nil, List.length_map, if_true, Bool.false_eq_true, if_false, startE, List.map_cons, List.map_nil, List.replicate, List.cons_append, List.nil_append, wipeE, Nat.zero_add, Nat.reduceAdd, Nat.reduceSub, true_and,
  w_getL_ref, w_getS_ref, w_getL_ro, w_getS_ro, w_getS_tup, w_add, w_sub, w_mul, w_addT, w_addL, w_mulL, w_fdiv, w_mod, w_pow, w_shl, w_lt, w_le, w_gt, w_ge, w_ltT, w_gtT, w_eq, w_ne, w_isN, w_isnN, w_in, w_nin, w_trB, w_trN, w_trI, w_trT, w_trL, w_lenT, w_lenR, w_lenL, w_sumT, w_sumL, w_int, w_intB, w_tupL, w_listL, w_listT, w_append, w_pop, w_reverse, w_isL, w_revT, w_asInt, w_slR, w_srcT, w_srcR, w_srcL, w_rng, w_zipT, w_unpkT, w_unpkL, w_eqB, w_eqT, w_eqI, w_ixT, w_eqS, w_eqTS, Bool.not_true, Bool.not_false, decide_true, decide_false, wd_lex_lex, wd_lex_degree, wd_lex_back, wd_lex_blocks, wd_lex_weights, wd_degree_lex, wd_degree_degree, wd_degree_back, wd_degree_blocks, wd_degree_weights, wd_back_lex, wd_back_degree, wd_back_back, wd_back_blocks, wd_back_weights, wd_blocks_lex, wd_blocks_degree, wd_blocks_back, wd_blocks_blocks, wd_blocks_weights, wd_weights_lex, wd_weights_degree, wd_weights_back, wd_weights_blocks, wd_weights_weights])
local macro_rules | `(tactic| walk_at "nx") => `(tactic| (rw [k_nx]; try walk_at "dl"))
local macro_rules | `(tactic| walk_at "cj") => `(tactic| repeat refine And.intro (by first | decide | exact lens_of (by decide) | exact lens_of (by simp) | simp) ?_)
local macro_rules | `(tactic| walk_at "cd") => `(tactic| repeat refine And.intro (by decide) ?_)
theorem PO.mono {m : Nat} {o : Od} {b b' : Int} {N M M' c c' : Nat} {F : List Int → Rat} {L : Tb} (h : PO m o b N M c F L) (hb : b ≤ b') (hM : M ≤ M') (hc : c ≤ c') : PO m o b' N M' c' F L := ⟨h.can, fun p hp => by
  obtain ⟨h1, h2⟩ := h.ok p hp
  exact ⟨h1.mono hb, h2.mono hM⟩, Nat.le_trans h.len hc⟩
/-- members, as a tuple or as a list -/
def Sq (d : D) (L : Tb) (S : Store) : Prop := d = .tup (L.map memD) ∨ ∃ r, d = .ref r ∧ S[r]? = some (.lst (L.map memD))
theorem Sq.src {d : D} {L : Tb} {S0 S : Store} {Q : Src → Store → Prop} (h : Sq d L S0) (f : Fr [] S0 S) (k : ∀ s : Src, s.items = L.map memD → (∀ S', Fr [] S0 S' → s.Gd S') → Q s S) : wq (seqSrc d) Q S := by
  rcases h with rfl | ⟨r, rfl, g⟩
  · rw [w_srcT]
    exact k _ rfl fun _ _ => Gd_none
  · rw [w_srcL (f.get _ _ (by simp) g)]
    exact k _ rfl fun S' f => Gd_ref (f.get _ _ (by simp) g)
theorem Sq.fr {d : D} {L : Tb} {S S' : Store} (h : Sq d L S) (f : Fr [] S S') : Sq d L S' := by
  rcases h with rfl | ⟨r, rfl, g⟩
  · exact .inl rfl
  · exact .inr ⟨r, rfl, f.get _ _ (by simp) g⟩
theorem ring_poly_wq {n m : Nat} {o : Od} {b : Int} {N M : Nat} {d : D} {L : Tb} {S : Store} {Q : D → Store → Prop} (ho : o.ok m) (hm : 0 < m) (hm' : m ≤ 10) (hb : b ≤ 1000) (hd : Sq d L S) (ml : Mb m b N M L) (hc : L.length ≤ 1000) (hN : N < 2 ^ 3900) (hM : (L.length + 1) * M < 2 ^ 3900)
    (h : ∀ L' S', PO m o b N (L.length * M) L.length (sumT L) L' → Fr [] S S' → Q (polyD L') S') : wq (call gl fds (n + 5) f_ring_poly [.tup [.int m, o.d], d]) Q S := by
  rw [wq_call (fd := d_ring_poly) rfl rfl]
  dsimp only [d_ring_poly]
  unfold b_ring_poly
  walk_at "dl"
  have a0 : At S.length m b N M S [] (S ++ [.dt false []]) := At.new
  generalize hl0 : S.length = l at a0 ⊢
  have hl : S.length ≤ l := Nat.le_of_eq hl0
  generalize (S ++ [Ob.dt false []]) = S1 at *
  refine ⟨by decide, ?_⟩
  walk_at "nx"
  refine hd.src a0.f fun s hs hg => ?_
  rw [hs]
  refine forL_gen (e := memD) (fun done _ e S' => At l m b N M S done S' ∧ ∃ o3 o4, e = [some (.tup [.int m, o.d]), some d, some (.ref l), o3, o4]) (fun _ _ _ S' k => hg S' k.1.f) ?_ ?_ ?_
  · exact ⟨a0, _, _, rfl⟩
  · rintro e S2 ⟨a2, o3, o4, rfl⟩
    walk_at "nx"
    exact dict_poly_at ho hm hm' hb a2 hc h
  · rintro done p rest e S2 hx ⟨a2, o3, o4, rfl⟩
    have pm : p ∈ L := by rw [hx]; simp
    obtain ⟨pe, pq⟩ := p
    obtain ⟨gp, bp⟩ := ml _ pm
    dsimp only at gp bp
    have hl2 : L.length = done.length + (rest.length + 1) := by rw [hx]; simp
    dsimp only [memD]
    walk_at "dl"
    refine ⟨by decide, by decide, ?_⟩
    refine put_member_at hm hl a2 gp bp hN (bd_len hM (by omega)) (by omega) fun S6 a6 => ?_
    try walk_at "nx"
    exact ⟨a6, _, _, rfl⟩
theorem put_product_wq {n l m : Nat} {b1 b2 : Int} {N1 N2 M1 M2 : Nat} {g : Tb} {e : List Int} {q : Rat} {done : Tb} {S0 S : Store} {Q : D → Store → Prop} (hm : 0 < m) (hm' : m ≤ 10) (hl : S0.length ≤ l) (t : At l m (b1 + b2) (N1 * N2) (M1 * M2) S0 done S) (he : GE m b1 e) (hq : Bd N1 M1 q) (mg : Mb m b2 N2 M2 g) (hN1 : N1 < 2 ^ 3900) (hN2 : N2 < 2 ^ 3900) (hM1 : M1 < 2 ^ 3900) (hM2 : M2 < 2 ^ 3900) (hN : N1 * N2 < 2 ^ 3900) (hM : (done.length + g.length + 1) * (M1 * M2) < 2 ^ 3900) (hc : done.length + g.length ≤ 1000)
    (h : ∀ S', At l m (b1 + b2) (N1 * N2) (M1 * M2) S0 (done ++ g.map fun r => (addE e r.1, q * r.2)) S' → Q .non S') : wq (call gl fds (n + 4) f_put_product [.ref l, polyD g, .tup (e.map .int), frQ q]) Q S := by
  rw [wq_call (fd := d_put_product) rfl rfl]
  dsimp only [d_put_product]
  unfold b_put_product polyD
  walk_at "dl"
  refine forL_gen (e := memD) (fun d _ en S' => At l m (b1 + b2) (N1 * N2) (M1 * M2) S0 (done ++ d.map fun r => (addE e r.1, q * r.2)) S' ∧ ∃ o4 o5, en = [some (.ref l), some (.tup (g.map memD)), some (.tup (e.map .int)), some (frQ q), o4, o5]) (fun _ _ _ _ _ => Gd_none) ?_ ?_ ?_
  · exact ⟨by simpa using t, _, _, rfl⟩
  · rintro en S2 ⟨a2, o4, o5, rfl⟩
    walk_at "nx"
    exact h _ a2
  · rintro d p rest en S2 hx ⟨a2, o4, o5, rfl⟩
    have pm : p ∈ g := by rw [hx]; simp
    obtain ⟨pe, pq⟩ := p
    obtain ⟨gp, bp⟩ := mg _ pm
    dsimp only at gp bp
    have hl2 : g.length = d.length + (rest.length + 1) := by rw [hx]; simp
    dsimp only [memD]
    walk_at "dl"
    refine ⟨by decide, by decide, ?_⟩
    refine power_product_wq (by have := gp.len; omega) fun S3 f3 => ?_
    refine multiply_wq (Sz.of bp hN2 hM2) (Sz.of hq hN1 hM1) ?_
    rw [addE_comm, Rat.mul_comm]
    refine put_member_at hm hl (a2.fr f3) (he.add gp) (hq.mul bp) hN (bd_len hM (by simp; omega)) (by simp; omega) fun S6 a6 => ?_
    try walk_at "nx"
    exact ⟨by simpa using a6, _, _, rfl⟩
theorem multiply_poly_wq {n m : Nat} {o : Od} {b1 b2 : Int} {N1 N2 M1 M2 : Nat} {f g : Tb} {S : Store} {Q : D → Store → Prop} (ho : o.ok m) (hm : 0 < m) (hm' : m ≤ 10) (hb : b1 + b2 ≤ 1000) (mf : Mb m b1 N1 M1 f) (mg : Mb m b2 N2 M2 g) (hN1 : N1 < 2 ^ 3900) (hN2 : N2 < 2 ^ 3900) (hM1 : M1 < 2 ^ 3900) (hM2 : M2 < 2 ^ 3900) (hN : N1 * N2 < 2 ^ 3900) (hM : ((prodT f g).length + 1) * (M1 * M2) < 2 ^ 3900) (hc : (prodT f g).length ≤ 1000)
    (h : ∀ L S', PO m o (b1 + b2) (N1 * N2) ((prodT f g).length * (M1 * M2)) (prodT f g).length (sumT (prodT f g)) L → Fr [] S S' → Q (polyD L) S') : wq (call gl fds (n + 5) f_multiply_poly [.tup [.int m, o.d], polyD f, polyD g]) Q S := by
  rw [wq_call (fd := d_multiply_poly) rfl rfl]
  dsimp only [d_multiply_poly]
  unfold b_multiply_poly
  walk_at "dl"
  have a0 : At S.length m (b1 + b2) (N1 * N2) (M1 * M2) S [] (S ++ [.dt false []]) := At.new
  generalize hl0 : S.length = l at a0 ⊢
  have hl : S.length ≤ l := Nat.le_of_eq hl0
  generalize (S ++ [Ob.dt false []]) = S1 at *
  refine ⟨by decide, ?_⟩
  conv in polyD f => unfold polyD
  walk_at "nx"
  refine forL_gen (e := memD) (fun d _ e S' => At l m (b1 + b2) (N1 * N2) (M1 * M2) S (prodT d g) S' ∧ ∃ o4 o5, e = [some (.tup [.int m, o.d]), some (.tup (f.map memD)), some (polyD g), some (.ref l), o4, o5]) (fun _ _ _ _ _ => Gd_none) ?_ ?_ ?_
  · exact ⟨a0, _, _, rfl⟩
  · rintro e S2 ⟨a2, o4, o5, rfl⟩
    walk_at "nx"
    exact dict_poly_at ho hm hm' hb a2 hc h
  · rintro d p rest e S2 hx ⟨a2, o4, o5, rfl⟩
    have pm : p ∈ f := by rw [hx]; simp
    obtain ⟨pe, pq⟩ := p
    obtain ⟨gp, bp⟩ := mf _ pm
    dsimp only at gp bp
    have hcut : (prodT f g).length = (prodT d g).length + (g.length + (prodT rest g).length) := by rw [hx, prod_cut]; simp
    dsimp only [memD]
    walk_at "dl"
    refine ⟨by decide, by decide, ?_⟩
    refine put_product_wq hm hm' hl a2 gp bp mg hN1 hN2 hM1 hM2 hN (bd_len hM (by omega)) (by omega) fun S6 a6 => ?_
    try walk_at "nx"
    exact ⟨by simpa [prodT] using a6, _, _, rfl⟩
end K05
end

section
set_option Elab.async false
set_option linter.all false
set_option maxRecDepth 100000
set_option maxHeartbeats 1000000
set_option exponentiation.threshold 20000
namespace K05
open PySem PySem.Spec L2 Dl
local macro_rules | `(tactic| walk_at "dl") => `(tactic| simp (disch := first | assumption | exact get_new | (refine get_app ?_; first | assumption | exact get_new | (refine get_app ?_; first | assumption | exact get_new)) | (refine get_set ?_; assumption) | exact atI_0 | exact atI_1 | exact atI_2 | exact ok_lex | exact ok_degree | exact ok_back | exact ok_blocks | exact ok_weights) only [
  e_cB, e_fB, e_dnew, e_dget, e_din, vt_din, e_dget2, e_dpop, e_sortp, x_dput, w_isT, w_din, w_dget2, w_dget, w_dput, w_dpop, w_fr0, w_fr1, e_var, e_int, e_bl, e_non, e_str, e_glo, e_tup, e_lst, e_op, e_neg, e_not, e_and, e_or, e_cmp, e_chain, e_ite, e_ix, e_sl, e_rev, e_call, e_bi, e_me, e_isi, e_isis, e_comp, e_tupr, e_lstr, e_nil, e_cons, e_ono, e_oso, e_cno, e_cso, vt_and, vt_or, vt_not, vt_cmp, vt_chain, vt_var, vt_bl, vt_call, vt_bi, vt_isi, vt_isis, vi_seq, vi_rng1, vi_rng2, vi_zip, vg_nm, vg_tp, vg_ixs, gs_nil, gs_cons, x_asg, x_par, x_aug, x_expr, x_ret, x_retN, x_ite, x_for, x_whl, x_pass, x_brk, x_cnt, xs_nil, k_one, k_cons, k_rt, k_bk, k_ct, r_nx, r_rt, w_neg, w_tupr, w_lstr,
  TGs.len, wq_pure, List.getElem?_cons_zero, List.getElem?_cons_succ, List.set_cons_zero, List.set_cons_succ, List.length_cons, List.length_nil, List.length_map, if_true, Bool.false_eq_true, if_false, startE, List.map_cons, List.map_nil, List.replicate, List.cons_append, List.nil_append, wipeE, Nat.zero_add, Nat.reduceAdd, Nat.reduceSub, true_and,
  w_getL_ref, w_getS_ref, w_getL_ro, w_getS_ro, w_getS_tup, w_add, w_sub, w_mul, w_addT, w_addL, w_mulL, w_fdiv, w_mod, w_pow, w_shl, w_lt, w_le, w_gt, w_ge, w_ltT, w_gtT, w_eq, w_ne, w_isN, w_isnN, w_in, w_nin, w_trB, w_trN, w_trI, w_trT, w_trL, w_lenT, w_lenR, w_lenL, w_sumT, w_sumL, w_int, w_intB, w_tupL, w_listL, w_listT, w_append, w_pop, w_reverse, w_isL, w_revT, w_asInt, w_slR, w_srcT, w_srcR, w_srcL, w_rng, w_zipT, w_unpkT, w_unpkL, w_eqB, w_eqT, w_eqI, w_ixT, w_eqS, w_eqTS, Bool.not_true, Bool.not_false, decide_true, decide_false, wd_lex_lex, wd_lex_degree, wd_lex_back, wd_lex_blocks, wd_lex_weights, wd_degree_lex, wd_degree_degree, wd_degree_back, wd_degree_blocks, wd_degree_weights, wd_back_lex, wd_back_degree, wd_back_back, wd_back_blocks, wd_back_weights, wd_blocks_lex, wd_blocks_degree, wd_blocks_back, wd_blocks_blocks, wd_blocks_weights, wd_weights_lex, wd_weights_degree, wd_weights_back, wd_weights_blocks, wd_weights_weights])
local macro_rules | `(tactic| walk_at "nx") => `(tactic| (rw [k_nx]; try walk_at "dl"))
local macro_rules | `(tactic| walk_at "cj") => `(tactic| repeat refine And.intro (by first | decide | exact lens_of (by decide) | exact lens_of (by simp) | simp) ?_)
local macro_rules | `(tactic| walk_at "cd") => `(tactic| repeat refine And.intro (by decide) ?_)
def scaleT (f : Tb) (q : Rat) : Tb := if q = 0 then [] else f.map fun p => (p.1, p.2 * q)
def constT (m : Nat) (q : Rat) : Tb := if q = 0 then [] else [(zer m, q)]
theorem prod_const {m : Nat} {b : Int} {N M : Nat} {f : Tb} {q : Rat} (mf : Mb m b N M f) : prodT f (constT m q) = scaleT f q := by
  unfold prodT constT scaleT
  split
  · simp
  · induction f with
    | nil => rfl
    | cons p f ih =>
      have := (mf p (by simp)).1
      simp only [List.flatMap_cons, List.map_cons, List.map_nil, List.cons_append, List.nil_append, addE_zer this]
      rw [← ih fun p hp => mf p (List.mem_cons_of_mem _ hp)]
      rfl
theorem scale_one (f : Tb) : scaleT f 1 = f := by
  unfold scaleT
  rw [if_neg (by decide)]
  conv => rhs; rw [← List.map_id f]
  refine List.map_congr_left fun p _ => ?_
  rw [Rat.mul_one]
  rfl
theorem scale_len (f : Tb) (q : Rat) : (scaleT f q).length ≤ f.length := by
  unfold scaleT
  split <;> simp
theorem Mb.scale {m : Nat} {b : Int} {N1 M1 N2 M2 : Nat} {f : Tb} {q : Rat} (mf : Mb m b N1 M1 f) (hq : Bd N2 M2 q) : Mb m b (N1 * N2) (M1 * M2) (scaleT f q) := by
  unfold scaleT
  split
  · exact fun p hp => by cases hp
  · intro p hp
    obtain ⟨r, hr, rfl⟩ := List.mem_map.mp hp
    obtain ⟨h1, h2⟩ := mf r hr
    exact ⟨h1, h2.mul hq⟩
theorem Mb.const {m : Nat} {N M : Nat} {q : Rat} (hq : Bd N M q) : Mb m 0 N M (constT m q) := by
  unfold constT
  split
  · exact fun p hp => by cases hp
  · intro p hp
    rw [List.mem_singleton.mp hp]
    exact ⟨GE.zer (Int.le_refl _), hq⟩
theorem Mb.app {m : Nat} {b : Int} {N M : Nat} {f g : Tb} (mf : Mb m b N M f) (mg : Mb m b N M g) : Mb m b N M (f ++ g) := fun p hp => (List.mem_append.mp hp).elim (mf p) (mg p)
theorem Mb.mono {m : Nat} {b b' : Int} {N M M' : Nat} {f : Tb} (mf : Mb m b N M f) (hb : b ≤ b') (hM : M ≤ M') : Mb m b' N M' f := fun p hp => ⟨(mf p hp).1.mono hb, (mf p hp).2.mono hM⟩
theorem scale_zero (f : Tb) : scaleT f 0 = [] := by unfold scaleT; rw [if_pos rfl]
theorem scale_poly_wq {n m : Nat} {o : Od} {b : Int} {N1 M1 N2 M2 : Nat} {f : Tb} {q : Rat} {S : Store} {Q : D → Store → Prop} (mf : Mb m b N1 M1 f) (hq : Bd N2 M2 q) (hf : f.length ≤ 1000) (hN1 : N1 < 2 ^ 3900) (hN2 : N2 < 2 ^ 3900) (hM1 : M1 < 2 ^ 3900) (hM2 : M2 < 2 ^ 3900)
    (h : ∀ S', Fr [] S S' → Q (polyD (scaleT f q)) S') : wq (call gl fds (n + 3) f_scale_poly [.tup [.int m, o.d], polyD f, frQ q]) Q S := by
  rw [wq_call (fd := d_scale_poly) rfl rfl]
  dsimp only [d_scale_poly]
  unfold b_scale_poly
  walk_at "dl"
  by_cases c : q = 0
  · rw [if_pos (decide_eq_true ((num_zero q).mpr c))]
    subst c
    rw [scale_zero] at h
    try walk_at "dl"
    exact ⟨lens_of (by decide), h S .refl⟩
  · rw [if_neg (by simpa using fun z => c ((num_zero q).mp z))]
    conv in polyD f => unfold polyD
    walk_at "nx"
    refine compL_tot (e := memD) (fun p => memD (p.1, p.2 * q)) hf (fun _ _ => Gd_none) (fun p hp S' a => ?_) fun S' a => ?_
    · obtain ⟨pe, pq⟩ := p
      obtain ⟨gp, bp⟩ := mf _ hp
      dsimp only at gp bp
      dsimp only [memD]
      walk_at "dl"
      refine ⟨by decide, by decide, ?_⟩
      refine multiply_wq (Sz.of bp hN1 hM1) (Sz.of hq hN2 hM2) ?_
      exact ⟨by decide, rfl, .refl⟩
    · have e : (f.map fun p => memD (p.1, p.2 * q)) = (scaleT f q).map memD := by
        unfold scaleT
        rw [if_neg c, List.map_map]
        rfl
      rw [e]
      try walk_at "dl"
      exact h _ (a.new _)
theorem add_poly_wq {n m : Nat} {o : Od} {b : Int} {N M : Nat} {f g : Tb} {S : Store} {Q : D → Store → Prop} (ho : o.ok m) (hm : 0 < m) (hm' : m ≤ 10) (hb : b ≤ 1000) (mf : Mb m b N M f) (mg : Mb m b N M g) (hc : f.length + g.length ≤ 1000) (hN : N < 2 ^ 3900) (hM : (f.length + g.length + 1) * M < 2 ^ 3900)
    (h : ∀ L' S', PO m o b N ((f.length + g.length) * M) (f.length + g.length) (sumT (f ++ g)) L' → Fr [] S S' → Q (polyD L') S') : wq (call gl fds (n + 6) f_add_poly [.tup [.int m, o.d], polyD f, polyD g]) Q S := by
  rw [wq_call (fd := d_add_poly) rfl rfl]
  dsimp only [d_add_poly]
  unfold b_add_poly polyD
  walk_at "dl"
  rw [← List.map_append]
  have e : (f ++ g).length = f.length + g.length := List.length_append
  rw [← e] at hc hM h
  exact ⟨lens_of (by simpa using hc), ring_poly_wq ho hm hm' hb (.inl rfl) (mf.app mg) hc hN hM h⟩
theorem subtract_poly_wq {n m : Nat} {o : Od} {b : Int} {N M : Nat} {f g : Tb} {S : Store} {Q : D → Store → Prop} (ho : o.ok m) (hm : 0 < m) (hm' : m ≤ 10) (hb : b ≤ 1000) (mf : Mb m b N M f) (mg : Mb m b N M g) (hc : f.length + g.length ≤ 1000) (hN : N < 2 ^ 3900) (hM : (f.length + g.length + 1) * M < 2 ^ 3900)
    (h : ∀ L' S', PO m o b N ((f.length + (scaleT g (-1)).length) * M) (f.length + (scaleT g (-1)).length) (sumT (f ++ scaleT g (-1))) L' → Fr [] S S' → Q (polyD L') S') : wq (call gl fds (n + 6) f_subtract_poly [.tup [.int m, o.d], polyD f, polyD g]) Q S := by
  rw [wq_call (fd := d_subtract_poly) rfl rfl]
  dsimp only [d_subtract_poly]
  unfold b_subtract_poly
  walk_at "dl"
  have hM2 : M < 2 ^ 3900 := by
    have := Nat.le_mul_of_pos_left M (show 0 < f.length + g.length + 1 by omega)
    exact Nat.lt_of_le_of_lt this hM
  have b1 : Bd 1 1 (-1 : Rat) := ⟨by decide, -1, by decide +kernel, by decide⟩
  have sl := scale_len g (-1)
  refine ⟨lens_of (by decide), ?_⟩
  refine scale_poly_wq (q := -1) mg b1 (by omega) hN (by decide) hM2 (by decide) fun S1 f1 => ?_
  have ms := mg.scale b1
  rw [Nat.mul_one, Nat.mul_one] at ms
  unfold polyD
  rw [w_addT, ← List.map_append]
  have e : (f ++ scaleT g (-1)).length = f.length + (scaleT g (-1)).length := List.length_append
  rw [← e] at h
  refine ⟨lens_of (by simp; omega), ring_poly_wq ho hm hm' hb (.inl rfl) (mf.app ms) (by omega) hN (bd_len hM (by omega)) fun L S2 po f2 => h L S2 po (f1.trans f2)⟩
theorem constant_poly_wq {n m : Nat} {o : Od} {N M : Nat} {q : Rat} {S : Store} {Q : D → Store → Prop} (ho : o.ok m) (hm : 0 < m) (hm' : m ≤ 10) (hq : Bd N M q) (hN : N < 2 ^ 3900) (hM : 2 * M < 2 ^ 3900)
    (h : ∀ L' S', PO m o 0 N M 1 (sumT [(zer m, q)]) L' → Fr [] S S' → Q (polyD L') S') : wq (call gl fds (n + 6) f_constant_poly [.tup [.int m, o.d], frQ q]) Q S := by
  rw [wq_call (fd := d_constant_poly) rfl rfl]
  dsimp only [d_constant_poly]
  unfold b_constant_poly
  walk_at "dl"
  refine zero_power_wq hm (by omega) ?_
  refine ⟨lens_of (by decide), lens_of (by decide), ?_⟩
  refine ring_poly_wq (L := [(zer m, q)]) ho hm hm' (by decide) (.inr ⟨_, rfl, get_new⟩) (fun p hp => ?_) (by simp) hN hM fun L' S' po f => h L' S' (po.mono (Int.le_refl _) (by simp) (Nat.le_refl _)) ((Fr.new .refl _).trans f)
  rw [List.mem_singleton.mp hp]
  exact ⟨GE.zer (Int.le_refl _), hq⟩
theorem Can.self {k : List Int → List Int} {L : Tb} (hd : L.Pairwise fun p q => k q.1 < k p.1) (hn : ∀ p ∈ L, p.2 ≠ 0) : Can k (sumT L) L := by
  have nd : (L.map (·.1)).Nodup := by
    rw [List.Nodup, List.pairwise_map]
    exact hd.imp fun {p q} hpq z => by rw [z] at hpq; exact List.lt_irrefl _ hpq
  refine ⟨hd, fun p hp => ⟨?_, hn p hp⟩, fun e he => ?_⟩
  · rw [sumT_val nd, val_mem nd hp]
  · rw [sumT_val nd] at he ⊢
    cases q : has L e with
    | false => exact absurd (val_not q) he
    | true =>
      obtain ⟨p, hp, rfl⟩ := List.mem_map.mp (has_mem.mp q)
      rw [val_mem nd hp]
      exact hp
theorem can_const (k : List Int → List Int) (m : Nat) (q : Rat) : Can k (sumT (constT m q)) (constT m q) := by
  refine Can.self ?_ ?_
  · unfold constT
    split <;> simp
  · unfold constT
    split
    · simp
    · intro p hp
      rw [List.mem_singleton.mp hp]
      assumption
theorem can_scale {k : List Int → List Int} {F : List Int → Rat} {L : Tb} (h : Can k F L) (q : Rat) : Can k (sumT (scaleT L q)) (scaleT L q) := by
  refine Can.self ?_ ?_
  · unfold scaleT
    split
    · simp
    · rw [List.pairwise_map]
      exact h.desc
  · unfold scaleT
    split
    · simp
    · rename_i c
      intro p hp
      obtain ⟨r, hr, rfl⟩ := List.mem_map.mp hp
      have := (h.mem r hr).2
      intro z
      rcases Rat.mul_eq_zero.mp z with z | z
      · exact this z
      · exact c z
end K05
end

section
set_option Elab.async false
set_option linter.all false
set_option maxRecDepth 100000
set_option maxHeartbeats 1000000
set_option exponentiation.threshold 20000
namespace K05
open PySem PySem.Spec L2 Dl
/-! values of polynomials as sums of terms -/
def powQ (q : Rat) : Nat → Rat
  | 0 => 1
  | n + 1 => powQ q n * q
theorem powQ_add (q : Rat) (m : Nat) : ∀ n, powQ q (m + n) = powQ q m * powQ q n
  | 0 => by show powQ q m = powQ q m * 1; grind
  | n + 1 => by
    show powQ q (m + n) * q = powQ q m * (powQ q n * q)
    rw [powQ_add q m n]
    grind
/-- the value of a power -/
def monQ : List Rat → List Int → Rat
  | q :: qs, x :: e => powQ q x.toNat * monQ qs e
  | _, _ => 1
theorem monQ_add : ∀ (qs : List Rat) (a b : List Int), a.length = b.length → (∀ x ∈ a, 0 ≤ x) → (∀ x ∈ b, 0 ≤ x) → monQ qs (addE a b) = monQ qs a * monQ qs b
  | [], a, b, _, _, _ => by simp [monQ]
  | q :: qs, [], [], _, _, _ => by simp [monQ]
  | q :: qs, x :: a, y :: b, h, ha, hb => by
    have ih := monQ_add qs a b (by simpa using h) (fun z hz => ha z (List.mem_cons_of_mem _ hz)) (fun z hz => hb z (List.mem_cons_of_mem _ hz))
    have hx := ha x (by simp)
    have hy := hb y (by simp)
    show powQ q (x + y).toNat * monQ qs (addE a b) = powQ q x.toNat * monQ qs a * (powQ q y.toNat * monQ qs b)
    rw [ih, show (x + y).toNat = x.toNat + y.toNat by omega, powQ_add]
    grind
  | q :: qs, [], _ :: _, h, _, _ => by simp at h
  | q :: qs, _ :: _, [], h, _, _ => by simp at h
theorem monQ_zer : ∀ (qs : List Rat) (m : Nat), monQ qs (zer m) = 1
  | [], m => by cases m <;> rfl
  | q :: qs, 0 => rfl
  | q :: qs, m + 1 => by
    show powQ q (0 : Int).toNat * monQ qs (zer m) = 1
    rw [monQ_zer qs m]
    show (1 : Rat) * 1 = 1
    decide +kernel
def evT (qs : List Rat) : Tb → Rat
  | [] => 0
  | p :: A => p.2 * monQ qs p.1 + evT qs A
theorem evT_app (qs : List Rat) : ∀ A B : Tb, evT qs (A ++ B) = evT qs A + evT qs B
  | [], B => by simp only [List.nil_append, evT]; grind
  | p :: A, B => by
    simp only [List.cons_append, evT, evT_app qs A B]
    grind
/-- the sum over a row of powers -/
def sumK (K : List (List Int)) (F : List Int → Rat) : Rat := (K.map F).sum
theorem sumK_add (F G : List Int → Rat) : ∀ K, sumK K (fun e => F e + G e) = sumK K F + sumK K G
  | [] => by simp [sumK]; grind
  | e :: K => by
    have ih := sumK_add F G K
    unfold sumK at *
    simp only [List.map_cons, List.sum_cons, ih]
    grind
theorem sumK_zero {F : List Int → Rat} : ∀ {K : List (List Int)}, (∀ e ∈ K, F e = 0) → sumK K F = 0
  | [], _ => by simp [sumK]
  | e :: K, h => by
    have ih := sumK_zero (K := K) fun x hx => h x (List.mem_cons_of_mem _ hx)
    unfold sumK at *
    simp only [List.map_cons, List.sum_cons, ih, h e (by simp)]
    grind
theorem sumK_one {F : List Int → Rat} {a : List Int} : ∀ {K : List (List Int)}, K.Nodup → a ∈ K → (∀ e ∈ K, e ≠ a → F e = 0) → sumK K F = F a
  | e :: K, nd, ha, h => by
    rw [List.nodup_cons] at nd
    unfold sumK
    simp only [List.map_cons, List.sum_cons]
    rcases List.mem_cons.mp ha with rfl | ha
    · have := sumK_zero (F := F) (K := K) fun x hx => h x (List.mem_cons_of_mem _ hx) fun z => nd.1 (by rw [← z]; exact hx)
      unfold sumK at this
      rw [this]
      grind
    · have ih := sumK_one (F := F) nd.2 ha fun x hx => h x (List.mem_cons_of_mem _ hx)
      unfold sumK at ih
      rw [ih, h e (by simp) fun z => nd.1 (by rw [z]; exact ha)]
      grind
theorem evT_sum (qs : List Rat) {K : List (List Int)} (nd : K.Nodup) : ∀ {A : Tb}, (∀ p ∈ A, p.1 ∈ K) → evT qs A = sumK K fun e => sumT A e * monQ qs e
  | [], _ => by
    rw [sumK_zero fun e _ => by simp only [sumT]; grind]
    rfl
  | p :: A, h => by
    have ih := evT_sum qs nd (A := A) fun q hq => h q (List.mem_cons_of_mem _ hq)
    have e1 : (fun e => sumT (p :: A) e * monQ qs e) = fun e => (if e = p.1 then p.2 else 0) * monQ qs e + sumT A e * monQ qs e := by
      funext e
      simp only [sumT]
      grind
    rw [e1, sumK_add, ← ih, sumK_one (a := p.1) nd (h p (by simp)) fun e _ he => by rw [if_neg he]; grind]
    rw [if_pos rfl]
    rfl
def dd : List (List Int) → List (List Int)
  | [] => []
  | e :: K => if e ∈ dd K then dd K else e :: dd K
theorem dd_nodup : ∀ K, (dd K).Nodup
  | [] => List.nodup_nil
  | e :: K => by
    unfold dd
    split
    · exact dd_nodup K
    · exact List.nodup_cons.mpr ⟨by assumption, dd_nodup K⟩
theorem dd_mem {x : List Int} : ∀ {K : List (List Int)}, x ∈ K → x ∈ dd K
  | e :: K, h => by
    unfold dd
    rcases List.mem_cons.mp h with rfl | h
    · split
      · assumption
      · simp
    · have := dd_mem h
      split
      · exact this
      · exact List.mem_cons_of_mem _ this
theorem evT_eq (qs : List Rat) {A B : Tb} (h : sumT A = sumT B) : evT qs A = evT qs B := by
  have nd := dd_nodup ((A ++ B).map (·.1))
  rw [evT_sum qs nd fun p hp => dd_mem (List.mem_map_of_mem (List.mem_append_left _ hp)), evT_sum qs nd fun p hp => dd_mem (List.mem_map_of_mem (List.mem_append_right _ hp)), h]
/-- powers of m unknowns, none below 0 -/
def Nn (m : Nat) (A : Tb) : Prop := ∀ p ∈ A, p.1.length = m ∧ ∀ x ∈ p.1, 0 ≤ x
theorem Mb.nn {m : Nat} {b : Int} {N M : Nat} {A : Tb} (h : Mb m b N M A) : Nn m A := fun p hp => ⟨(h p hp).1.len, fun x hx => ((h p hp).1.rg x hx).1⟩
theorem evT_mul (qs : List Rat) {m : Nat} {a : List Int × Rat} (ha : a.1.length = m ∧ ∀ x ∈ a.1, 0 ≤ x) : ∀ {B : Tb}, Nn m B → evT qs (B.map fun q => (addE a.1 q.1, a.2 * q.2)) = a.2 * monQ qs a.1 * evT qs B
  | [], _ => by simp only [List.map_nil, evT]; grind
  | b :: B, h => by
    have ih := evT_mul qs ha (B := B) fun q hq => h q (List.mem_cons_of_mem _ hq)
    have hb := h b (by simp)
    simp only [List.map_cons, evT, ih]
    rw [monQ_add qs a.1 b.1 (by rw [ha.1, hb.1]) ha.2 hb.2]
    grind
theorem evT_prod (qs : List Rat) {m : Nat} : ∀ {A B : Tb}, Nn m A → Nn m B → evT qs (prodT A B) = evT qs A * evT qs B
  | [], B, _, _ => by
    show (0 : Rat) = 0 * evT qs B
    grind
  | a :: A, B, hA, hB => by
    have ih := evT_prod qs (A := A) (fun q hq => hA q (List.mem_cons_of_mem _ hq)) hB
    have e1 : prodT (a :: A) B = (B.map fun q => (addE a.1 q.1, a.2 * q.2)) ++ prodT A B := rfl
    rw [e1, evT_app, evT_mul qs (hA a (by simp)) hB, ih]
    simp only [evT]
    grind
theorem evT_scale (qs : List Rat) (q : Rat) (A : Tb) : evT qs (scaleT A q) = evT qs A * q := by
  unfold scaleT
  split
  · rename_i h
    subst h
    show (0 : Rat) = evT qs A * 0
    grind
  · induction A with
    | nil => show (0 : Rat) = 0 * q; grind
    | cons p A ih =>
      simp only [List.map_cons, evT, ih]
      grind
end K05
end

section
set_option Elab.async false
set_option linter.all false
set_option maxRecDepth 100000
set_option maxHeartbeats 1000000
set_option exponentiation.threshold 20000
namespace K05
open PySem PySem.Spec L2 Dl
local macro_rules | `(tactic| walk_at "dl") => `(tactic| simp (disch := first | assumption | exact get_new | (refine get_app ?_; first | assumption | exact get_new | (refine get_app ?_; first | assumption | exact get_new)) | (refine get_set ?_; assumption) | exact atI_0 | exact atI_1 | exact atI_2 | exact ok_lex | exact ok_degree | exact ok_back | exact ok_blocks | exact ok_weights) only [
  e_cB, e_fB, e_dnew, e_dget, e_din, vt_din, e_dget2, e_dpop, e_sortp, x_dput, w_isT, w_din, w_dget2, w_dget, w_dput, w_dpop, w_fr0, w_fr1, e_var, e_int, e_bl, e_non, e_str, e_glo, e_tup, e_lst, e_op, e_neg, e_not, e_and, e_or, e_cmp, e_chain, e_ite, e_ix, e_sl, e_rev, e_call, e_bi, e_me, e_isi, e_isis, e_comp, e_tupr, e_lstr, e_nil, e_cons, e_ono, e_oso, e_cno, e_cso, vt_and, vt_or, vt_not, vt_cmp, vt_chain, vt_var, vt_bl, vt_call, vt_bi, vt_isi, vt_isis, vi_seq, vi_rng1, vi_rng2, vi_zip, vg_nm, vg_tp, vg_ixs, gs_nil, gs_cons, x_asg, x_par, x_aug, x_expr, x_ret, x_retN, x_ite, x_for, x_whl, x_pass, x_brk, x_cnt, xs_nil, k_one, k_cons, k_rt, k_bk, k_ct, r_nx, r_rt, w_neg, w_tupr, w_lstr,
  TGs.len, wq_pure, List.getElem?_cons_zero, List.getElem?_cons_succ, List.set_cons_zero, List.set_cons_succ, List.length_cons, List.length_nil, List.length_map, if_true, Bool.false_eq_true, if_false, startE, List.map_cons, List.map_nil, List.replicate, List.cons_append, List.nil_append, wipeE, Nat.zero_add, Nat.reduceAdd, Nat.reduceSub, true_and,
  w_getL_ref, w_getS_ref, w_getL_ro, w_getS_ro, w_getS_tup, w_add, w_sub, w_mul, w_addT, w_addL, w_mulL, w_fdiv, w_mod, w_pow, w_shl, w_lt, w_le, w_gt, w_ge, w_ltT, w_gtT, w_eq, w_ne, w_isN, w_isnN, w_in, w_nin, w_trB, w_trN, w_trI, w_trT, w_trL, w_lenT, w_lenR, w_lenL, w_sumT, w_sumL, w_int, w_intB, w_tupL, w_listL, w_listT, w_append, w_pop, w_reverse, w_isL, w_revT, w_asInt, w_slR, w_srcT, w_srcR, w_srcL, w_rng, w_zipT, w_unpkT, w_unpkL, w_eqB, w_eqT, w_eqI, w_ixT, w_eqS, w_eqTS, Bool.not_true, Bool.not_false, decide_true, decide_false, wd_lex_lex, wd_lex_degree, wd_lex_back, wd_lex_blocks, wd_lex_weights, wd_degree_lex, wd_degree_degree, wd_degree_back, wd_degree_blocks, wd_degree_weights, wd_back_lex, wd_back_degree, wd_back_back, wd_back_blocks, wd_back_weights, wd_blocks_lex, wd_blocks_degree, wd_blocks_back, wd_blocks_blocks, wd_blocks_weights, wd_weights_lex, wd_weights_degree, wd_weights_back, wd_weights_blocks, wd_weights_weights])
local macro_rules | `(tactic| walk_at "nx") => `(tactic| (rw [k_nx]; try walk_at "dl"))
local macro_rules | `(tactic| walk_at "cj") => `(tactic| repeat refine And.intro (by first | decide | exact lens_of (by decide) | exact lens_of (by simp) | simp) ?_)
local macro_rules | `(tactic| walk_at "cd") => `(tactic| repeat refine And.intro (by decide) ?_)
theorem sum_nn : ∀ {l : List Int}, (∀ x ∈ l, 0 ≤ x) → 0 ≤ l.sum
  | [], _ => by simp
  | x :: l, h => by
    have h1 := h x (by simp)
    have h2 := sum_nn (l := l) fun y hy => h y (List.mem_cons_of_mem _ hy)
    rw [List.sum_cons]
    omega
/-- both parts below 2 ^ e -/
structure Bt (e : Nat) (q : Rat) : Prop where
  n : q.num.natAbs < 2 ^ e
  d : q.den < 2 ^ e
theorem Bd.own (q : Rat) : Bd q.den q.num.natAbs q := ⟨q.den_pos, q.num, by
  have h1 := num_den q
  have h2 : ((q.den : Nat) : Rat) ≠ 0 := by exact_mod_cast q.den_nz
  grind, Nat.le_refl _⟩
theorem lt_mul {a b e f : Nat} (h : a < 2 ^ e) (k : b < 2 ^ f) : a * b < 2 ^ (e + f) := by
  rw [Nat.pow_add]
  rcases Nat.eq_zero_or_pos b with rfl | hb
  · rw [Nat.mul_zero]
    exact Nat.mul_pos (Nat.pow_pos (by decide)) (Nat.pow_pos (by decide))
  · exact Nat.lt_of_lt_of_le (Nat.mul_lt_mul_of_pos_right h hb) (Nat.mul_le_mul_left _ (Nat.le_of_lt k))
theorem Bt.mul {e f : Nat} {p q : Rat} (h : Bt e p) (k : Bt f q) : Bt (e + f) (p * q) := by
  have b := (Bd.own p).mul (Bd.own q)
  exact ⟨Nat.lt_of_le_of_lt b.num (lt_mul h.n k.n), Nat.lt_of_le_of_lt b.den.2 (lt_mul h.d k.d)⟩
theorem Bt.mono {e f : Nat} {p : Rat} (h : Bt e p) (k : e ≤ f) : Bt f p := ⟨pow_le h.n k, pow_le h.d k⟩
theorem Bt.add {e f : Nat} {p q : Rat} (h : Bt e p) (k : Bt f q) : Bt (e + f + 1) (p + q) := by
  have b1 := (Bd.own p).scale q.den_pos
  have b2 := (Bd.own q).scale p.den_pos
  rw [Nat.mul_comm q.den p.den] at b2
  have b := b1.add b2
  have x1 := lt_mul h.n k.d
  have x2 := lt_mul k.n h.d
  rw [Nat.add_comm f e] at x2
  refine ⟨Nat.lt_of_le_of_lt b.num ?_, Nat.lt_of_le_of_lt b.den.2 (Nat.lt_of_lt_of_le (lt_mul h.d k.d) (Nat.pow_le_pow_right (by decide) (by omega)))⟩
  rw [Nat.pow_succ]
  omega
theorem Bt.sz {e : Nat} {p : Rat} (h : Bt e p) (k : e ≤ 3900) : Sz p := ⟨pow_le h.n k, pow_le h.d k⟩
theorem bdBt {N M e : Nat} {q : Rat} (h : Bd N M q) (hn : N < 2 ^ e) (hm : M < 2 ^ e) : Bt e q := ⟨Nat.lt_of_le_of_lt h.num hm, Nat.lt_of_le_of_lt h.den.2 hn⟩
theorem Bt.pow {e : Nat} {q : Rat} (h : Bt e q) : ∀ n, Bt (1 + e * n) (powQ q n)
  | 0 => ⟨by show 1 < _; rw [Nat.mul_zero]; decide, by show 1 < _; rw [Nat.mul_zero]; decide⟩
  | n + 1 => ((Bt.pow h n).mul h).mono (by rw [Nat.mul_add]; omega)
def partQ (c : Rat) (zs : List (Rat × Int)) : Rat := zs.foldl (fun a x => a * powQ x.1 x.2.toNat) c
theorem part_snoc {c : Rat} {zs : List (Rat × Int)} {x : Rat × Int} : partQ c (zs ++ [x]) = partQ c zs * powQ x.1 x.2.toNat := by
  unfold partQ
  rw [List.foldl_append]
  rfl
theorem partQ_mul (c : Rat) : ∀ (qs : List Rat) (e : List Int), partQ c (qs.zip e) = c * monQ qs e
  | [], e => by show c = c * monQ [] e; simp only [monQ]; grind
  | q :: qs, [] => by show c = c * 1; grind
  | q :: qs, x :: e => by
    have ih := partQ_mul (c * powQ q x.toNat) qs e
    show partQ (c * powQ q x.toNat) (qs.zip e) = c * (powQ q x.toNat * monQ qs e)
    rw [ih]
    grind
def tot (zs : List (Rat × Int)) : Nat := (zs.map fun x => x.2.toNat).sum
theorem part_bt5 {bq : Nat} : ∀ {zs : List (Rat × Int)} {e : Nat} {c : Rat}, Bt e c → (∀ x ∈ zs, Bt bq x.1) → Bt (e + zs.length + bq * tot zs) (partQ c zs)
  | [], e, c, h, _ => by
    show Bt (e + 0 + bq * 0) c
    exact h.mono (by omega)
  | x :: zs, e, c, h, k => by
    have h2 : Bt (e + (1 + bq * x.2.toNat)) (c * powQ x.1 x.2.toNat) := h.mul ((k x (by simp)).pow x.2.toNat)
    refine (part_bt5 (zs := zs) h2 fun y hy => k y (List.mem_cons_of_mem _ hy)).mono ?_
    have : tot (x :: zs) = x.2.toNat + tot zs := by simp [tot]
    rw [this, List.length_cons, Nat.mul_add]
    omega
theorem tot_app (a b : List (Rat × Int)) : tot (a ++ b) = tot a + tot b := by simp [tot]
theorem tot_zip : ∀ (qs : List Rat) (e : List Int), (∀ x ∈ e, 0 ≤ x) → (tot (qs.zip e) : Int) ≤ e.sum
  | [], e, h => by
    have := sum_nn h
    show ((0 : Nat) : Int) ≤ e.sum
    omega
  | q :: qs, [], _ => by simp [tot]
  | q :: qs, x :: e, h => by
    have ih := tot_zip qs e fun y hy => h y (List.mem_cons_of_mem _ hy)
    have hx := h x (by simp)
    have : tot ((q :: qs).zip (x :: e)) = x.toNat + tot (qs.zip e) := by simp [tot]
    rw [this, List.sum_cons]
    omega
/-- members whose values are not too great -/
structure Vb (m cb : Nat) (dg : Int) (f : Tb) : Prop where
  ok : ∀ p ∈ f, (p.1.length = m ∧ ∀ x ∈ p.1, 0 ≤ x) ∧ p.1.sum ≤ dg ∧ Bt cb p.2
theorem Mb.vb {m cb : Nat} {b : Int} {N M : Nat} {f : Tb} (h : Mb m b N M f) (hN : N < 2 ^ cb) (hM : M < 2 ^ cb) : Vb m cb b f := ⟨fun p hp => ⟨⟨(h p hp).1.len, fun x hx => ((h p hp).1.rg x hx).1⟩, (h p hp).1.sm, bdBt (h p hp).2 hN hM⟩⟩
theorem evT_bt {m cb bq : Nat} {dg : Int} {qs : List Rat} (hq : ∀ q ∈ qs, Bt bq q) (hdg : 0 ≤ dg) : ∀ {f : Tb}, Vb m cb dg f → Bt (1 + (cb + m + bq * dg.toNat + 1) * f.length) (evT qs f)
  | [], _ => ⟨by show (0 : Nat) < _; exact Nat.pow_pos (by decide), by show (1 : Nat) < _; simp⟩
  | p :: f, h => by
    have ih := evT_bt hq hdg (f := f) ⟨fun x hx => h.ok x (List.mem_cons_of_mem _ hx)⟩
    obtain ⟨⟨h1, h2⟩, h3, h4⟩ := h.ok p (by simp)
    have hp : Bt (cb + m + bq * dg.toNat) (p.2 * monQ qs p.1) := by
      rw [← partQ_mul]
      have hz : ∀ x ∈ qs.zip p.1, Bt bq x.1 := fun x hx => by
        obtain ⟨a, b⟩ := x
        exact hq a (List.of_mem_zip hx).1
      refine (part_bt5 h4 hz).mono ?_
      have ht := tot_zip qs p.1 h2
      have hl : (qs.zip p.1).length ≤ m := by rw [List.length_zip]; omega
      have : bq * tot (qs.zip p.1) ≤ bq * dg.toNat := Nat.mul_le_mul_left _ (by omega)
      omega
    refine (hp.add ih).mono ?_
    rw [List.length_cons, Nat.mul_add]
    omega
theorem raised_wq {n e bq : Nat} {q : Rat} {S : Store} {Q : D → Store → Prop} (hq : Bt bq q) (he : 1 + bq * e ≤ 3900) (hb : bq ≤ 3900) (he2 : e ≤ 1000) (h : Q (frQ (powQ q e)) S) : wq (call gl fds (n + 3) f_raised [frQ q, .int e]) Q S := by
  rw [wq_call (fd := d_raised) rfl rfl]
  dsimp only [d_raised]
  unfold b_raised
  walk_at "dl"
  walk_at "cd"
  walk_at "nx"
  refine ⟨small_rng (by omega), ?_⟩
  rw [rngItems_nat]
  refine forL_inv1 (e := fun (k : Nat) => D.int (k : Int)) (fun i en S' => S' = S ∧ ∃ o3, en = [some (frQ q), some (.int e), some (frQ (powQ q i)), o3]) (fun _ _ _ _ => Gd_none) ?_ ?_ ?_
  · exact ⟨rfl, _, rfl⟩
  · rintro en S2 ⟨rfl, o3, rfl⟩
    walk_at "nx"
    rw [List.length_range]
    exact h
  · rintro i x en S2 hx ⟨rfl, o3, rfl⟩
    have hi : i < e := by
      have := (List.getElem?_eq_some_iff.mp hx).1
      simpa using this
    have hle : bq * i ≤ bq * e := Nat.mul_le_mul_left _ (by omega)
    walk_at "dl"
    walk_at "cd"
    refine multiply_wq ((hq.pow i).sz (by omega)) (hq.sz hb) ?_
    walk_at "cd"
    exact ⟨rfl, _, rfl⟩
theorem value_at_wq {n m cb bq : Nat} {dg : Int} {qs : List Rat} {f : Tb} {S : Store} {Q : D → Store → Prop} (hm : m ≤ 10) (hdg : 0 ≤ dg) (hdg2 : dg ≤ 1000) (vb : Vb m cb dg f) (hf : f.length ≤ 1000) (hq : ∀ q ∈ qs, Bt bq q) (hb : bq ≤ 3900) (hql : qs.length = m) (hs : 1 + (cb + m + bq * dg.toNat + 1) * (f.length + 1) ≤ 3900)
    (h : Q (frQ (evT qs f)) S) : wq (call gl fds (n + 4) f_value_at [polyD f, .tup (qs.map frQ)]) Q S := by
  rw [wq_call (fd := d_value_at) rfl rfl]
  dsimp only [d_value_at]
  unfold b_value_at polyD
  walk_at "dl"
  walk_at "cd"
  walk_at "nx"
  refine forL_gen (e := memD) (fun d _ e S' => S' = S ∧ ∃ o3 o4 o5 o6 o7, e = [some (.tup (f.map memD)), some (.tup (qs.map frQ)), some (frQ (evT qs d)), o3, o4, o5, o6, o7]) (fun _ _ _ _ _ => Gd_none) ?_ ?_ ?_
  · exact ⟨rfl, _, _, _, _, _, rfl⟩
  · rintro e S2 ⟨rfl, o3, o4, o5, o6, o7, rfl⟩
    walk_at "nx"
    exact h
  · rintro d p rest e S2 hx ⟨rfl, o3, o4, o5, o6, o7, rfl⟩
    have pm : p ∈ f := by rw [hx]; simp
    have hdl : f.length = d.length + (rest.length + 1) := by rw [hx]; simp
    have vd : Vb m cb dg d := ⟨fun p hp => vb.ok p (by rw [hx]; simp [hp])⟩
    have bd := evT_bt hq hdg vd
    have hmono : (cb + m + bq * dg.toNat + 1) * d.length ≤ (cb + m + bq * dg.toNat + 1) * (f.length + 1) := Nat.mul_le_mul_left _ (by omega)
    have hbase : (cb + m + bq * dg.toNat + 1) * 1 ≤ (cb + m + bq * dg.toNat + 1) * (f.length + 1) := Nat.mul_le_mul_left _ (by omega)
    obtain ⟨pe, pq⟩ := p
    obtain ⟨⟨g1, g2⟩, g3, g4⟩ := vb.ok _ pm
    dsimp only at g1 g2 g3 g4
    have ht := tot_zip qs pe g2
    have hzq : ∀ x ∈ qs.zip pe, Bt bq x.1 ∧ 0 ≤ x.2 := fun x hx => by
      obtain ⟨a, b⟩ := x
      obtain ⟨m1, m2⟩ := List.of_mem_zip hx
      exact ⟨hq a m1, g2 b m2⟩
    have hzlen : (qs.zip pe).length ≤ m := by rw [List.length_zip]; omega
    have pre : ∀ z : List (Rat × Int), (∀ x ∈ z, x ∈ qs.zip pe) → z.length ≤ m → tot z ≤ dg.toNat → Bt (cb + m + bq * dg.toNat) (partQ pq z) := fun z hz hl htz => by
      refine (part_bt5 g4 fun x hx => (hzq x (hz x hx)).1).mono ?_
      have : bq * tot z ≤ bq * dg.toNat := Nat.mul_le_mul_left _ htz
      omega
    dsimp only [memD]
    walk_at "dl"
    walk_at "cd"
    walk_at "nx"
    have ez : ((qs.map frQ).zip (pe.map D.int)).map (fun q => D.tup [q.1, q.2]) = (qs.zip pe).map fun x => D.tup [frQ x.1, .int x.2] := by
      rw [List.zip_map, List.map_map]
      rfl
    rw [ez]
    refine forL_gen (e := fun x : Rat × Int => D.tup [frQ x.1, .int x.2]) (fun z _ e S' => S' = S2 ∧ ∃ o6 o7, e = [some (.tup (f.map memD)), some (.tup (qs.map frQ)), some (frQ (evT qs d)), some (.tup (pe.map .int)), some (frQ pq), some (frQ (partQ pq z)), o6, o7]) (fun _ _ _ _ _ => Gd_none) ?_ ?_ ?_
    · exact ⟨rfl, _, _, rfl⟩
    · rintro e S3 ⟨rfl, o6, o7, rfl⟩
      walk_at "nx"
      refine add_wq (bd.sz (by omega)) ((pre _ (fun x hx => hx) hzlen (by omega)).sz (by omega)) ?_
      walk_at "cd"
      try walk_at "nx"
      have e1 : evT qs (d ++ [(pe, pq)]) = evT qs d + partQ pq (qs.zip pe) := by
        rw [evT_app, partQ_mul]
        simp only [evT]
        grind
      rw [e1]
      exact ⟨_, _, _, _, _, rfl⟩
    · rintro z x zs e S3 hz ⟨rfl, o6, o7, rfl⟩
      have hzm : x ∈ qs.zip pe := by rw [hz]; simp
      obtain ⟨k1, k2⟩ := hzq x hzm
      have htt : tot (qs.zip pe) = tot z + (x.2.toNat + tot zs) := by rw [hz, tot_app]; simp [tot]
      obtain ⟨xq, xe⟩ := x
      obtain ⟨xe, rfl⟩ := Int.eq_ofNat_of_zero_le k2
      dsimp only at k1 htt
      rw [Int.toNat_natCast] at htt
      have hzl : (qs.zip pe).length = z.length + (zs.length + 1) := by rw [hz]; simp
      have hzb := pre z (fun y hy => by rw [hz]; simp [hy]) (by omega) (by omega)
      have hxe : bq * xe ≤ bq * dg.toNat := Nat.mul_le_mul_left _ (by omega)
      walk_at "dl"
      walk_at "cd"
      refine raised_wq k1 (by omega) hb (by omega) ?_
      refine multiply_wq (hzb.sz (by omega)) ((k1.pow xe).sz (by omega)) ?_
      walk_at "cd"
      try walk_at "nx"
      rw [part_snoc]
      exact ⟨_, _, rfl⟩
end K05
end

section
set_option Elab.async false
set_option linter.all false
set_option maxRecDepth 100000
set_option maxHeartbeats 1000000
set_option exponentiation.threshold 20000
namespace K05
open PySem PySem.Spec L2 Dl
/-- all powers are of m unknowns -/
def Ln (m : Nat) (A : Tb) : Prop := ∀ p ∈ A, p.1.length = m
theorem Mb.ln {m : Nat} {b : Int} {N M : Nat} {A : Tb} (h : Mb m b N M A) : Ln m A := fun p hp => (h p hp).1.len
theorem Ln.prod {m : Nat} {A B : Tb} (h : Ln m A) (k : Ln m B) : Ln m (prodT A B) := fun p hp => by
  obtain ⟨a, ha, hp⟩ := List.mem_flatMap.mp hp
  obtain ⟨b, hb, rfl⟩ := List.mem_map.mp hp
  simp [h a ha, k b hb]
theorem Ln.app {m : Nat} {A B : Tb} (h : Ln m A) (k : Ln m B) : Ln m (A ++ B) := fun p hp => (List.mem_append.mp hp).elim (h p) (k p)
theorem Ln.const {m : Nat} {q : Rat} : Ln m (constT m q) := fun p hp => by
  unfold constT at hp
  split at hp
  · cases hp
  · rw [List.mem_singleton.mp hp]; simp
theorem sumT_off {m : Nat} : ∀ {A : Tb}, Ln m A → ∀ {e : List Int}, e.length ≠ m → sumT A e = 0
  | [], _, _, _ => rfl
  | p :: A, h, e, he => by
    simp only [sumT]
    rw [sumT_off (fun q hq => h q (List.mem_cons_of_mem _ hq)) he, if_neg (fun z => he (by rw [z]; exact h p (by simp)))]
    grind
abbrev subE (a b : List Int) : List Int := List.zipWith (· - ·) a b
theorem add_sub : ∀ {a b e : List Int}, a.length = b.length → e.length = b.length → (e = addE a b ↔ subE e b = a)
  | [], [], [], _, _ => by simp
  | x :: a, y :: b, z :: e, h1, h2 => by
    have ih := add_sub (a := a) (b := b) (e := e) (by simpa using h1) (by simpa using h2)
    unfold addE subE at *
    simp only [List.zipWith_cons_cons, List.cons.injEq, ih]
    constructor
    · rintro ⟨h, k⟩; exact ⟨by omega, k⟩
    · rintro ⟨h, k⟩; exact ⟨by omega, k⟩
  | [], _ :: _, _, h, _ => by simp at h
  | _ :: _, [], _, h, _ => by simp at h
  | [], [], _ :: _, _, h => by simp at h
  | _ :: _, _ :: _, [], _, h => by simp at h
theorem sum_shift {m : Nat} {b : List Int × Rat} (hb : b.1.length = m) {e : List Int} (he : e.length = m) : ∀ {A : Tb}, Ln m A → sumT (A.map fun a => (addE b.1 a.1, b.2 * a.2)) e = b.2 * sumT A (subE e b.1)
  | [], _ => by simp only [List.map_nil, sumT]; grind
  | p :: A, h => by
    have ih := sum_shift hb he (A := A) fun q hq => h q (List.mem_cons_of_mem _ hq)
    have hp := h p (by simp)
    have key := add_sub (a := p.1) (b := b.1) (e := e) (by rw [hp, hb]) (by rw [he, hb])
    simp only [List.map_cons, sumT]
    rw [ih, addE_comm]
    by_cases c : e = addE p.1 b.1
    · rw [if_pos c, if_pos (key.mp c)]
      grind
    · rw [if_neg c, if_neg (fun z => c (key.mpr z))]
      grind
theorem conv_left {m : Nat} {A A' B : Tb} (hA : Ln m A) (hA' : Ln m A') (hB : Ln m B) (h : sumT A = sumT A') : sumT (prodT A B) = sumT (prodT A' B) := by
  funext e
  by_cases he : e.length = m
  · rw [sumT_perm (prodT_perm A B), sumT_perm (prodT_perm A' B)]
    induction B with
    | nil => rfl
    | cons b B ih =>
      have e1 : ∀ C : Tb, prodT (b :: B) C = (C.map fun a => (addE b.1 a.1, b.2 * a.2)) ++ prodT B C := fun C => rfl
      rw [e1, e1, sumT_app, sumT_app, ih fun q hq => hB q (List.mem_cons_of_mem _ hq), sum_shift (hB b (by simp)) he hA, sum_shift (hB b (by simp)) he hA', h]
  · rw [sumT_off (hA.prod hB) he, sumT_off (hA'.prod hB) he]
theorem conv_right {m : Nat} {A B B' : Tb} (hA : Ln m A) (hB : Ln m B) (hB' : Ln m B') (h : sumT B = sumT B') : sumT (prodT A B) = sumT (prodT A B') := by
  have e : ∀ C : Tb, sumT (prodT A C) = sumT (prodT C A) := fun C => funext fun e => sumT_perm (prodT_perm A C) e
  rw [e, e]
  exact conv_left hB hB' hA h
theorem addE_assoc : ∀ a b c : List Int, addE (addE a b) c = addE a (addE b c)
  | [], _, _ => by simp
  | _ :: _, [], _ => by simp
  | _ :: _, _ :: _, [] => by simp
  | x :: a, y :: b, z :: c => by
    have ih := addE_assoc a b c
    unfold addE at *
    simp only [List.zipWith_cons_cons, ih, Int.add_assoc]
theorem prodT_assoc (A B C : Tb) : prodT (prodT A B) C = prodT A (prodT B C) := by
  unfold prodT
  rw [List.flatMap_assoc]
  congr 1
  funext a
  rw [List.flatMap_map, List.map_flatMap]
  congr 1
  funext b
  rw [List.map_map]
  refine List.map_congr_left fun c _ => ?_
  simp only [Function.comp, addE_assoc, Rat.mul_assoc]
theorem prod_one {m : Nat} {A : Tb} (h : Ln m A) : prodT A (constT m 1) = A := by
  have e : constT m 1 = [(zer m, 1)] := by unfold constT; rw [if_neg (by decide)]
  rw [e]
  induction A with
  | nil => rfl
  | cons p A ih =>
    have e1 : prodT (p :: A) [(zer m, 1)] = (addE p.1 (zer m), p.2 * 1) :: prodT A [(zer m, 1)] := rfl
    have hz : addE p.1 (zer m) = p.1 := List.ext_getElem (by simp [h p (by simp)]) fun i h1 h2 => by simp
    rw [e1, ih fun q hq => h q (List.mem_cons_of_mem _ hq), hz, Rat.mul_one]
def powT (m : Nat) (g : Tb) : Nat → Tb
  | 0 => constT m 1
  | k + 1 => prodT (powT m g k) g
theorem Ln.pow {m : Nat} {g : Tb} (h : Ln m g) : ∀ k, Ln m (powT m g k)
  | 0 => Ln.const
  | k + 1 => (Ln.pow h k).prod h
/-- what a member with rows put in stands for -/
def partTm (m : Nat) (A : Tb) (zs : List (Tb × Int)) : Tb := zs.foldl (fun A x => prodT A (powT m x.1 x.2.toNat)) A
theorem partTm_snoc {m : Nat} {A : Tb} {zs : List (Tb × Int)} {x : Tb × Int} : partTm m A (zs ++ [x]) = prodT (partTm m A zs) (powT m x.1 x.2.toNat) := by
  unfold partTm
  rw [List.foldl_append]
  rfl
theorem Ln.part {m : Nat} : ∀ {zs : List (Tb × Int)} {A : Tb}, Ln m A → (∀ x ∈ zs, Ln m x.1) → Ln m (partTm m A zs)
  | [], A, h, _ => h
  | x :: zs, A, h, k => Ln.part (zs := zs) (h.prod ((k x (by simp)).pow _)) fun y hy => k y (List.mem_cons_of_mem _ hy)
def withT (m : Nat) (rows : List Tb) (f : Tb) : Tb := f.flatMap fun p => partTm m (constT m p.2) (rows.zip p.1)
theorem withT_snoc {m : Nat} {rows : List Tb} {f : Tb} {p : List Int × Rat} : withT m rows (f ++ [p]) = withT m rows f ++ partTm m (constT m p.2) (rows.zip p.1) := by simp [withT]
end K05
end

section
set_option Elab.async false
set_option linter.all false
set_option maxRecDepth 100000
set_option maxHeartbeats 1000000
set_option exponentiation.threshold 20000
namespace K05
open PySem PySem.Spec L2 Dl
theorem Nn.prod {m : Nat} {A B : Tb} (h : Nn m A) (k : Nn m B) : Nn m (prodT A B) := fun p hp => by
  obtain ⟨a, ha, hp⟩ := List.mem_flatMap.mp hp
  obtain ⟨b, hb, rfl⟩ := List.mem_map.mp hp
  obtain ⟨a1, a2⟩ := h a ha
  obtain ⟨b1, b2⟩ := k b hb
  refine ⟨by simp [a1, b1], fun x hx => ?_⟩
  obtain ⟨i, hi, rfl⟩ := List.getElem_of_mem hx
  simp only [List.length_zipWith] at hi
  simp only [List.getElem_zipWith]
  have h1 := a2 _ (List.getElem_mem (show i < a.1.length by omega))
  have h2 := b2 _ (List.getElem_mem (show i < b.1.length by omega))
  omega
theorem Nn.ln {m : Nat} {A : Tb} (h : Nn m A) : Ln m A := fun p hp => (h p hp).1
theorem Nn.const {m : Nat} {q : Rat} : Nn m (constT m q) := fun p hp => by
  unfold constT at hp
  split at hp
  · cases hp
  · rw [List.mem_singleton.mp hp]
    exact ⟨by simp, fun x hx => by have := List.eq_of_mem_replicate hx; omega⟩
theorem Nn.pow {m : Nat} {g : Tb} (h : Nn m g) : ∀ k, Nn m (powT m g k)
  | 0 => Nn.const
  | k + 1 => (Nn.pow h k).prod h
theorem evT_const (qs : List Rat) (m : Nat) (q : Rat) : evT qs (constT m q) = q := by
  unfold constT
  split
  · rename_i h; subst h; rfl
  · simp only [evT, monQ_zer]; grind
theorem evT_pow (qs : List Rat) {m : Nat} {g : Tb} (h : Nn m g) : ∀ k, evT qs (powT m g k) = powQ (evT qs g) k
  | 0 => evT_const qs m 1
  | k + 1 => by
    show evT qs (prodT (powT m g k) g) = powQ (evT qs g) k * evT qs g
    rw [evT_prod qs (h.pow k) h, evT_pow qs h k]
theorem Nn.part {m : Nat} : ∀ {zs : List (Tb × Int)} {A : Tb}, Nn m A → (∀ x ∈ zs, Nn m x.1) → Nn m (partTm m A zs)
  | [], A, h, _ => h
  | x :: zs, A, h, k => Nn.part (zs := zs) (h.prod ((k x (by simp)).pow _)) fun y hy => k y (List.mem_cons_of_mem _ hy)
theorem evT_part (qs : List Rat) {m : Nat} : ∀ {zs : List (Tb × Int)} {A : Tb}, Nn m A → (∀ x ∈ zs, Nn m x.1) → evT qs (partTm m A zs) = partQ (evT qs A) (zs.map fun x => (evT qs x.1, x.2))
  | [], A, _, _ => rfl
  | x :: zs, A, h, k => by
    have hx := k x (by simp)
    have ih := evT_part qs (zs := zs) (h.prod (hx.pow x.2.toNat)) fun y hy => k y (List.mem_cons_of_mem _ hy)
    show evT qs (partTm m (prodT A (powT m x.1 x.2.toNat)) zs) = partQ (evT qs A * powQ (evT qs x.1) x.2.toNat) (zs.map fun x => (evT qs x.1, x.2))
    rw [ih, evT_prod qs h (hx.pow _), evT_pow qs hx]
theorem evT_with (qs : List Rat) {m : Nat} {rows : List Tb} (hr : ∀ r ∈ rows, Nn m r) : ∀ f : Tb, evT qs (withT m rows f) = evT (rows.map (evT qs)) f
  | [] => rfl
  | p :: f => by
    have ih := evT_with qs hr f
    have e1 : withT m rows (p :: f) = partTm m (constT m p.2) (rows.zip p.1) ++ withT m rows f := rfl
    rw [e1, evT_app, ih, evT_part qs Nn.const (fun x hx => by obtain ⟨a, b⟩ := x; exact hr a (List.of_mem_zip hx).1), evT_const]
    have e2 : ((rows.zip p.1).map fun x => (evT qs x.1, x.2)) = (rows.map (evT qs)).zip p.1 := by
      rw [List.zip_map_left]
      rfl
    rw [e2, partQ_mul]
    rfl
/-! derivatives -/
def lowE (p : List Int) (i : Nat) : List Int := p.set i (p.getD i 0 - 1)
def dT (f : Tb) (i : Nat) : Tb := f.flatMap fun p => if 0 < p.1.getD i 0 then [(lowE p.1 i, p.2 * ((p.1.getD i 0 : Int) : Rat))] else []
theorem dT_app (A B : Tb) (i : Nat) : dT (A ++ B) i = dT A i ++ dT B i := by simp [dT]
theorem dT_ln {m : Nat} {A : Tb} (h : Ln m A) (i : Nat) : Ln m (dT A i) := fun p hp => by
  obtain ⟨q, hq, hp⟩ := List.mem_flatMap.mp hp
  split at hp
  · rw [List.mem_singleton.mp hp]
    unfold lowE
    rw [List.length_set]
    exact h q hq
  · cases hp
theorem getD_set_self {e : List Int} {i : Nat} {x : Int} (h : i < e.length) : (e.set i x).getD i 0 = x := by
  rw [List.getD_eq_getElem?_getD, List.getElem?_set_self h]; rfl
theorem dT_sum {m i : Nat} (hi : i < m) : ∀ {A : Tb}, Nn m A → ∀ {e : List Int}, e.length = m → sumT (dT A i) e = ((e.getD i 0 + 1 : Int) : Rat) * sumT A (e.set i (e.getD i 0 + 1))
  | [], _, e, _ => by
    show (0 : Rat) = _ * 0
    grind
  | p :: A, h, e, he => by
    have ih := dT_sum hi (A := A) (fun q hq => h q (List.mem_cons_of_mem _ hq)) he
    obtain ⟨h1, h2⟩ := h p (by simp)
    have e1 : dT (p :: A) i = (if 0 < p.1.getD i 0 then [(lowE p.1 i, p.2 * ((p.1.getD i 0 : Int) : Rat))] else []) ++ dT A i := rfl
    rw [e1, sumT_app, ih]
    simp only [sumT]
    have hpi : 0 ≤ p.1.getD i 0 := by
      rw [List.getD_eq_getElem?_getD, List.getElem?_eq_getElem (by omega)]
      exact h2 _ (List.getElem_mem _)
    by_cases c : e.set i (e.getD i 0 + 1) = p.1
    · have hp : p.1.getD i 0 = e.getD i 0 + 1 := by rw [← c, getD_set_self (by omega)]
      rw [if_pos c]
      by_cases c2 : 0 < p.1.getD i 0
      · rw [if_pos c2]
        have e2 : lowE p.1 i = e := by
          unfold lowE
          rw [hp, ← c, List.set_set]
          have : e.getD i 0 + 1 - 1 = e[i]'(by omega) := by
            rw [List.getD_eq_getElem?_getD, List.getElem?_eq_getElem (by omega)]
            simp
          rw [this, List.set_getElem_self]
        simp only [sumT, e2, if_pos]
        rw [hp]
        grind
      · rw [if_neg c2]
        have : e.getD i 0 + 1 = 0 := by omega
        rw [this]
        simp only [sumT]
        have z : ((0 : Int) : Rat) = 0 := by decide +kernel
        rw [z]
        grind
    · rw [if_neg c]
      by_cases c2 : 0 < p.1.getD i 0
      · rw [if_pos c2]
        have e2 : ¬ e = lowE p.1 i := fun z => c (by
          rw [z]
          unfold lowE
          rw [getD_set_self (by omega), List.set_set]
          have : p.1.getD i 0 - 1 + 1 = p.1[i]'(by omega) := by
            rw [List.getD_eq_getElem?_getD, List.getElem?_eq_getElem (by omega)]
            simp
          rw [this, List.set_getElem_self])
        simp only [sumT, if_neg e2]
        grind
      · rw [if_neg c2]
        simp only [sumT]
        grind
theorem dT_eq {m i : Nat} (hi : i < m) {A B : Tb} (hA : Nn m A) (hB : Nn m B) (h : sumT A = sumT B) : sumT (dT A i) = sumT (dT B i) := by
  funext e
  by_cases he : e.length = m
  · rw [dT_sum hi hA he, dT_sum hi hB he, h]
  · rw [sumT_off (dT_ln hA.ln i) he, sumT_off (dT_ln hB.ln i) he]
theorem low_add {a b : List Int} {i : Nat} (h : a.length = b.length) (hi : i < a.length) : addE (lowE a i) b = lowE (addE a b) i ∧ addE a (lowE b i) = lowE (addE a b) i := by
  have g : (addE a b).getD i 0 = a[i] + b[i]'(by omega) := by
    rw [List.getD_eq_getElem?_getD, List.getElem?_eq_getElem (by simp; omega)]
    simp
  have ga : a.getD i 0 = a[i] := by rw [List.getD_eq_getElem?_getD, List.getElem?_eq_getElem hi]; rfl
  have gb : b.getD i 0 = b[i]'(by omega) := by rw [List.getD_eq_getElem?_getD, List.getElem?_eq_getElem (by omega)]; rfl
  unfold lowE
  rw [g, ga, gb]
  constructor
  · refine List.ext_getElem (by simp) fun j h1 h2 => ?_
    simp only [List.getElem_zipWith, List.getElem_set]
    split
    · rename_i c; subst c; omega
    · rfl
  · refine List.ext_getElem (by simp) fun j h1 h2 => ?_
    simp only [List.getElem_zipWith, List.getElem_set]
    split
    · rename_i c; subst c; omega
    · rfl
theorem leib_one {m i : Nat} (hi : i < m) {p : List Int × Rat} (hp : p.1.length = m ∧ ∀ x ∈ p.1, 0 ≤ x) (e : List Int) : ∀ {g : Tb}, Nn m g → sumT (dT (g.map fun q => (addE p.1 q.1, p.2 * q.2)) i) e = sumT (prodT (dT [p] i) g) e + sumT ((dT g i).map fun q => (addE p.1 q.1, p.2 * q.2)) e
  | [], _ => by
    have : prodT (dT [p] i) [] = [] := by simp [prodT]
    rw [this]
    show (0 : Rat) = 0 + 0
    grind
  | q :: g, h => by
    have ih := leib_one hi hp e (g := g) fun r hr => h r (List.mem_cons_of_mem _ hr)
    obtain ⟨q1, q2⟩ := h q (by simp)
    obtain ⟨p1, p2⟩ := hp
    obtain ⟨l1, l2⟩ := low_add (a := p.1) (b := q.1) (i := i) (by omega) (by omega)
    have gp : 0 ≤ p.1.getD i 0 := by
      rw [List.getD_eq_getElem?_getD, List.getElem?_eq_getElem (by omega)]
      exact p2 _ (List.getElem_mem _)
    have gq : 0 ≤ q.1.getD i 0 := by
      rw [List.getD_eq_getElem?_getD, List.getElem?_eq_getElem (by omega)]
      exact q2 _ (List.getElem_mem _)
    have gs : (addE p.1 q.1).getD i 0 = p.1.getD i 0 + q.1.getD i 0 := by
      rw [List.getD_eq_getElem?_getD, List.getElem?_eq_getElem (by simp; omega), List.getD_eq_getElem?_getD, List.getElem?_eq_getElem (by omega), List.getD_eq_getElem?_getD, List.getElem?_eq_getElem (by omega)]
      simp
    have e1 : dT ((q :: g).map fun q => (addE p.1 q.1, p.2 * q.2)) i = (if 0 < (addE p.1 q.1).getD i 0 then [(lowE (addE p.1 q.1) i, p.2 * q.2 * (((addE p.1 q.1).getD i 0 : Int) : Rat))] else []) ++ dT (g.map fun q => (addE p.1 q.1, p.2 * q.2)) i := rfl
    have e2 : dT (q :: g) i = (if 0 < q.1.getD i 0 then [(lowE q.1 i, q.2 * ((q.1.getD i 0 : Int) : Rat))] else []) ++ dT g i := rfl
    have e3 : dT [p] i = if 0 < p.1.getD i 0 then [(lowE p.1 i, p.2 * ((p.1.getD i 0 : Int) : Rat))] else [] := by simp [dT]
    rw [e1, e2, sumT_app, ih, List.map_append, sumT_app, gs]
    rw [e3]
    have cast : ((p.1.getD i 0 + q.1.getD i 0 : Int) : Rat) = ((p.1.getD i 0 : Int) : Rat) + ((q.1.getD i 0 : Int) : Rat) := by push_cast; rfl
    by_cases c1 : 0 < p.1.getD i 0 <;> by_cases c2 : 0 < q.1.getD i 0
    · rw [if_pos c1, if_pos c2, if_pos (by omega)]
      simp only [prodT, List.flatMap_cons, List.flatMap_nil, List.append_nil, List.map_cons, List.map_nil, sumT, l1, l2, cast]
      by_cases c : e = lowE (addE p.1 q.1) i
      · simp only [if_pos c]; grind
      · simp only [if_neg c]; grind
    · have z : q.1.getD i 0 = 0 := by omega
      rw [if_pos c1, if_neg c2, if_pos (by omega), z]
      simp only [prodT, List.flatMap_cons, List.flatMap_nil, List.append_nil, List.map_cons, List.map_nil, sumT, l1, Int.add_zero]
      by_cases c : e = lowE (addE p.1 q.1) i
      · simp only [if_pos c]; grind
      · simp only [if_neg c]; grind
    · have z : p.1.getD i 0 = 0 := by omega
      rw [if_neg c1, if_pos c2, if_pos (by omega), z]
      simp only [prodT, List.flatMap_nil, List.map_cons, List.map_nil, sumT, l2, Int.zero_add]
      by_cases c : e = lowE (addE p.1 q.1) i
      · simp only [if_pos c]; grind
      · simp only [if_neg c]; grind
    · rw [if_neg c1, if_neg c2, if_neg (by omega)]
      simp only [prodT, List.flatMap_nil, List.map_nil, sumT]
      try grind
theorem leibniz {m i : Nat} (hi : i < m) (e : List Int) : ∀ {f g : Tb}, Nn m f → Nn m g → sumT (dT (prodT f g) i) e = sumT (prodT (dT f i) g ++ prodT f (dT g i)) e
  | [], g, _, _ => rfl
  | p :: f, g, hf, hg => by
    have ih := leibniz hi e (f := f) (fun r hr => hf r (List.mem_cons_of_mem _ hr)) hg
    have e1 : prodT (p :: f) g = (g.map fun q => (addE p.1 q.1, p.2 * q.2)) ++ prodT f g := rfl
    have e2 : dT (p :: f) i = dT [p] i ++ dT f i := by rw [← dT_app]; rfl
    have e3 : ∀ A B C : Tb, prodT (A ++ B) C = prodT A C ++ prodT B C := fun A B C => by simp [prodT]
    have e4 : prodT (p :: f) (dT g i) = ((dT g i).map fun q => (addE p.1 q.1, p.2 * q.2)) ++ prodT f (dT g i) := rfl
    rw [e1, dT_app, sumT_app, leib_one hi (hf p (by simp)) e hg, ih, e2, e3, e4]
    simp only [sumT_app]
    grind
end K05
end

section
set_option Elab.async false
set_option linter.all false
set_option maxRecDepth 100000
set_option maxHeartbeats 1000000
set_option exponentiation.threshold 20000
namespace K05
open PySem PySem.Spec L2 Dl
def degs (f : Tb) : List Int := f.map fun p => p.1.sum
def deg (f : Tb) : Int := maxI (-1) (degs f)
theorem fold_max : ∀ (ns : List Int) (n : Int), (n ≤ ns.foldl max n ∧ ∀ y ∈ ns, y ≤ ns.foldl max n) ∧ (ns.foldl max n = n ∨ ns.foldl max n ∈ ns)
  | [], n => ⟨⟨Int.le_refl _, fun y hy => by cases hy⟩, .inl rfl⟩
  | m :: ns, n => by
    obtain ⟨⟨h1, h2⟩, h3⟩ := fold_max ns (max n m)
    refine ⟨⟨by rw [List.foldl_cons]; omega, fun y hy => ?_⟩, ?_⟩
    · rw [List.foldl_cons]
      rcases List.mem_cons.mp hy with rfl | hy
      · omega
      · exact h2 y hy
    · rw [List.foldl_cons]
      rcases h3 with h3 | h3
      · rw [h3]
        by_cases c : n ≤ m
        · rw [Int.max_eq_right c]; exact .inr (by simp)
        · rw [Int.max_eq_left (by omega)]; exact .inl rfl
      · exact .inr (List.mem_cons_of_mem _ h3)
theorem max_sub {ns ms : List Int} {n : Int} (h : ∀ x ∈ ns, x ∈ ms) : ns.foldl max n ≤ ms.foldl max n := by
  obtain ⟨_, c⟩ := fold_max ns n
  obtain ⟨⟨a, b⟩, _⟩ := fold_max ms n
  rcases c with c | c
  · rw [c]; exact a
  · exact b _ (h _ c)
theorem deg_same {k k' : List Int → List Int} {F : List Int → Rat} {f g : Tb} (hf : Can k F f) (hg : Can k' F g) : deg f = deg g := by
  have mm : ∀ {k k' : List Int → List Int} {A B : Tb}, Can k F A → Can k' F B → ∀ x ∈ degs A, x ∈ degs B := fun {k k' A B} a b x hx => by
    obtain ⟨p, hp, rfl⟩ := List.mem_map.mp hx
    obtain ⟨e1, e2⟩ := a.mem p hp
    exact List.mem_map.mpr ⟨_, b.all p.1 (by rw [← e1]; exact e2), rfl⟩
  have h1 := max_sub (n := -1) (mm hf hg)
  have h2 := max_sub (n := -1) (mm hg hf)
  show (degs f).foldl max (-1) = (degs g).foldl max (-1)
  omega
theorem addE_app (a b c d : List Int) (h : a.length = c.length) : addE (a ++ b) (c ++ d) = addE a c ++ addE b d := by
  unfold addE
  exact List.zipWith_append h
theorem addE_map_neg : ∀ a b : List Int, addE (a.map fun x => -x) (b.map fun x => -x) = (addE a b).map fun x => -x
  | [], _ => by simp
  | _ :: _, [] => by simp
  | x :: a, y :: b => by
    have ih := addE_map_neg a b
    unfold addE at *
    simp only [List.map_cons, List.zipWith_cons_cons, ih]
    congr 1
    omega
theorem addE_rev {a b : List Int} (h : a.length = b.length) : addE a.reverse b.reverse = (addE a b).reverse := by
  unfold addE
  rw [List.reverse_zipWith h]
theorem bkey_add {a b : List Int} (h : a.length = b.length) : bkey (addE a b) = addE (bkey a) (bkey b) := by
  unfold bkey
  rw [sum_addE h, ← addE_rev h, ← addE_map_neg]
  rfl
theorem part_add {a b : List Int} (ks : List Nat) (t : Bool) (h : a.length = b.length) : part ks t (addE a b) = addE (part ks t a) (part ks t b) := by
  unfold part
  have hl : (addE a b).length = a.length := by simp [h]
  rw [hl, ← h]
  have gen : ∀ K : List Nat, (∀ k ∈ K, k < a.length) → (K.map fun k => (addE a b).getD k 0) = addE (K.map fun k => a.getD k 0) (K.map fun k => b.getD k 0) := by
    intro K
    induction K with
    | nil => intro _; rfl
    | cons k K ih =>
      intro hk
      have h1 := hk k (by simp)
      have := ih fun x hx => hk x (List.mem_cons_of_mem _ hx)
      unfold addE at *
      simp only [List.map_cons, List.zipWith_cons_cons, this]
      congr 1
      rw [List.getD_eq_getElem?_getD, List.getElem?_eq_getElem (by simp; omega), List.getD_eq_getElem?_getD, List.getElem?_eq_getElem h1, List.getD_eq_getElem?_getD, List.getElem?_eq_getElem (by omega)]
      simp
  refine gen _ fun k hk => ?_
  have := (List.mem_filter.mp hk).1
  simpa using this
theorem dotP_add : ∀ (r a b : List Int), a.length = b.length → dotP r (addE a b) = dotP r a + dotP r b
  | [], a, b, _ => by simp [dotP]
  | x :: r, [], [], _ => by simp [dotP]
  | x :: r, y :: a, z :: b, h => by
    have ih := dotP_add r a b (by simpa using h)
    unfold dotP addE at *
    simp only [List.zipWith_cons_cons, List.zip_cons_cons, List.map_cons, List.sum_cons, ih, Int.mul_add]
    omega
  | _ :: _, [], _ :: _, h => by simp at h
  | _ :: _, _ :: _, [], h => by simp at h
theorem part_len {a b : List Int} (ks : List Nat) (t : Bool) (h : a.length = b.length) : (part ks t a).length = (part ks t b).length := by
  unfold part
  rw [List.length_map, List.length_map, h]
theorem bkey_len {a b : List Int} (h : a.length = b.length) : (bkey a).length = (bkey b).length := by
  unfold bkey
  simp [h]
theorem pkey_len {o : Od} {a b : List Int} (h : a.length = b.length) : (pkey o a).length = (pkey o b).length := by
  cases o with
  | lex => exact h
  | deg => show (a.sum :: a).length = (b.sum :: b).length; simp [h]
  | back => exact bkey_len h
  | blk ks =>
    show (bkey (part ks true a) ++ bkey (part ks false a)).length = (bkey (part ks true b) ++ bkey (part ks false b)).length
    rw [List.length_append, List.length_append, bkey_len (part_len ks true h), bkey_len (part_len ks false h)]
  | wts rows => show (rows.map fun r => dotP r a).length = (rows.map fun r => dotP r b).length; simp
theorem pkey_add {o : Od} {a b : List Int} (h : a.length = b.length) : pkey o (addE a b) = addE (pkey o a) (pkey o b) := by
  cases o with
  | lex => rfl
  | deg =>
    show (addE a b).sum :: addE a b = addE (a.sum :: a) (b.sum :: b)
    rw [sum_addE h]
    rfl
  | back => exact bkey_add h
  | blk ks =>
    show bkey (part ks true (addE a b)) ++ bkey (part ks false (addE a b)) = addE (bkey (part ks true a) ++ bkey (part ks false a)) (bkey (part ks true b) ++ bkey (part ks false b))
    rw [part_add ks true h, part_add ks false h, bkey_add (part_len ks true h), bkey_add (part_len ks false h), addE_app _ _ _ _ (bkey_len (part_len ks true h))]
  | wts rows =>
    show (rows.map fun r => dotP r (addE a b)) = addE (rows.map fun r => dotP r a) (rows.map fun r => dotP r b)
    induction rows with
    | nil => rfl
    | cons r rows ih =>
      simp only [List.map_cons, ih, dotP_add r a b h]
      rfl
theorem lt_addE : ∀ {x y z : List Int}, x.length = y.length → z.length = x.length → x < y → addE x z < addE y z
  | [], [], _, _, _, h => absurd h (List.lt_irrefl _)
  | a :: x, b :: y, c :: z, h1, h2, h => by
    have ih := lt_addE (x := x) (y := y) (z := z) (by simpa using h1) (by simpa using h2)
    unfold addE at *
    simp only [List.zipWith_cons_cons]
    rcases List.cons_lt_cons_iff.mp h with h3 | ⟨h4, h3⟩
    · exact List.cons_lt_cons_iff.mpr (.inl (by omega))
    · exact List.cons_lt_cons_iff.mpr (.inr ⟨by rw [h4], ih h3⟩)
  | [], _ :: _, _, h, _, _ => by simp at h
  | _ :: _, [], _, h, _, _ => by simp at h
  | _ :: _, _ :: _, [], _, h, _ => by simp at h
theorem pkey_lt_add {m : Nat} {o : Od} {a b c : List Int} (ha : a.length = m) (hb : b.length = m) (hc : c.length = m) (h : pkey o a < pkey o b) : pkey o (addE a c) < pkey o (addE b c) := by
  rw [pkey_add (by omega), pkey_add (by omega)]
  exact lt_addE (pkey_len (by omega)) (pkey_len (by omega)) h
theorem sumT_none {e : List Int} : ∀ {A : Tb}, (∀ p ∈ A, p.1 ≠ e) → sumT A e = 0
  | [], _ => rfl
  | p :: A, h => by
    simp only [sumT]
    rw [sumT_none fun q hq => h q (List.mem_cons_of_mem _ hq), if_neg fun z => h p (by simp) z.symm]
    grind
/-- the heads' product -/
theorem head_prod {m : Nat} {o : Od} {F G : List Int → Rat} {p0 q0 : List Int × Rat} {f g whole : Tb} (hf : Can (pkey o) F (p0 :: f)) (hg : Can (pkey o) G (q0 :: g)) (lf : Ln m (p0 :: f)) (lg : Ln m (q0 :: g)) (hw : Can (pkey o) (sumT (prodT (p0 :: f) (q0 :: g))) whole) : ∃ rest, whole = (addE p0.1 q0.1, p0.2 * q0.2) :: rest := by
  have lp0 := lf p0 (by simp)
  have lq0 := lg q0 (by simp)
  have fd := List.pairwise_cons.mp hf.desc
  have gd := List.pairwise_cons.mp hg.desc
  -- every pair but the heads lies below
  have below : ∀ p ∈ p0 :: f, ∀ q ∈ q0 :: g, (p = p0 ∧ q = q0) ∨ pkey o (addE p.1 q.1) < pkey o (addE p0.1 q0.1) := by
    intro p hp q hq
    have lp := lf p hp
    have lq := lg q hq
    rcases List.mem_cons.mp hp with rfl | hp
    · rcases List.mem_cons.mp hq with rfl | hq
      · exact .inl ⟨rfl, rfl⟩
      · refine .inr ?_
        rw [addE_comm p.1 q.1, addE_comm p.1 q0.1]
        exact pkey_lt_add lq lq0 lp (gd.1 q hq)
    · refine .inr ?_
      have h1 := pkey_lt_add lp lp0 lq (fd.1 p hp)
      rcases List.mem_cons.mp hq with rfl | hq
      · exact h1
      · have h2 := pkey_lt_add lq lq0 lp0 (gd.1 q hq)
        rw [addE_comm q.1 p0.1, addE_comm q0.1 p0.1] at h2
        exact List.lt_trans h1 h2
  have ne : ∀ p ∈ p0 :: f, ∀ q ∈ q0 :: g, ¬ (p = p0 ∧ q = q0) → addE p.1 q.1 ≠ addE p0.1 q0.1 := by
    intro p hp q hq hn z
    rcases below p hp q hq with h | h
    · exact hn h
    · rw [z] at h
      exact List.lt_irrefl _ h
  have nf : ∀ p ∈ f, p ≠ p0 := fun p hp z => by
    have := fd.1 p hp
    rw [z] at this
    exact List.lt_irrefl _ this
  have ng : ∀ q ∈ g, q ≠ q0 := fun q hq z => by
    have := gd.1 q hq
    rw [z] at this
    exact List.lt_irrefl _ this
  have val : sumT (prodT (p0 :: f) (q0 :: g)) (addE p0.1 q0.1) = p0.2 * q0.2 := by
    have e1 : prodT (p0 :: f) (q0 :: g) = (addE p0.1 q0.1, p0.2 * q0.2) :: ((g.map fun q => (addE p0.1 q.1, p0.2 * q.2)) ++ prodT f (q0 :: g)) := rfl
    rw [e1]
    simp only [sumT, if_true]
    rw [sumT_none]
    · grind
    · intro x hx
      rcases List.mem_append.mp hx with hx | hx
      · obtain ⟨q, hq, rfl⟩ := List.mem_map.mp hx
        exact ne p0 (by simp) q (List.mem_cons_of_mem _ hq) fun z => ng q hq z.2
      · obtain ⟨p, hp, hx⟩ := List.mem_flatMap.mp hx
        obtain ⟨q, hq, rfl⟩ := List.mem_map.mp hx
        exact ne p (List.mem_cons_of_mem _ hp) q hq fun z => nf p hp z.1
  have nz : p0.2 * q0.2 ≠ 0 := fun z => by
    rcases Rat.mul_eq_zero.mp z with z | z
    · exact (hf.mem p0 (by simp)).2 z
    · exact (hg.mem q0 (by simp)).2 z
  have mem := hw.all (addE p0.1 q0.1) (by rw [val]; exact nz)
  rw [val] at mem
  cases hwh : whole with
  | nil => rw [hwh] at mem; cases mem
  | cons w rest =>
    rw [hwh] at mem hw
    have wd := List.pairwise_cons.mp hw.desc
    rcases List.mem_cons.mp mem with h | h
    · exact ⟨rest, by rw [h]⟩
    · exfalso
      have lt := wd.1 _ h
      dsimp only at lt
      obtain ⟨w1, w2⟩ := hw.mem w (by simp)
      -- the head's power is some pair's
      have ex : ∃ x ∈ prodT (p0 :: f) (q0 :: g), x.1 = w.1 := Classical.byContradiction fun z => w2 (by
        rw [w1]
        exact sumT_none fun x hx e => z ⟨x, hx, e⟩)
      obtain ⟨x, hx, ex⟩ := ex
      obtain ⟨p, hp, hx⟩ := List.mem_flatMap.mp hx
      obtain ⟨q, hq, rfl⟩ := List.mem_map.mp hx
      dsimp only at ex
      rw [← ex] at lt
      rcases below p hp q hq with ⟨rfl, rfl⟩ | h2
      · exact List.lt_irrefl _ lt
      · exact List.lt_irrefl _ (List.lt_trans lt h2)
/-- degrees of products -/
theorem deg_head {F : List Int → Rat} {p0 : List Int × Rat} {f : Tb} (h : Can (pkey .deg) F (p0 :: f)) (hn : ∀ x ∈ p0.1, 0 ≤ x) : deg (p0 :: f) = p0.1.sum := by
  have fd := List.pairwise_cons.mp h.desc
  obtain ⟨⟨a, b⟩, c⟩ := fold_max (degs (p0 :: f)) (-1)
  have h0 : 0 ≤ p0.1.sum := sum_nn hn
  have le : ∀ y ∈ degs (p0 :: f), y ≤ p0.1.sum := fun y hy => by
    obtain ⟨p, hp, rfl⟩ := List.mem_map.mp hy
    rcases List.mem_cons.mp hp with rfl | hp
    · exact Int.le_refl _
    · have lt := fd.1 p hp
      show p.1.sum ≤ p0.1.sum
      rcases List.cons_lt_cons_iff.mp (show p.1.sum :: p.1 < p0.1.sum :: p0.1 from lt) with h1 | ⟨h1, _⟩ <;> omega
  have ge := b p0.1.sum (List.mem_map.mpr ⟨p0, by simp, rfl⟩)
  show (degs (p0 :: f)).foldl max (-1) = p0.1.sum
  rcases c with c | c
  · omega
  · have := le _ c
    omega
theorem deg_row {k : List Int → List Int} {F : List Int → Rat} {m : Nat} {f : Tb} (h : Can k F f) (hl : Ln m f) : ∃ g, Can (pkey .deg) F g ∧ g.length = f.length ∧ ∀ p ∈ g, p ∈ f := by
  have inj : ∀ a ∈ f.map (·.1), ∀ b ∈ f.map (·.1), pkey .deg a = pkey .deg b → a = b := fun a _ b _ e => by
    have e : a.sum :: a = b.sum :: b := e
    injection e
  have e : Dl.val f = F := funext fun e => by rw [← sumT_val h.nodup e, h.sum]
  have c := can_row (pkey .deg) h.nodup inj
  have mem : ∀ p ∈ rowOf (pkey .deg) f, p ∈ f := fun p hp => by
    obtain ⟨e1, e2⟩ := c.mem p hp
    rw [e] at e1
    have := h.all p.1 (by rw [← e1]; exact e2)
    rw [← e1] at this
    exact this
  refine ⟨_, e ▸ c, ?_, mem⟩
  unfold rowOf
  rw [List.length_map, (srt_perm _ _).length_eq]
  unfold nz
  rw [List.length_map, List.filter_eq_self.mpr fun p hp => decide_eq_true (h.mem p hp).2]
theorem deg_prod {m : Nat} {k : List Int → List Int} {k2 : List Int → List Int} {k3 : List Int → List Int} {F G : List Int → Rat} {f g whole : Tb} (hf : Can k F f) (hg : Can k2 G g) (nf : Nn m f) (ng : Nn m g) (f0 : f ≠ []) (g0 : g ≠ []) (hw : Can k3 (sumT (prodT f g)) whole) (nw : Ln m whole) : deg whole = deg f + deg g := by
  obtain ⟨f', cf, lf, mf⟩ := deg_row hf nf.ln
  obtain ⟨g', cg, lg, mg⟩ := deg_row hg ng.ln
  obtain ⟨w', cw, lw, mw⟩ := deg_row hw nw
  have nf' : Nn m f' := fun p hp => nf p (mf p hp)
  have ng' : Nn m g' := fun p hp => ng p (mg p hp)
  have e1 : sumT (prodT f g) = sumT (prodT f' g') := by
    rw [conv_left nf.ln nf'.ln ng.ln (show sumT f = sumT f' by rw [funext hf.sum, funext cf.sum]), conv_right nf'.ln ng.ln ng'.ln (show sumT g = sumT g' by rw [funext hg.sum, funext cg.sum])]
  rw [e1] at cw hw
  cases f' with
  | nil => exact absurd (List.eq_nil_of_length_eq_zero (by simpa using lf.symm)) f0
  | cons p0 f' =>
    cases g' with
    | nil => exact absurd (List.eq_nil_of_length_eq_zero (by simpa using lg.symm)) g0
    | cons q0 g' =>
      obtain ⟨rest, rfl⟩ := head_prod cf cg nf'.ln ng'.ln cw
      have hp0 := nf' p0 (by simp)
      have hq0 := ng' q0 (by simp)
      rw [deg_same hw cw, deg_same hf cf, deg_same hg cg, deg_head cf hp0.2, deg_head cg hq0.2]
      have hnn : ∀ x ∈ addE p0.1 q0.1, 0 ≤ x := fun x hx => by
        obtain ⟨i, hi, rfl⟩ := List.getElem_of_mem hx
        simp only [List.length_zipWith] at hi
        simp only [List.getElem_zipWith]
        have h1 := hp0.2 _ (List.getElem_mem (show i < p0.1.length by omega))
        have h2 := hq0.2 _ (List.getElem_mem (show i < q0.1.length by omega))
        omega
      rw [deg_head cw hnn]
      exact sum_addE (by rw [hp0.1, hq0.1])
end K05
end

section
set_option Elab.async false
set_option linter.all false
set_option maxRecDepth 100000
set_option maxHeartbeats 1000000
set_option exponentiation.threshold 20000
namespace K05
open PySem PySem.Spec L2 Dl
local macro_rules | `(tactic| walk_at "dl") => `(tactic| simp (disch := first | assumption | exact get_new | (refine get_app ?_; first | assumption | exact get_new | (refine get_app ?_; first | assumption | exact get_new)) | (refine get_set ?_; assumption) | exact atI_0 | exact atI_1 | exact atI_2 | exact ok_lex | exact ok_degree | exact ok_back | exact ok_blocks | exact ok_weights) only [
  e_cB, e_fB, e_dnew, e_dget, e_din, vt_din, e_dget2, e_dpop, e_sortp, x_dput, w_isT, w_din, w_dget2, w_dget, w_dput, w_dpop, w_fr0, w_fr1, e_var, e_int, e_bl, e_non, e_str, e_glo, e_tup, e_lst, e_op, e_neg, e_not, e_and, e_or, e_cmp, e_chain, e_ite, e_ix, e_sl, e_rev, e_call, e_bi, e_me, e_isi, e_isis, e_comp, e_tupr, e_lstr, e_nil, e_cons, e_ono, e_oso, e_cno, e_cso, vt_and, vt_or, vt_not, vt_cmp, vt_chain, vt_var, vt_bl, vt_call, vt_bi, vt_isi, vt_isis, vi_seq, vi_rng1, vi_rng2, vi_zip, vg_nm, vg_tp, vg_ixs, gs_nil, gs_cons, x_asg, x_par, x_aug, x_expr, x_ret, x_retN, x_ite, x_for, x_whl, x_pass, x_brk, x_cnt, xs_nil, k_one, k_cons, k_rt, k_bk, k_ct, r_nx, r_rt, w_neg, w_tupr, w_lstr,
  TGs.len, wq_pure, List.getElem?_cons_zero, List.getElem?_cons_succ, List.set_cons_zero, List.set_cons_succ, List.length_cons, List.length_nil, List.length_map, if_true, Bool.false_eq_true, if_false, startE, List.map_cons, List.map_nil, List.replicate, List.cons_append, List.nil_append, wipeE, Nat.zero_add, Nat.reduceAdd, Nat.reduceSub, true_and,
  w_getL_ref, w_getS_ref, w_getL_ro, w_getS_ro, w_getS_tup, w_add, w_sub, w_mul, w_addT, w_addL, w_mulL, w_fdiv, w_mod, w_pow, w_shl, w_lt, w_le, w_gt, w_ge, w_ltT, w_gtT, w_eq, w_ne, w_isN, w_isnN, w_in, w_nin, w_trB, w_trN, w_trI, w_trT, w_trL, w_lenT, w_lenR, w_lenL, w_sumT, w_sumL, w_int, w_intB, w_tupL, w_listL, w_listT, w_append, w_pop, w_reverse, w_isL, w_revT, w_asInt, w_slR, w_srcT, w_srcR, w_srcL, w_rng, w_zipT, w_unpkT, w_unpkL, w_eqB, w_eqT, w_eqI, w_ixT, w_eqS, w_eqTS, Bool.not_true, Bool.not_false, decide_true, decide_false, wd_lex_lex, wd_lex_degree, wd_lex_back, wd_lex_blocks, wd_lex_weights, wd_degree_lex, wd_degree_degree, wd_degree_back, wd_degree_blocks, wd_degree_weights, wd_back_lex, wd_back_degree, wd_back_back, wd_back_blocks, wd_back_weights, wd_blocks_lex, wd_blocks_degree, wd_blocks_back, wd_blocks_blocks, wd_blocks_weights, wd_weights_lex, wd_weights_degree, wd_weights_back, wd_weights_blocks, wd_weights_weights])
local macro_rules | `(tactic| walk_at "nx") => `(tactic| (rw [k_nx]; try walk_at "dl"))
local macro_rules | `(tactic| walk_at "cj") => `(tactic| repeat refine And.intro (by first | decide | exact lens_of (by decide) | exact lens_of (by simp) | simp) ?_)
local macro_rules | `(tactic| walk_at "cd") => `(tactic| repeat refine And.intro (by decide) ?_)
theorem Mb.nil {m : Nat} {b : Int} {N M : Nat} : Mb m b N M [] := fun p hp => by cases hp
theorem can_eq {k : List Int → List Int} {F : List Int → Rat} {L : Tb} (h : Can k F L) : sumT L = F := funext h.sum
theorem const_len (m : Nat) (q : Rat) : (constT m q).length ≤ 1 := by
  unfold constT
  split <;> simp
theorem const_one (m : Nat) : constT m 1 = [(zer m, 1)] := by unfold constT; rw [if_neg (by decide)]
theorem sum_const {m : Nat} {q : Rat} : sumT [(zer m, q)] = sumT (constT m q) := by
  unfold constT
  split
  · rename_i c
    subst c
    funext e
    simp only [sumT]
    grind
  · rfl
theorem prod_len (f g : Tb) : (prodT f g).length = f.length * g.length := by
  induction f with
  | nil => simp [prodT]
  | cons p f ih =>
    have : prodT (p :: f) g = (g.map fun q => (addE p.1 q.1, p.2 * q.2)) ++ prodT f g := rfl
    rw [this, List.length_append, List.length_map, ih, List.length_cons, Nat.add_mul]
    omega
def bm (c M : Nat) : Nat → Nat
  | 0 => 1
  | k + 1 => c ^ (k + 1) * (bm c M k * M)
structure PwOk (m : Nat) (o : Od) (g : Tb) (b c N M k : Nat) (L : Tb) : Prop where
  can : Can (pkey o) (sumT (powT m g k)) L
  mb : Mb m ((b * k : Nat) : Int) (N ^ k) (bm c M k) L
  len : L.length ≤ c ^ k
/-- the numbers are small enough for powers below K -/
def PwNum (b c N M K : Nat) : Prop := (N < 2 ^ 3900 ∧ M < 2 ^ 3900 ∧ b * K ≤ 1000) ∧ ∀ k, k < K → c ^ (k + 1) ≤ 1000 ∧ N ^ k < 2 ^ 3900 ∧ bm c M k < 2 ^ 3900 ∧ N ^ k * N < 2 ^ 3900 ∧ (c ^ (k + 1) + 1) * (bm c M k * M) < 2 ^ 3900
instance (b c N M K : Nat) : Decidable (PwNum b c N M K) := by unfold PwNum; infer_instance
theorem PwOk.one {m : Nat} {o : Od} {g L : Tb} {b c N M : Nat} (h : PO m o 0 1 1 1 (sumT [(zer m, 1)]) L) : PwOk m o g b c N M 0 L := ⟨by
  have := h.can
  rw [← const_one] at this
  exact this, h.ok, h.len⟩
theorem PwOk.next {m : Nat} {o : Od} {g L L' : Tb} {b c N M k : Nat} (hl : Ln m g) (hg : g.length ≤ c) (h : PwOk m o g b c N M k L) (po : PO m o (((b * k : Nat) : Int) + (b : Int)) (N ^ k * N) ((prodT L g).length * (bm c M k * M)) (prodT L g).length (sumT (prodT L g)) L') : PwOk m o g b c N M (k + 1) L' := by
  have hz : (prodT L g).length ≤ c ^ (k + 1) := by
    rw [prod_len, Nat.pow_succ]
    exact Nat.mul_le_mul h.len hg
  refine ⟨?_, fun p hp => ?_, Nat.le_trans po.len hz⟩
  · have := po.can
    rwa [conv_left h.mb.ln (Ln.pow hl k) hl (can_eq h.can)] at this
  · obtain ⟨h1, h2⟩ := po.ok p hp
    refine ⟨h1.mono (by rw [Nat.mul_succ]; omega), ?_⟩
    rw [Nat.pow_succ]
    exact h2.mono (Nat.mul_le_mul_right _ hz)
theorem power_poly_wq {n m : Nat} {o : Od} {g : Tb} {b c N M K k : Nat} {S : Store} {Q : D → Store → Prop} (hnum : PwNum b c N M K) (ho : o.ok m) (hm : 0 < m) (hm' : m ≤ 10) (mg : Mb m b N M g) (hc : c ≤ 1000) (hg : g.length ≤ c) (hk : k ≤ K) (hK : K ≤ 1000)
    (h : ∀ L S', PwOk m o g b c N M k L → Fr [] S S' → Q (polyD L) S') : wq (call gl fds (n + 7) f_power_poly [.tup [.int m, o.d], polyD g, .int k]) Q S := by
  rw [wq_call (fd := d_power_poly) rfl rfl]
  dsimp only [d_power_poly]
  unfold b_power_poly
  walk_at "dl"
  have b1 : Bd 1 1 (1 : Rat) := ⟨by decide, 1, by decide +kernel, by decide⟩
  refine ⟨lens_of (by decide), ?_⟩
  refine constant_poly_wq (q := 1) ho hm hm' b1 (by decide) (by decide) fun L1 S1 po f1 => ?_
  refine ⟨by decide, ?_⟩
  walk_at "nx"
  refine ⟨small_rng (by omega), ?_⟩
  rw [rngItems_nat]
  refine forL_inv1 (e := fun (k : Nat) => D.int (k : Int)) (fun i e S' => Fr [] S S' ∧ ∃ L o4, PwOk m o g b c N M i L ∧ e = [some (.tup [.int m, o.d]), some (polyD g), some (.int k), some (polyD L), o4]) (fun _ _ _ _ => Gd_none) ?_ ?_ ?_
  · exact ⟨f1, L1, _, PwOk.one po, rfl⟩
  · rintro e S2 ⟨f2, L, o4, ok, rfl⟩
    walk_at "nx"
    rw [List.length_range] at ok
    exact h L S2 ok f2
  · rintro i x e S2 hx ⟨f2, L, o4, ok, rfl⟩
    have hi : i < k := by
      have := (List.getElem?_eq_some_iff.mp hx).1
      simpa using this
    obtain ⟨⟨h1, h2, h3⟩, hq⟩ := hnum
    obtain ⟨n1, n2, n3, n4, n5⟩ := hq i (by omega)
    have hl : (prodT L g).length ≤ c ^ (i + 1) := by
      rw [prod_len, Nat.pow_succ]
      exact Nat.mul_le_mul ok.len hg
    have hbi : b * i + b ≤ 1000 := by
      have : b * (i + 1) ≤ b * K := Nat.mul_le_mul_left b (by omega)
      rw [Nat.mul_succ] at this
      omega
    walk_at "dl"
    refine ⟨by decide, ?_⟩
    refine multiply_poly_wq ho hm hm' (by omega) ok.mb mg n2 h1 n3 h2 n4 (bd_len n5 hl) (by omega) fun L2 S3 po f3 => ?_
    exact ⟨by decide, f2.trans f3, L2, _, ok.next mg.ln hg po, rfl⟩
/-- the numbers of what is put in: rows of c members with N, M; numbers of N0; degrees up to T; 2 ^ (p + s j) after j products, 2 ^ (q + 10 i) after i sums -/
structure PiNum (kk c N M N0 T p s q I : Nat) : Prop where
  pw : PwNum 1 c N M T
  pr : ∀ t, t ≤ T → c ^ t ≤ 1000 ∧ N0 * N ^ t < 2 ^ 3900
  st : ∀ k, k ≤ T → N ^ k < 2 ^ 3900 ∧ bm c M k < 2 ^ 3900 ∧ ∀ t, t ≤ T - k → c ^ (t + k) * bm c M k ≤ 2 ^ s
  bg : p + s * kk + s + 11 ≤ 3800
  ss : N ^ T ≤ 2 ^ 20 ∧ p + s * kk + 20 ≤ q ∧ q + 10 * (I + 1) + 10 ≤ 3800 ∧ c ^ T * (I + 1) + 1 ≤ 1000
  t1 : T ≤ 900
  n0 : 0 < N
  c0 : c ≤ 1000
  c1 : 0 < c
theorem pow2_le {a b c d : Nat} (h : a ≤ 2 ^ c) (k : b ≤ 2 ^ d) : a * b ≤ 2 ^ (c + d) := by
  rw [Nat.pow_add]
  exact Nat.mul_le_mul h k
theorem p_lt {x e : Nat} (h : x ≤ 2 ^ e) (he : e ≤ 3800) : x < 2 ^ 3900 := Nat.lt_of_le_of_lt h (Nat.pow_lt_pow_right (by decide) (by omega))
structure Part (m : Nat) (o : Od) (c N N0 p s : Nat) (t j : Nat) (A : Tb) (L : Tb) : Prop where
  can : Can (pkey o) (sumT A) L
  mb : Mb m t (N0 * N ^ t) (2 ^ (p + s * j)) L
  len : L.length ≤ c ^ t
theorem Part.const {m : Nat} {o : Od} {c N N0 p s M0 : Nat} {q : Rat} {L : Tb} (hq : Bd N0 M0 q) (hM : M0 ≤ 2 ^ p) (h : Can (pkey o) (sumT (constT m q)) L) : Part m o c N N0 p s 0 0 (constT m q) L := by
  have e := h.uniq (can_const _ m q)
  subst e
  refine ⟨h, ?_, by have := const_len m q; simpa using this⟩
  have := (Mb.const (m := m) hq).mono (Int.le_refl _) hM
  simpa using this
theorem Part.mul_len {m : Nat} {o : Od} {c N N0 p s t j k : Nat} {A L W : Tb} (h : Part m o c N N0 p s t j A L) (w : W.length ≤ c ^ k) : (prodT L W).length ≤ c ^ (t + k) := by
  rw [prod_len, Nat.pow_add]
  exact Nat.mul_le_mul h.len w
theorem part_fit {kk c N M N0 T p s q I t k j len : Nat} (hn : PiNum kk c N M N0 T p s q I) (htk : t + k ≤ T) (hz : len ≤ c ^ (t + k)) : len * (2 ^ (p + s * j) * bm c M k) ≤ 2 ^ (p + s * (j + 1)) := by
  have h1 := (hn.st k (by omega)).2.2 t (by omega)
  have h2 : len * (2 ^ (p + s * j) * bm c M k) ≤ 2 ^ (p + s * j) * (c ^ (t + k) * bm c M k) := by
    rw [Nat.mul_left_comm]
    exact Nat.mul_le_mul_left _ (Nat.mul_le_mul_right _ hz)
  rw [show p + s * (j + 1) = p + s * j + s by rw [Nat.mul_succ]; omega, Nat.pow_add 2 (p + s * j) s]
  exact Nat.le_trans h2 (Nat.mul_le_mul_left _ h1)
theorem Part.next {m : Nat} {o : Od} {kk c N M N0 T p s q I t j k : Nat} {A L W B L' : Tb} (hn : PiNum kk c N M N0 T p s q I) (h : Part m o c N N0 p s t j A L) (hA : Ln m A) (hB : Ln m B) (lw : Ln m W) (hW : sumT W = sumT B) (hw : W.length ≤ c ^ k) (ht : t + k ≤ T) (po : PO m o ((t : Int) + ((1 * k : Nat) : Int)) (N0 * N ^ t * N ^ k) ((prodT L W).length * (2 ^ (p + s * j) * bm c M k)) (prodT L W).length (sumT (prodT L W)) L') : Part m o c N N0 p s (t + k) (j + 1) (prodT A B) L' := by
  have hz := h.mul_len hw
  refine ⟨?_, fun x hx => ?_, Nat.le_trans po.len hz⟩
  · have := po.can
    rwa [conv_left h.mb.ln hA lw (can_eq h.can), conv_right hA lw hB hW] at this
  · obtain ⟨h1, h2⟩ := po.ok x hx
    refine ⟨h1.mono (by omega), ?_⟩
    rw [Nat.pow_add, ← Nat.mul_assoc]
    exact h2.mono (part_fit hn ht hz)
/-- what may be put in -/
structure RowsOk (m c N M : Nat) (rows : List Tb) : Prop where
  ok : ∀ r ∈ rows, Mb m 1 N M r ∧ r.length ≤ c
theorem RowsOk.ln {m c N M : Nat} {rows : List Tb} (h : RowsOk m c N M rows) {pe : List Int} : ∀ x ∈ rows.zip pe, Ln m x.1 := fun x hx => by
  obtain ⟨a, b⟩ := x
  exact ((h.ok a (List.of_mem_zip hx).1).1).ln
/-- a sum of parts -/
structure Sums (m : Nat) (o : Od) (c N N0 T q : Nat) (i : Nat) (A : Tb) (L : Tb) : Prop where
  can : Can (pkey o) (sumT A) L
  mb : Mb m T (N0 * N ^ T) (2 ^ (q + 10 * i)) L
  len : L.length ≤ c ^ T * i
theorem Sums.nil {m : Nat} {o : Od} {c N N0 T q : Nat} : Sums m o c N N0 T q 0 [] [] := ⟨Can.self List.Pairwise.nil (by simp), Mb.nil, by simp⟩
theorem part_sc {m : Nat} {o : Od} {kk c N M N0 T p s q I t j : Nat} {A L : Tb} (hn : PiNum kk c N M N0 T p s q I) (h : Part m o c N N0 p s t j A L) (ht : t ≤ T) (hj : j ≤ kk) : Mb m T (N0 * N ^ T) (2 ^ q) L := fun x hx => by
  obtain ⟨h1, h2⟩ := h.mb x hx
  have h3 := h2.scale (k := N ^ (T - t)) (Nat.pow_pos hn.n0)
  rw [Nat.mul_assoc, ← Nat.pow_add, show t + (T - t) = T by omega] at h3
  refine ⟨h1.mono (by omega), h3.mono ?_⟩
  have h4 : N ^ (T - t) ≤ 2 ^ 20 := Nat.le_trans (Nat.pow_le_pow_right hn.n0 (by omega)) hn.ss.1
  have h5 : s * j ≤ s * kk := Nat.mul_le_mul_left _ hj
  have h6 := hn.ss.2.1
  exact Nat.le_trans (pow2_le (Nat.le_refl _) h4) (Nat.pow_le_pow_right (by decide) (by omega))
theorem zip_snd : ∀ {rows : List Tb} {pe : List Int}, rows.length = pe.length → (rows.zip pe).map (·.2) = pe
  | [], [], _ => rfl
  | r :: rows, p :: pe, h => by
    rw [List.zip_cons_cons, List.map_cons, zip_snd (by simpa using h)]
  | [], _ :: _, h => by simp at h
  | _ :: _, [], h => by simp at h
theorem pre_sum {rows : List Tb} {pe : List Int} {T : Int} {z zs : List (Tb × Int)} {x : Tb × Int} (hz : rows.zip pe = z ++ x :: zs) (hl : rows.length = pe.length) (hr : Rg 0 T pe) (hs : pe.sum ≤ T) : 0 ≤ (z.map (·.2)).sum ∧ 0 ≤ x.2 ∧ (z.map (·.2)).sum + x.2 ≤ T := by
  have e := zip_snd hl
  rw [hz, List.map_append, List.map_cons] at e
  have h1 : 0 ≤ (z.map (·.2)).sum := sum_nn fun y hy => (hr y (by rw [← e]; exact List.mem_append_left _ hy)).1
  have h2 : 0 ≤ x.2 := (hr x.2 (by rw [← e]; simp)).1
  have h3 : 0 ≤ (zs.map (·.2)).sum := sum_nn fun y hy => (hr y (by rw [← e]; exact List.mem_append_right _ (List.mem_cons_of_mem _ hy))).1
  rw [← e, List.sum_append, List.sum_cons] at hs
  exact ⟨h1, h2, by omega⟩
theorem put_in_wq {n m k : Nat} {o : Od} {rows : List Tb} {f : Tb} {kk c N M N0 M0 T p s q I : Nat} {S : Store} {Q : D → Store → Prop} (hn : PiNum kk c N M N0 T p s q I) (ho : o.ok m) (hm : 0 < m) (hm' : m ≤ 10) (hk : k ≤ kk) (mf : Mb k T N0 M0 f) (hM0 : M0 ≤ 2 ^ p) (hN0 : N0 < 2 ^ 3900) (hf : f.length ≤ I) (hr : RowsOk m c N M rows) (hl : rows.length = k)
    (h : ∀ L S', Sums m o c N N0 T q f.length (withT m rows f) L → Fr [] S S' → Q (polyD L) S') : wq (call gl fds (n + 8) f_put_in [.tup [.int m, o.d], polyD f, .tup (rows.map polyD)]) Q S := by
  rw [wq_call (fd := d_put_in) rfl rfl]
  dsimp only [d_put_in]
  unfold b_put_in
  conv in polyD f => unfold polyD
  walk_at "dl"
  walk_at "cd"
  walk_at "nx"
  have hbg := hn.bg
  have hT := hn.t1
  refine forL_gen (e := memD) (fun d _ e S' => Fr [] S S' ∧ ∃ L o4 o5 o6 o7 o8, Sums m o c N N0 T q d.length (withT m rows d) L ∧ e = [some (.tup [.int m, o.d]), some (.tup (f.map memD)), some (.tup (rows.map polyD)), some (polyD L), o4, o5, o6, o7, o8]) (fun _ _ _ _ _ => Gd_none) ?_ ?_ ?_
  · exact ⟨.refl, [], _, _, _, _, _, Sums.nil, rfl⟩
  · rintro e S2 ⟨f2, L, o4, o5, o6, o7, o8, sL, rfl⟩
    walk_at "nx"
    exact h L S2 sL f2
  · rintro d x rest e S2 hx ⟨f2, R, o4, o5, o6, o7, o8, sR, rfl⟩
    have pm : x ∈ f := by rw [hx]; simp
    have hdl : f.length = d.length + (rest.length + 1) := by rw [hx]; simp
    obtain ⟨pe, pq⟩ := x
    obtain ⟨gp, bp⟩ := mf _ pm
    dsimp only at gp bp
    have hrl : rows.length = pe.length := by rw [hl, gp.len]
    dsimp only [memD]
    walk_at "dl"
    walk_at "cd"
    refine constant_poly_wq ho hm hm' bp hN0 (p_lt (show 2 * M0 ≤ 2 ^ (1 + p) from pow2_le (by decide) hM0) (by omega)) fun P0 S3 po0 f3 => ?_
    walk_at "cd"
    walk_at "nx"
    have p0 : Part m o c N N0 p s 0 0 (constT m pq) P0 := Part.const bp hM0 (by have := po0.can; rwa [sum_const] at this)
    have ez : ((rows.map polyD).zip (pe.map D.int)).map (fun q => D.tup [q.1, q.2]) = (rows.zip pe).map fun x => D.tup [polyD x.1, .int x.2] := by
      rw [List.zip_map, List.map_map]
      rfl
    rw [ez]
    have hpel := gp.len
    refine forL_gen (e := fun x : Tb × Int => D.tup [polyD x.1, .int x.2]) (fun z _ e S' => Fr [] S S' ∧ ∃ L t o7 o8, (((t : Nat) : Int) = (z.map (·.2)).sum ∧ t ≤ T) ∧ Part m o c N N0 p s t z.length (partTm m (constT m pq) z) L ∧ e = [some (.tup [.int m, o.d]), some (.tup (f.map memD)), some (.tup (rows.map polyD)), some (polyD R), some (.tup (pe.map .int)), some (frQ pq), some (polyD L), o7, o8]) (fun _ _ _ _ _ => Gd_none) ?_ ?_ ?_
    · exact ⟨f2.trans f3, P0, 0, _, _, ⟨by simp, by omega⟩, p0, rfl⟩
    · rintro e S4 ⟨f4, L, t, o7, o8, ⟨ht, ht3⟩, pL, rfl⟩
      walk_at "nx"
      have hzl : (rows.zip pe).length ≤ kk := by rw [List.length_zip]; omega
      have mL := part_sc hn pL ht3 hzl
      obtain ⟨s1, s2, s3, s4⟩ := hn.ss
      have lL : L.length ≤ c ^ T := Nat.le_trans pL.len (Nat.pow_le_pow_right hn.c1 ht3)
      have lR := sR.len
      have mLb : Mb m T (N0 * N ^ T) (2 ^ (q + 10 * d.length)) L := mL.mono (Int.le_refl _) (Nat.pow_le_pow_right (by decide) (by omega))
      have hcT : c ^ T * (d.length + 1) ≤ c ^ T * (I + 1) := Nat.mul_le_mul_left _ (by omega)
      have hsum : R.length + L.length ≤ c ^ T * (d.length + 1) := by rw [Nat.mul_succ]; omega
      have hlen2 : R.length + L.length + 1 ≤ 2 ^ 10 := Nat.le_trans (show R.length + L.length + 1 ≤ 1000 by omega) (by decide)
      have hlen : R.length + L.length ≤ 2 ^ 10 := Nat.le_trans (Nat.le_succ _) hlen2
      have nT := (hn.pr T (Nat.le_refl _)).2
      refine add_poly_wq ho hm hm' (by omega) sR.mb mLb (by omega) nT (p_lt (pow2_le hlen2 (Nat.le_refl _)) (by omega)) fun L2 S5 po f5 => ?_
      walk_at "cd"
      try walk_at "nx"
      refine ⟨f4.trans f5, L2, _, _, _, _, _, ⟨?_, ?_, ?_⟩, rfl⟩
      · rw [withT_snoc]
        have e1 : sumT (R ++ L) = sumT (withT m rows d ++ partTm m (constT m pq) (rows.zip pe)) := by
          funext e
          rw [sumT_app, sumT_app, can_eq sR.can, can_eq pL.can]
        have := po.can
        rwa [e1] at this
      · refine Mb.mono po.ok (Int.le_refl _) (Nat.le_trans (pow2_le hlen (Nat.le_refl _)) (Nat.pow_le_pow_right (by decide) ?_))
        simp
        omega
      · have := po.len
        rw [List.length_append]
        show L2.length ≤ c ^ T * (d.length + 1)
        omega
    · rintro z x zs e S4 hz ⟨f4, L, t, o7, o8, ⟨ht, ht3⟩, pL, rfl⟩
      have hxm : x ∈ rows.zip pe := by rw [hz]; simp
      obtain ⟨s1, s2, s3⟩ := pre_sum hz hrl gp.rg gp.sm
      have hln := hr.ln x hxm
      have hzn : ∀ y ∈ z, Ln m y.1 := fun y hy => hr.ln y (by rw [hz]; simp [hy])
      have hzl : (rows.zip pe).length = z.length + (zs.length + 1) := by rw [hz]; simp
      rw [List.length_zip] at hzl
      obtain ⟨g, xe⟩ := x
      obtain ⟨mg, lg⟩ := hr.ok g (List.of_mem_zip hxm).1
      dsimp only at s2 s3 hln
      obtain ⟨xe, rfl⟩ := Int.eq_ofNat_of_zero_le s2
      walk_at "dl"
      walk_at "cd"
      refine power_poly_wq hn.pw ho hm hm' mg hn.c0 lg (by omega) (by omega) fun W S5 ok f5 => ?_
      have hml := pL.mul_len ok.len
      have ht4 : t + xe ≤ T := by omega
      have n1 := (hn.pr t (by omega)).2
      obtain ⟨n3, n4, n5⟩ := hn.st xe (by omega)
      have nn : N0 * N ^ t * N ^ xe < 2 ^ 3900 := by
        rw [Nat.mul_assoc, ← Nat.pow_add]
        exact (hn.pr (t + xe) ht4).2
      have hjs : s * z.length ≤ s * kk := Nat.mul_le_mul_left _ (by omega)
      have fit := part_fit (len := (prodT L W).length) (j := z.length) hn ht4 hml
      have c1000 := (hn.pr (t + xe) ht4).1
      have big : ((prodT L W).length + 1) * (2 ^ (p + s * z.length) * bm c M xe) < 2 ^ 3900 := by
        have hcc : 1 * bm c M xe ≤ c ^ (t + xe) * bm c M xe := Nat.mul_le_mul_right _ (Nat.pow_pos hn.c1)
        have h5 := n5 t (by omega)
        have h6 : bm c M xe ≤ 2 ^ s := by omega
        have h7 : 2 ^ (p + s * z.length) * bm c M xe ≤ 2 ^ (p + s * z.length + s) := pow2_le (Nat.le_refl _) h6
        have h8 : (prodT L W).length + 1 ≤ 2 ^ 10 := Nat.le_trans (show (prodT L W).length + 1 ≤ 1001 by omega) (by decide)
        exact Nat.lt_of_le_of_lt (pow2_le h8 h7) (Nat.pow_lt_pow_right (by decide) (by omega))
      refine multiply_poly_wq ho hm hm' (by omega) pL.mb ok.mb n1 n3 (p_lt (Nat.le_refl _) (by omega)) n4 nn big (by omega) fun L2 S6 po f6 => ?_
      walk_at "cd"
      try walk_at "nx"
      refine ⟨f4.trans (f5.trans f6), L2, t + xe, _, _, ⟨by rw [List.map_append, List.sum_append]; simp; omega, by omega⟩, ?_, rfl⟩
      rw [partTm_snoc, List.length_append]
      exact pL.next hn (Ln.part Ln.const hzn) (hln.pow _) ok.mb.ln (can_eq ok.can) ok.len ht4 po
theorem pi_rows : PiNum 3 2 6 36 6 3 7 25 102 3 := ⟨by decide +kernel, by decide +kernel, by decide +kernel, by decide, by decide +kernel, by decide, by decide, by decide, by decide⟩
theorem pi_units : PiNum 3 1 1 1 36 5 40 1 70 12 := ⟨by decide +kernel, by decide +kernel, by decide +kernel, by decide, by decide +kernel, by decide, by decide, by decide, by decide⟩
theorem pw_f : PwNum 3 3 6 54 3 := by decide +kernel
end K05
end

section
set_option Elab.async false
set_option linter.all false
set_option maxRecDepth 100000
set_option maxHeartbeats 1000000
set_option exponentiation.threshold 20000
namespace K05
open PySem PySem.Spec L2 Dl
local macro_rules | `(tactic| walk_at "dl") => `(tactic| simp (disch := first | assumption | exact get_new | (refine get_app ?_; first | assumption | exact get_new | (refine get_app ?_; first | assumption | exact get_new)) | (refine get_set ?_; assumption) | exact atI_0 | exact atI_1 | exact atI_2 | exact ok_lex | exact ok_degree | exact ok_back | exact ok_blocks | exact ok_weights) only [
  e_cB, e_fB, e_dnew, e_dget, e_din, vt_din, e_dget2, e_dpop, e_sortp, x_dput, w_isT, w_din, w_dget2, w_dget, w_dput, w_dpop, w_fr0, w_fr1, e_var, e_int, e_bl, e_non, e_str, e_glo, e_tup, e_lst, e_op, e_neg, e_not, e_and, e_or, e_cmp, e_chain, e_ite, e_ix, e_sl, e_rev, e_call, e_bi, e_me, e_isi, e_isis, e_comp, e_tupr, e_lstr, e_nil, e_cons, e_ono, e_oso, e_cno, e_cso, vt_and, vt_or, vt_not, vt_cmp, vt_chain, vt_var, vt_bl, vt_call, vt_bi, vt_isi, vt_isis, vi_seq, vi_rng1, vi_rng2, vi_zip, vg_nm, vg_tp, vg_ixs, gs_nil, gs_cons, x_asg, x_par, x_aug, x_expr, x_ret, x_retN, x_ite, x_for, x_whl, x_pass, x_brk, x_cnt, xs_nil, k_one, k_cons, k_rt, k_bk, k_ct, r_nx, r_rt, w_neg, w_tupr, w_lstr,
  TGs.len, wq_pure, List.getElem?_cons_zero, List.getElem?_cons_succ, List.set_cons_zero, List.set_cons_succ, List.length_cons, List.length_nil, List.length_map, if_true, Bool.false_eq_true, if_false, startE, List.map_cons, List.map_nil, List.replicate, List.cons_append, List.nil_append, wipeE, Nat.zero_add, Nat.reduceAdd, Nat.reduceSub, true_and,
  w_getL_ref, w_getS_ref, w_getL_ro, w_getS_ro, w_getS_tup, w_add, w_sub, w_mul, w_addT, w_addL, w_mulL, w_fdiv, w_mod, w_pow, w_shl, w_lt, w_le, w_gt, w_ge, w_ltT, w_gtT, w_eq, w_ne, w_isN, w_isnN, w_in, w_nin, w_trB, w_trN, w_trI, w_trT, w_trL, w_lenT, w_lenR, w_lenL, w_sumT, w_sumL, w_int, w_intB, w_tupL, w_listL, w_listT, w_append, w_pop, w_reverse, w_isL, w_revT, w_asInt, w_slR, w_srcT, w_srcR, w_srcL, w_rng, w_zipT, w_unpkT, w_unpkL, w_eqB, w_eqT, w_eqI, w_ixT, w_eqS, w_eqTS, Bool.not_true, Bool.not_false, decide_true, decide_false, wd_lex_lex, wd_lex_degree, wd_lex_back, wd_lex_blocks, wd_lex_weights, wd_degree_lex, wd_degree_degree, wd_degree_back, wd_degree_blocks, wd_degree_weights, wd_back_lex, wd_back_degree, wd_back_back, wd_back_blocks, wd_back_weights, wd_blocks_lex, wd_blocks_degree, wd_blocks_back, wd_blocks_blocks, wd_blocks_weights, wd_weights_lex, wd_weights_degree, wd_weights_back, wd_weights_blocks, wd_weights_weights])
local macro_rules | `(tactic| walk_at "nx") => `(tactic| (rw [k_nx]; try walk_at "dl"))
local macro_rules | `(tactic| walk_at "cj") => `(tactic| repeat refine And.intro (by first | decide | exact lens_of (by decide) | exact lens_of (by simp) | simp) ?_)
local macro_rules | `(tactic| walk_at "cd") => `(tactic| repeat refine And.intro (by decide) ?_)
theorem Bd.ofInt {a b : Int} (hb : 0 < b) : Bd b.natAbs a.natAbs ((a : Rat) / (b : Rat)) := by
  refine ⟨by omega, a, ?_, Nat.le_refl _⟩
  obtain ⟨n, rfl⟩ := Int.eq_ofNat_of_zero_le (Int.le_of_lt hb)
  have h2 : ((n : Nat) : Rat) ≠ 0 := by
    have : n ≠ 0 := by omega
    exact_mod_cast this
  rw [Int.natAbs_natCast]
  have e : (((n : Nat) : Int) : Rat) = ((n : Nat) : Rat) := by exact_mod_cast rfl
  rw [e]
  grind
theorem b_one : Bd 1 1 (1 : Rat) := ⟨by decide, 1, by decide +kernel, by decide⟩
theorem b_mone : Bd 1 1 (-1 : Rat) := ⟨by decide, -1, by decide +kernel, by decide⟩
theorem cst1 : ((1 : Int) : Rat) / ((1 : Int) : Rat) = 1 := by decide +kernel
theorem cstm1 : ((-1 : Int) : Rat) / ((1 : Int) : Rat) = -1 := by decide +kernel
theorem law_fraction_wq {n l : Nat} {S : Store} {Q : D → Store → Prop} (hd : Dw l S)
    (h : ∀ (q : Rat) (S' : Store), Bd 6 18 q → q ≠ 0 → Dr l S S' → Q (frQ q) S') : wq (call gl fds (n + 3) f__law_fraction [.ref l]) Q S := by
  rw [wq_call (fd := d__law_fraction) rfl rfl]
  dsimp only [d__law_fraction]
  unfold b__law_fraction
  walk_at "dl"
  repeat refine And.intro (by decide) ?_
  refine pick_wq (hd.new _) get_new (by have := hd.lt; omega) (by decide) fun d S2 hm2 d2 => ?_
  have d02 := (hd.refl.new _).trans d2
  have key : ∃ q : Rat, d = frQ q ∧ q ≠ 0 ∧ Bd 6 18 q := by
    simp only [List.mem_cons, List.not_mem_nil, or_false] at hm2
    rcases hm2 with rfl | rfl | rfl | rfl | rfl | rfl | rfl | rfl
    · exact ⟨⟨1, 1, by decide, by decide⟩, rfl, by decide +kernel, by decide, 6, by decide +kernel, by decide⟩
    · exact ⟨⟨-1, 1, by decide, by decide⟩, rfl, by decide +kernel, by decide, -6, by decide +kernel, by decide⟩
    · exact ⟨⟨2, 1, by decide, by decide⟩, rfl, by decide +kernel, by decide, 12, by decide +kernel, by decide⟩
    · exact ⟨⟨-3, 1, by decide, by decide⟩, rfl, by decide +kernel, by decide, -18, by decide +kernel, by decide⟩
    · exact ⟨⟨1, 2, by decide, by decide⟩, rfl, by decide +kernel, by decide, 3, by decide +kernel, by decide⟩
    · exact ⟨⟨-2, 3, by decide, by decide⟩, rfl, by decide +kernel, by decide, -4, by decide +kernel, by decide⟩
    · exact ⟨⟨1, 1, by decide, by decide⟩, rfl, by decide +kernel, by decide, 6, by decide +kernel, by decide⟩
    · exact ⟨⟨-1, 1, by decide, by decide⟩, rfl, by decide +kernel, by decide, -6, by decide +kernel, by decide⟩
  obtain ⟨q, rfl, hq0, hq⟩ := key
  try walk_at "dl"
  exact h q S2 hq hq0 d02
theorem TI.self {m : Nat} {b : Int} {N M : Nat} {T : Tb} (nd : (T.map (·.1)).Nodup) (mt : Mb m b N M T) : TI m b N M T T := ⟨nd, fun p hp => by
  obtain ⟨h1, h2⟩ := mt p hp
  have : 0 < T.length := List.length_pos_of_mem hp
  exact ⟨h1, h2.mono (Nat.le_mul_of_pos_left M this)⟩, Nat.le_refl _, fun e => (sumT_val nd e).symm⟩
theorem put_nz {T : Tb} (nd : (T.map (·.1)).Nodup) (e : List Int) {q : Rat} (hq : q ≠ 0) : ∃ p ∈ putQ T e q, p.2 ≠ 0 := by
  have hk : e ∈ (putQ T e q).map (·.1) := by
    rw [keys_put]
    split
    · rename_i h; exact has_mem.mp h
    · simp
  obtain ⟨y, hy, rfl⟩ := List.mem_map.mp hk
  refine ⟨y, hy, ?_⟩
  have h1 := val_mem (nodup_put nd y.1 q) hy
  rw [val_put, if_pos rfl] at h1
  rw [← h1]
  exact hq
theorem law_drawn_wq {n l m k : Nat} {dg : Int} {o : Od} {S : Store} {Q : D → Store → Prop} (hd : Dw l S) (ho : o.ok m) (hm : 0 < m) (hm' : m ≤ 10) (hg0 : 0 ≤ dg) (hg : dg ≤ 100) (hk : k ≤ 100)
    (h : ∀ F L S', PO m o dg 6 (k * 18) k F L → (0 < k → L ≠ []) → Dr l S S' → Q (polyD L) S') : wq (call gl fds (n + 4) f__law_drawn [.ref l, .tup [.int m, o.d], .int dg, .int k]) Q S := by
  rw [wq_call (fd := d__law_drawn) rfl rfl]
  dsimp only [d__law_drawn]
  unfold b__law_drawn
  walk_at "dl"
  have g0 := get_new (S := S) (o := .dt false (tabD []))
  have d0 := hd.refl.new (.dt false (tabD []))
  have hlt := hd.lt
  generalize hr0 : S.length = r at *
  have hrl : S.length ≤ r := Nat.le_of_eq hr0
  have e0 : (S ++ [Ob.dt false []]) = S ++ [.dt false (tabD [])] := rfl
  rw [e0]
  generalize (S ++ [Ob.dt false (tabD [])]) = S1 at *
  clear e0
  refine ⟨by decide, ?_⟩
  walk_at "nx"
  refine ⟨small_rng (by omega), ?_⟩
  rw [rngItems_nat]
  refine forL_inv1 (e := fun (k : Nat) => D.int (k : Int)) (fun i e S' => Dr l S S' ∧ (∃ T : Tb, S'[r]? = some (.dt false (tabD T)) ∧ (T.map (·.1)).Nodup ∧ Mb m dg 6 18 T ∧ T.length ≤ i ∧ (0 < i → ∃ p ∈ T, p.2 ≠ 0)) ∧ ∃ o5, e = [some (.ref l), some (.tup [.int m, o.d]), some (.int dg), some (.int k), some (.ref r), o5]) (fun _ _ _ _ => Gd_none) ?_ ?_ ?_
  · exact ⟨d0, ⟨[], g0, List.nodup_nil, fun p hp => (by cases hp), Nat.le_refl _, fun z => absurd z (by decide)⟩, _, rfl⟩
  · rintro e S2 ⟨d2, ⟨T, t1, t2, t3, t4, t5⟩, o5, rfl⟩
    walk_at "nx"
    rw [List.length_range] at t4
    refine law_poly_wq ho hm hm' (by omega) t1 (TI.self t2 t3) (by omega) fun L S' po fr => ?_
    refine h _ L S' (po.mono (Int.le_refl _) (Nat.mul_le_mul_right _ t4) (by omega)) (fun hk0 hL => ?_) (d2.trans (d2.d.fr fr))
    rw [List.length_range] at t5
    obtain ⟨y, hy, hy0⟩ := t5 hk0
    have := po.can.all y.1 (by rw [sumT_val t2, val_mem t2 hy]; exact hy0)
    rw [hL] at this
    cases this
  · rintro i x e S2 hx ⟨d2, ⟨T, t1, t2, t3, t4, t5⟩, o5, rfl⟩
    have hi : i < k := by
      have := (List.getElem?_eq_some_iff.mp hx).1
      simpa using this
    walk_at "dl"
    refine ⟨by decide, ?_⟩
    refine law_fraction_wq d2.d fun q S3 bq bq0 d3 => ?_
    try walk_at "dl"
    refine power_wq d3.d hm (by omega) hg0 (by omega) fun p S4 p1 p2 p3 d4 => ?_
    have t1' := d4.get (d3.get t1 (by omega)) (by omega)
    have gp : GE m dg p := ⟨p1, p2, p3⟩
    have hne := gp.ne hm
    have hz : (tabD T).length < sizeLine := by
      rw [tab_len]
      exact Nat.lt_of_le_of_lt (show T.length ≤ 100 by omega) (by decide)
    rw [w_dput t1' hne hz, putT_tab]
    refine ⟨((d2.trans d3).trans d4).set _ hrl (by omega), ⟨putQ T p q, get_set t1', nodup_put t2 p q, fun y hy => ?_, ?_, fun _ => put_nz t2 p bq0⟩, _, rfl⟩
    · rcases mem_put hy with hy | rfl
      · exact t3 y hy
      · exact ⟨gp, bq⟩
    · have := len_put T p q
      omega
end K05
end

section
set_option Elab.async false
set_option linter.all false
set_option maxRecDepth 100000
set_option maxHeartbeats 1000000
set_option exponentiation.threshold 20000
namespace K05
open PySem PySem.Spec L2 Dl
local macro_rules | `(tactic| walk_at "dl") => `(tactic| simp (disch := first | assumption | exact get_new | (refine get_app ?_; first | assumption | exact get_new | (refine get_app ?_; first | assumption | exact get_new)) | (refine get_set ?_; assumption) | exact atI_0 | exact atI_1 | exact atI_2 | exact ok_lex | exact ok_degree | exact ok_back | exact ok_blocks | exact ok_weights) only [
  e_cB, e_fB, e_dnew, e_dget, e_din, vt_din, e_dget2, e_dpop, e_sortp, x_dput, w_isT, w_din, w_dget2, w_dget, w_dput, w_dpop, w_fr0, w_fr1, e_var, e_int, e_bl, e_non, e_str, e_glo, e_tup, e_lst, e_op, e_neg, e_not, e_and, e_or, e_cmp, e_chain, e_ite, e_ix, e_sl, e_rev, e_call, e_bi, e_me, e_isi, e_isis, e_comp, e_tupr, e_lstr, e_nil, e_cons, e_ono, e_oso, e_cno, e_cso, vt_and, vt_or, vt_not, vt_cmp, vt_chain, vt_var, vt_bl, vt_call, vt_bi, vt_isi, vt_isis, vi_seq, vi_rng1, vi_rng2, vi_zip, vg_nm, vg_tp, vg_ixs, gs_nil, gs_cons, x_asg, x_par, x_aug, x_expr, x_ret, x_retN, x_ite, x_for, x_whl, x_pass, x_brk, x_cnt, xs_nil, k_one, k_cons, k_rt, k_bk, k_ct, r_nx, r_rt, w_neg, w_tupr, w_lstr,
  TGs.len, wq_pure, List.getElem?_cons_zero, List.getElem?_cons_succ, List.set_cons_zero, List.set_cons_succ, List.length_cons, List.length_nil, List.length_map, if_true, Bool.false_eq_true, if_false, startE, List.map_cons, List.map_nil, List.replicate, List.cons_append, List.nil_append, wipeE, Nat.zero_add, Nat.reduceAdd, Nat.reduceSub, true_and,
  w_getL_ref, w_getS_ref, w_getL_ro, w_getS_ro, w_getS_tup, w_add, w_sub, w_mul, w_addT, w_addL, w_mulL, w_fdiv, w_mod, w_pow, w_shl, w_lt, w_le, w_gt, w_ge, w_ltT, w_gtT, w_eq, w_ne, w_isN, w_isnN, w_in, w_nin, w_trB, w_trN, w_trI, w_trT, w_trL, w_lenT, w_lenR, w_lenL, w_sumT, w_sumL, w_int, w_intB, w_tupL, w_listL, w_listT, w_append, w_pop, w_reverse, w_isL, w_revT, w_asInt, w_slR, w_srcT, w_srcR, w_srcL, w_rng, w_zipT, w_unpkT, w_unpkL, w_eqB, w_eqT, w_eqI, w_ixT, w_eqS, w_eqTS, Bool.not_true, Bool.not_false, decide_true, decide_false, wd_lex_lex, wd_lex_degree, wd_lex_back, wd_lex_blocks, wd_lex_weights, wd_degree_lex, wd_degree_degree, wd_degree_back, wd_degree_blocks, wd_degree_weights, wd_back_lex, wd_back_degree, wd_back_back, wd_back_blocks, wd_back_weights, wd_blocks_lex, wd_blocks_degree, wd_blocks_back, wd_blocks_blocks, wd_blocks_weights, wd_weights_lex, wd_weights_degree, wd_weights_back, wd_weights_blocks, wd_weights_weights])
local macro_rules | `(tactic| walk_at "nx") => `(tactic| (rw [k_nx]; try walk_at "dl"))
local macro_rules | `(tactic| walk_at "cj") => `(tactic| repeat refine And.intro (by first | decide | exact lens_of (by decide) | exact lens_of (by simp) | simp) ?_)
local macro_rules | `(tactic| walk_at "cd") => `(tactic| repeat refine And.intro (by decide) ?_)
theorem sameI_wq {n : Nat} {a b : Int} {S : Store} {Q : D → Store → Prop} (h : Q (.bl (decide (a = b))) S) : wq (call gl fds (n + 1) f__law_same [.int a, .int b]) Q S := by
  rw [wq_call (fd := d__law_same) rfl rfl]
  dsimp only [d__law_same]
  unfold b__law_same
  walk_at "dl"
  rw [w_isi (b := false) rfl]
  walk_at "dl"
  walk_at "nx"
  rw [w_isi (b := false) rfl, w_isi (b := false) rfl]
  walk_at "dl"
  rw [w_isi (b := true) rfl, w_isi (b := true) rfl]
  walk_at "dl"
  rw [if_neg (by decide), if_neg (by decide)]
  walk_at "nx"
  rw [w_isi (b := false) rfl, w_isi (b := false) rfl]
  walk_at "dl"
  rw [if_neg (by decide)]
  simp only [show decide (D.int a = D.non) = false from rfl, show decide (D.int b = D.non) = false from rfl]
  rw [if_neg (by decide)]
  walk_at "nx"
  exact h
theorem inF_bls : ∀ bs : List Bool, inF (.bl false) (bs.map .bl) = !bs.all id
  | [] => rfl
  | b :: bs => by
    have := inF_bls bs
    unfold inF at *
    rw [List.map_cons, List.any_cons, this]
    cases b <;> rfl
theorem flat_bls : ∀ bs : List Bool, (bs.map D.bl).all flat = true
  | [] => rfl
  | b :: bs => by
    rw [List.map_cons, List.all_cons, flat_bls bs]
    rfl
def Sm : Nat → D → Prop
  | 0, d => ∃ i, d = .int i
  | k + 1, d => ∃ ds, d = .tup ds ∧ ds.length ≤ 1000 ∧ ∀ x ∈ ds, Sm k x
theorem rep_true : ∀ k : Nat, inF (.bl false) ((List.range k).map fun _ => D.bl true) = false ∧ ((List.range k).map fun _ => D.bl true).all flat = true := fun k => by
  have e : ((List.range k).map fun _ => D.bl true) = ((List.range k).map fun _ => true).map .bl := by rw [List.map_map]; rfl
  rw [e]
  refine ⟨?_, flat_bls _⟩
  rw [inF_bls]
  simp
theorem same_wq : ∀ (k : Nat) {d : D} {n : Nat} {S : Store} {Q : D → Store → Prop}, Sm k d → (∀ S', Fr [] S S' → Q (.bl true) S') → wq (call gl fds (n + 1 + k) f__law_same [d, d]) Q S
  | 0, d, n, S, Q, h, hq => by
    obtain ⟨i, rfl⟩ := h
    refine sameI_wq ?_
    rw [decide_eq_true rfl]
    exact hq S .refl
  | k + 1, d, n, S, Q, h, hq => by
    obtain ⟨ds, rfl, hl, hs⟩ := h
    show wq (call gl fds ((n + 1 + k) + 1) f__law_same [.tup ds, .tup ds]) Q S
    rw [wq_call (fd := d__law_same) rfl rfl]
    dsimp only [d__law_same]
    unfold b__law_same
    walk_at "dl"
    rw [w_isi (b := true) rfl]
    walk_at "dl"
    rw [w_isi (b := true) rfl, w_isi (b := true) rfl]
    walk_at "dl"
    rw [w_isi (b := false) rfl, w_isi (b := false) rfl]
    walk_at "dl"
    rw [if_neg (by decide), if_neg (by decide)]
    walk_at "nx"
    walk_at "nx"
    refine ⟨small_rng (by omega), ?_⟩
    rw [rngItems_nat]
    refine compL_tot (e := fun (k : Nat) => D.int (k : Int)) (fun k => D.bl true) (by simpa using hl) (fun _ _ => Gd_none) (fun j hj S' a => ?_) fun S' a => ?_
    · have hj := List.mem_range.mp hj
      walk_at "dl"
      refine ⟨by decide, ?_⟩
      have e : atI ds (j : Int) = some ds[j] := atI_of (by omega) (by rw [Int.toNat_natCast]; exact List.getElem?_eq_getElem hj)
      rw [w_ixT e, w_ixT e]
      exact same_wq k (hs _ (List.getElem_mem hj)) fun S2 f2 => ⟨rfl, f2⟩
    · try walk_at "dl"
      obtain ⟨e1, e2⟩ := rep_true ds.length
      rw [e1, e2]
      exact ⟨rfl, hq _ (a.new _)⟩
theorem sameL_wq {k r1 r2 : Nat} {ds : List D} {n : Nat} {S : Store} {Q : D → Store → Prop} (h1 : S[r1]? = some (.lst ds)) (h2 : S[r2]? = some (.lst ds)) (hl : ds.length ≤ 1000) (hs : ∀ x ∈ ds, Sm k x) (hq : ∀ S', Fr [] S S' → Q (.bl true) S') : wq (call gl fds (n + 2 + k) f__law_same [.ref r1, .ref r2]) Q S := by
  rw [show n + 2 + k = (n + 1 + k) + 1 by omega]
  rw [wq_call (fd := d__law_same) rfl rfl]
  dsimp only [d__law_same]
  unfold b__law_same
  have t1 : ∀ t, isTy S (.ref r1) t = some (t == .list) := fun t => by unfold isTy; dsimp only; rw [h1]
  have t2 : ∀ t, isTy S (.ref r2) t = some (t == .list) := fun t => by unfold isTy; dsimp only; rw [h2]
  walk_at "dl"
  rw [w_isi (b := true) (by unfold anyTy; rw [t2]; unfold anyTy; rw [t2]; rfl)]
  walk_at "dl"
  rw [w_isi (b := false) (by unfold anyTy; rw [t1]; rfl), w_isi (b := false) (by unfold anyTy; rw [t2]; rfl)]
  walk_at "dl"
  rw [w_isi (b := true) (by unfold anyTy; rw [t1]; rfl), w_isi (b := true) (by unfold anyTy; rw [t2]; rfl)]
  walk_at "dl"
  rw [if_neg (by decide), if_neg (by decide)]
  walk_at "nx"
  walk_at "nx"
  refine ⟨small_rng (by omega), ?_⟩
  rw [rngItems_nat]
  refine compL_tot (e := fun (k : Nat) => D.int (k : Int)) (fun k => D.bl true) (by simpa using hl) (fun _ _ => Gd_none) (fun j hj S' a => ?_) fun S' a => ?_
  · have hj := List.mem_range.mp hj
    walk_at "dl"
    refine ⟨by decide, ?_⟩
    have e : atI ds (j : Int) = some ds[j] := atI_of (by omega) (by rw [Int.toNat_natCast]; exact List.getElem?_eq_getElem hj)
    rw [w_ixL (a.get _ _ (by simp) h1) e, w_ixL (a.get _ _ (by simp) h2) e]
    exact same_wq k (hs _ (List.getElem_mem hj)) fun S2 f2 => ⟨rfl, f2⟩
  · try walk_at "dl"
    obtain ⟨e1, e2⟩ := rep_true ds.length
    rw [e1, e2]
    exact ⟨rfl, hq _ (a.new _)⟩
theorem Sm.ints {e : List Int} (h : e.length ≤ 1000) : Sm 1 (.tup (e.map .int)) := ⟨_, rfl, by simpa using h, fun x hx => by
  obtain ⟨i, _, rfl⟩ := List.mem_map.mp hx
  exact ⟨i, rfl⟩⟩
theorem Sm.poly {m : Nat} {b : Int} {N M : Nat} {f : Tb} (mf : Mb m b N M f) (hm : m ≤ 10) (hf : f.length ≤ 1000) : Sm 3 (polyD f) := by
  refine ⟨_, rfl, by simpa using hf, fun x hx => ?_⟩
  obtain ⟨p, hp, rfl⟩ := List.mem_map.mp hx
  have h1 := (mf p hp).1.len
  refine ⟨_, rfl, by simp, fun y hy => ?_⟩
  simp only [List.mem_cons, List.not_mem_nil, or_false] at hy
  rcases hy with rfl | rfl
  · exact Sm.ints (by omega)
  · exact Sm.ints (e := [p.2.num, p.2.den]) (by simp)
end K05
end

section
set_option Elab.async false
set_option linter.all false
set_option maxRecDepth 100000
set_option maxHeartbeats 1000000
set_option exponentiation.threshold 20000
namespace K05
open PySem PySem.Spec L2 Dl
local macro_rules | `(tactic| walk_at "dl") => `(tactic| simp (disch := first | assumption | exact get_new | (refine get_app ?_; first | assumption | exact get_new | (refine get_app ?_; first | assumption | exact get_new)) | (refine get_set ?_; assumption) | exact atI_0 | exact atI_1 | exact atI_2 | exact ok_lex | exact ok_degree | exact ok_back | exact ok_blocks | exact ok_weights) only [
  e_cB, e_fB, e_dnew, e_dget, e_din, vt_din, e_dget2, e_dpop, e_sortp, x_dput, w_isT, w_din, w_dget2, w_dget, w_dput, w_dpop, w_fr0, w_fr1, e_var, e_int, e_bl, e_non, e_str, e_glo, e_tup, e_lst, e_op, e_neg, e_not, e_and, e_or, e_cmp, e_chain, e_ite, e_ix, e_sl, e_rev, e_call, e_bi, e_me, e_isi, e_isis, e_comp, e_tupr, e_lstr, e_nil, e_cons, e_ono, e_oso, e_cno, e_cso, vt_and, vt_or, vt_not, vt_cmp, vt_chain, vt_var, vt_bl, vt_call, vt_bi, vt_isi, vt_isis, vi_seq, vi_rng1, vi_rng2, vi_zip, vg_nm, vg_tp, vg_ixs, gs_nil, gs_cons, x_asg, x_par, x_aug, x_expr, x_ret, x_retN, x_ite, x_for, x_whl, x_pass, x_brk, x_cnt, xs_nil, k_one, k_cons, k_rt, k_bk, k_ct, r_nx, r_rt, w_neg, w_tupr, w_lstr,
  TGs.len, wq_pure, List.getElem?_cons_zero, List.getElem?_cons_succ, List.set_cons_zero, List.set_cons_succ, List.length_cons, List.length_nil, List.length_map, if_true, Bool.false_eq_true, if_false, startE, List.map_cons, List.map_nil, List.replicate, List.cons_append, List.nil_append, wipeE, Nat.zero_add, Nat.reduceAdd, Nat.reduceSub, true_and,
  w_getL_ref, w_getS_ref, w_getL_ro, w_getS_ro, w_getS_tup, w_add, w_sub, w_mul, w_addT, w_addL, w_mulL, w_fdiv, w_mod, w_pow, w_shl, w_lt, w_le, w_gt, w_ge, w_ltT, w_gtT, w_eq, w_ne, w_isN, w_isnN, w_in, w_nin, w_trB, w_trN, w_trI, w_trT, w_trL, w_lenT, w_lenR, w_lenL, w_sumT, w_sumL, w_int, w_intB, w_tupL, w_listL, w_listT, w_append, w_pop, w_reverse, w_isL, w_revT, w_asInt, w_slR, w_srcT, w_srcR, w_srcL, w_rng, w_zipT, w_unpkT, w_unpkL, w_eqB, w_eqT, w_eqI, w_ixT, w_eqS, w_eqTS, Bool.not_true, Bool.not_false, decide_true, decide_false, wd_lex_lex, wd_lex_degree, wd_lex_back, wd_lex_blocks, wd_lex_weights, wd_degree_lex, wd_degree_degree, wd_degree_back, wd_degree_blocks, wd_degree_weights, wd_back_lex, wd_back_degree, wd_back_back, wd_back_blocks, wd_back_weights, wd_blocks_lex, wd_blocks_degree, wd_blocks_back, wd_blocks_blocks, wd_blocks_weights, wd_weights_lex, wd_weights_degree, wd_weights_back, wd_weights_blocks, wd_weights_weights])
local macro_rules | `(tactic| walk_at "nx") => `(tactic| (rw [k_nx]; try walk_at "dl"))
local macro_rules | `(tactic| walk_at "cj") => `(tactic| repeat refine And.intro (by first | decide | exact lens_of (by decide) | exact lens_of (by simp) | simp) ?_)
local macro_rules | `(tactic| walk_at "cd") => `(tactic| repeat refine And.intro (by decide) ?_)
def dB (gl : Nat → D) (cf : Nat → List D → M D) (t : Dl.TG) (k v : IE) (env : Sl) : D → M (D × D) := fun d => do
  let env1 ← asg gl cf t d env
  let y ← ev gl cf k env1
  let z ← ev gl cf v env1
  pure (y, z)
theorem e_dmk {gl : Nat → D} {cf : Nat → List D → M D} {t : Dl.TG} {own : List Nat} {it : II} {k v : IE} {env : Sl} {Q : D → Store → Prop} {S : Store} : wq (ev gl cf (.dmk t own it k v) env) Q S = wq (evi gl cf it env) (fun s S' => wq (dcL s (dB gl cf t k v (wipeE env own)) s.items []) (fun r S'' => Q (.ref S''.length) (S'' ++ [.dt false r])) S') S := by
  simp only [ev, wq_bind, wq_newO]
  rfl
theorem putQ_new {T : Tb} {e : List Int} {q : Rat} (h : e ∉ T.map (·.1)) : putQ T e q = T ++ [(e, q)] := by
  unfold putQ
  rw [if_neg (fun z => h (has_mem.mp z))]
/-- a dict of a row -/
theorem dcL_tab {s : Src} {f : D → M (D × D)} {S : Store} {Q : List (List Key × D) → Store → Prop} (hg : ∀ S', Fr [] S S' → s.Gd S') : ∀ (L : Tb) (T : Tb) (S1 : Store), Fr [] S S1 → ((T ++ L).map (·.1)).Nodup → (∀ p ∈ L, p.1 ≠ []) → T.length + L.length ≤ 1000 →
    (∀ p, p ∈ L → ∀ S', Fr [] S S' → wq (f (memD p)) (fun r S'' => r = (.tup (p.1.map .int), frQ p.2) ∧ Fr [] S' S'') S') → (∀ S', Fr [] S S' → Q (tabD (T ++ L)) S') → wq (dcL s f (L.map memD) (tabD T)) Q S1
  | [], T, S1, a, nd, hne, hl, h, k => by
    rw [List.map_nil]
    unfold dcL
    rw [wq_bind]
    refine grd_wq (hg S1 a) ?_
    rw [wq_pure]
    have := k S1 a
    rwa [List.append_nil] at this
  | p :: L, T, S1, a, nd, hne, hl, h, k => by
    rw [List.map_cons]
    unfold dcL
    rw [wq_bind]
    refine grd_wq (hg S1 a) ?_
    rw [wq_bind]
    refine wq_mono (h p (by simp) S1 a) fun r S2 ⟨e, b⟩ => ?_
    subst e
    dsimp only
    rw [wq_bind, w_toKey (hne p (by simp)), wq_bind, wq_need]
    have hz : (tabD T).length < sizeLine := by
      rw [tab_len]
      simp only [List.length_cons] at hl
      exact Nat.lt_of_le_of_lt (show T.length ≤ 1000 by omega) (by decide)
    refine ⟨decide_eq_true hz, ?_⟩
    have hn : p.1 ∉ T.map (·.1) := by
      rw [List.map_append, List.map_cons] at nd
      intro m
      exact (List.nodup_append.mp nd).2.2 p.1 m p.1 (by simp) rfl
    rw [putT_tab, putQ_new hn]
    have e2 : T ++ [(p.1, p.2)] ++ L = T ++ p :: L := by simp
    refine dcL_tab hg L (T ++ [(p.1, p.2)]) S2 (a.trans b) (by rw [e2]; exact nd) (fun q hq => hne q (List.mem_cons_of_mem _ hq)) (by simp only [List.length_append, List.length_cons, List.length_nil] at *; omega) (fun q hq => h q (List.mem_cons_of_mem _ hq)) ?_
    rw [e2]
    exact k
theorem poly_dict_wq {n m : Nat} {b : Int} {N M : Nat} {f : Tb} {S : Store} {Q : D → Store → Prop} (hm : 0 < m) (mf : Mb m b N M f) (nd : (f.map (·.1)).Nodup) (hf : f.length ≤ 1000)
    (h : ∀ l S', S'[l]? = some (.dt false (tabD f)) → Fr [] S S' → Q (.ref l) S') : wq (call gl fds (n + 1) f_poly_dict [polyD f]) Q S := by
  rw [wq_call (fd := d_poly_dict) rfl rfl]
  dsimp only [d_poly_dict]
  unfold b_poly_dict polyD
  walk_at "dl"
  rw [e_dmk]
  walk_at "dl"
  refine dcL_tab (fun _ _ => Gd_none) f [] S .refl nd (fun p hp => (mf p hp).1.ne hm) (by simpa using hf) (fun p hp S' a => ?_) fun S' a => ?_
  · obtain ⟨pe, pq⟩ := p
    unfold dB
    dsimp only [memD]
    simp only [wq_bind]
    walk_at "dl"
    exact ⟨by decide, by decide, .refl⟩
  · try walk_at "dl"
    exact h _ _ get_new (a.new _)
theorem Mb.of_po {m : Nat} {o : Od} {b : Int} {N M c : Nat} {F : List Int → Rat} {L : Tb} (h : PO m o b N M c F L) : Mb m b N M L := h.ok
theorem turned_wq {n m : Nat} {o o2 : Od} {b : Int} {N M c : Nat} {F : List Int → Rat} {f : Tb} {S : Store} {Q : D → Store → Prop} (ho : o2.ok m) (hm : 0 < m) (hm' : m ≤ 10) (hb : b ≤ 1000) (po : PO m o b N M c F f) (hc : c ≤ 1000)
    (h : ∀ L S', Can (pkey o2) F L → Fr [] S S' → Q (polyD L) S') : wq (call gl fds (n + 5) f_turned_poly [.tup [.int m, o2.d], polyD f]) Q S := by
  rw [wq_call (fd := d_turned_poly) rfl rfl]
  dsimp only [d_turned_poly]
  unfold b_turned_poly
  walk_at "dl"
  have lf := po.len
  refine poly_dict_wq hm po.ok po.can.nodup (by omega) fun l S1 g f1 => ?_
  refine dict_poly_wq ho hm hm' hb g (TI.self po.can.nodup po.ok) (by omega) fun L S2 p2 f2 => ?_
  have e : sumT f = F := funext po.can.sum
  have := p2.can
  rw [e] at this
  exact h L S2 this (f1.trans f2)
theorem deg_cons {n : Int} {ns : List Int} (h : 0 ≤ n) : maxI n ns = maxI (-1) (n :: ns) := by
  unfold maxI
  rw [List.foldl_cons, Int.max_eq_right (by omega)]
def maxDv (z : D) : List Int → D
  | [] => z
  | n :: ns => .int (maxI n ns)
theorem w_maxD {l : Nat} {ns : List Int} {z : D} {S : Store} {Q : D → Store → Prop} (h : S[l]? = some (.lst (ns.map .int))) : wq (maxDD (.ref l) z) Q S = Q (maxDv z ns) S := by
  unfold maxDD
  rw [wq_bind, w_getL_ref h, ints_some]
  cases ns <;> simp only [wq_pure, maxDv]
theorem w_maxL {l : Nat} {n : Int} {ns : List Int} {S : Store} {Q : D → Store → Prop} (h : S[l]? = some (.lst ((n :: ns).map .int))) : wq (maxLD (.ref l)) Q S = Q (.int (maxI n ns)) S := by
  unfold maxLD
  rw [wq_bind, w_getL_ref h, ints_some]
  simp only [wq_pure]
theorem e_maxl {gl : Nat → D} {cf : Nat → List D → M D} {a : IE} {env : Sl} {Q : D → Store → Prop} {S : Store} : wq (ev gl cf (.maxl a) env) Q S = wq (ev gl cf a env) (fun x S' => wq (maxLD x) Q S') S := by simp only [ev, wq_bind]
theorem e_maxd {gl : Nat → D} {cf : Nat → List D → M D} {a b : IE} {env : Sl} {Q : D → Store → Prop} {S : Store} : wq (ev gl cf (.maxd a b) env) Q S = wq (ev gl cf a env) (fun x S' => wq (ev gl cf b env) (fun y S'' => wq (maxDD x y) Q S'') S') S := by simp only [ev, wq_bind]
theorem total_wq {n : Nat} {e : List Int} {S : Store} {Q : D → Store → Prop} (h : Q (.int e.sum) S) : wq (call gl fds (n + 1) f_total [.tup (e.map .int)]) Q S := by
  rw [wq_call (fd := d_total) rfl rfl]
  dsimp only [d_total]
  unfold b_total
  walk_at "dl"
  exact h
theorem degree_of_wq {n m : Nat} {b : Int} {N M : Nat} {f : Tb} {S : Store} {Q : D → Store → Prop} (mf : Mb m b N M f) (hf : f.length ≤ 1000)
    (h : ∀ S', Fr [] S S' → Q (.int (deg f)) S') : wq (call gl fds (n + 2) f_degree_of [polyD f]) Q S := by
  rw [wq_call (fd := d_degree_of) rfl rfl]
  dsimp only [d_degree_of]
  unfold b_degree_of polyD
  walk_at "dl"
  rw [e_maxd]
  walk_at "dl"
  refine compL_tot (e := memD) (fun p => D.int p.1.sum) hf (fun _ _ => Gd_none) (fun p hp S' a => ?_) fun S' a => ?_
  · obtain ⟨pe, pq⟩ := p
    dsimp only [memD]
    walk_at "dl"
    refine ⟨by decide, by decide, ?_⟩
    exact total_wq ⟨rfl, .refl⟩
  · have e : (f.map fun p => D.int p.1.sum) = (degs f).map .int := by
      unfold degs
      rw [List.map_map]
      rfl
    rw [e]
    try walk_at "dl"
    rw [w_maxD get_new]
    have hd : maxDv (D.int (-1)) (degs f) = .int (deg f) := by
      unfold deg
      cases hz : degs f with
      | nil => rfl
      | cons x xs =>
        show D.int (maxI x xs) = _
        rw [deg_cons]
        have hx : x ∈ degs f := by rw [hz]; simp
        obtain ⟨p, hp, rfl⟩ := List.mem_map.mp hx
        have g := (mf p hp).1
        exact sum_nn fun y hy => (g.rg y hy).1
    rw [hd]
    exact h _ (a.new _)
theorem frQ_lit {a b : Int} (hb : 0 < b) (hg : Nat.gcd a.natAbs b.natAbs = 1) : D.tup [.int a, .int b] = frQ ((a : Rat) / (b : Rat)) := frQ_of (by omega) hb rfl hg
theorem inv_frQ {q : Rat} (h : q ≠ 0) : (if decide (q.num > 0) = true then D.tup [.int q.den, .int q.num] else D.tup [.int (-(q.den : Int)), .int (-q.num)]) = frQ (1 / q) := by
  have hn : q.num ≠ 0 := fun z => h ((num_zero q).mp z)
  have h2 := num_den q
  have h4 : ((q.den : Nat) : Rat) ≠ 0 := by exact_mod_cast q.den_nz
  have h5 : ((q.num : Int) : Rat) ≠ 0 := by exact_mod_cast hn
  have hc : Nat.gcd q.den q.num.natAbs = 1 := by rw [Nat.gcd_comm]; exact q.reduced
  by_cases c : q.num > 0
  · rw [if_pos (by simpa using c), frQ_lit (by omega) (by rw [Int.natAbs_natCast]; exact hc)]
    congr 1
    have e : (((q.den : Nat) : Int) : Rat) = ((q.den : Nat) : Rat) := by exact_mod_cast rfl
    rw [e]
    grind
  · rw [if_neg (by simpa using c), frQ_lit (by omega) (by rw [Int.natAbs_neg, Int.natAbs_neg, Int.natAbs_natCast]; exact hc)]
    congr 1
    push_cast
    grind
theorem Bd.inv {q : Rat} (h : q ≠ 0) : Bd q.num.natAbs q.den (1 / q) := by
  have hn : q.num ≠ 0 := fun z => h ((num_zero q).mp z)
  have h2 := num_den q
  have h4 : ((q.den : Nat) : Rat) ≠ 0 := by exact_mod_cast q.den_nz
  have h5 : ((q.num : Int) : Rat) ≠ 0 := by exact_mod_cast hn
  refine ⟨by omega, if 0 < q.num then (q.den : Int) else -(q.den : Int), ?_, by split <;> omega⟩
  by_cases c : 0 < q.num
  · rw [if_pos c]
    obtain ⟨k, hk⟩ := Int.eq_ofNat_of_zero_le (Int.le_of_lt c)
    rw [hk] at h2 h5 ⊢
    rw [Int.natAbs_natCast]
    push_cast at *
    grind
  · rw [if_neg c]
    obtain ⟨k, hk⟩ := Int.eq_ofNat_of_zero_le (show 0 ≤ -q.num by omega)
    have hk2 : q.num = -(k : Int) := by omega
    rw [hk2] at h2 h5 ⊢
    rw [Int.natAbs_neg, Int.natAbs_natCast]
    push_cast at *
    grind
theorem made_first_wq {n m : Nat} {o : Od} {b : Int} {N M : Nat} {p0 : List Int × Rat} {f : Tb} {S : Store} {Q : D → Store → Prop} (mf : Mb m b N M (p0 :: f)) (hf : (p0 :: f).length ≤ 1000) (hN : N < 2 ^ 3900) (hM : M < 2 ^ 3900) (h0 : p0.2 ≠ 0)
    (h : ∀ S', Fr [] S S' → Q (polyD (scaleT (p0 :: f) (1 / p0.2))) S') : wq (call gl fds (n + 4) f_made_first [.tup [.int m, o.d], polyD (p0 :: f)]) Q S := by
  rw [wq_call (fd := d_made_first) rfl rfl]
  dsimp only [d_made_first]
  unfold b_made_first
  have hh : atI ((p0 :: f).map memD) 0 = some (memD p0) := atI_0
  have b0 := (mf p0 (by simp)).2
  generalize hL : (p0 :: f) = L at *
  have hx : ∀ {Q' : D → Store → Prop} {S' : Store}, wq (ixD (polyD L) (.int 0)) Q' S' = Q' (memD p0) S' := by
    intro Q' S'
    unfold polyD
    exact w_ixT hh
  walk_at "dl"
  rw [hx, show memD p0 = .tup [.tup (p0.1.map .int), frQ p0.2] from rfl]
  walk_at "dl"
  refine ⟨by decide, ?_⟩
  walk_at "nx"
  have key := inv_frQ h0
  have sp : wq (call gl fds (n + 3) f_scale_poly [.tup [.int m, o.d], polyD L, frQ (1 / p0.2)]) Q S := scale_poly_wq mf (Bd.inv h0) hf hN (Nat.lt_of_le_of_lt b0.num hM) hM (Nat.lt_of_le_of_lt b0.den.2 hN) h
  by_cases c : 0 < p0.2.num
  · rw [if_pos (by simpa using c)] at key
    rw [if_pos (by simpa using c), key]
    exact ⟨by decide, sp⟩
  · rw [if_neg (by simpa using c)] at key
    rw [if_neg (by simpa using c), key]
    exact ⟨by decide, sp⟩
theorem zip_all {α β : Type} {P : β → Prop} {xs : List α} {ys : List β} (hl : ys.length = xs.length) (h : ∀ p ∈ xs.zip ys, P p.2) : ∀ y ∈ ys, P y := fun y hy => by
  obtain ⟨i, hi, rfl⟩ := List.getElem_of_mem hy
  exact h (xs[i]'(by omega), ys[i]) (by
    rw [List.mem_iff_getElem]
    exact ⟨i, by simp; omega, by simp⟩)
theorem PO.sm {m : Nat} {o : Od} {b : Int} {N M c : Nat} {F : List Int → Rat} {L : Tb} (h : PO m o b N M c F L) (hm : m ≤ 10) (hc : c ≤ 1000) : Sm 3 (polyD L) := Sm.poly h.ok hm (Nat.le_trans h.len hc)
theorem sameX_wq {k r1 r2 : Nat} {ds : List D} {n : Nat} {S : Store} {Q : D → Store → Prop} (h1 : S[r1]? = some (.lst ds)) (h2 : S[r2]? = some (.lst ds)) (hl : ds.length ≤ 1000) (hs : ∀ x ∈ ds, ∃ j, j ≤ k ∧ Sm j x) (hq : ∀ S', Fr [] S S' → Q (.bl true) S') : wq (call gl fds (n + 2 + k) f__law_same [.ref r1, .ref r2]) Q S := by
  rw [show n + 2 + k = (n + 1 + k) + 1 by omega]
  rw [wq_call (fd := d__law_same) rfl rfl]
  dsimp only [d__law_same]
  unfold b__law_same
  have t1 : ∀ t, isTy S (.ref r1) t = some (t == .list) := fun t => by unfold isTy; dsimp only; rw [h1]
  have t2 : ∀ t, isTy S (.ref r2) t = some (t == .list) := fun t => by unfold isTy; dsimp only; rw [h2]
  walk_at "dl"
  rw [w_isi (b := true) (by unfold anyTy; rw [t2]; unfold anyTy; rw [t2]; rfl)]
  walk_at "dl"
  rw [w_isi (b := false) (by unfold anyTy; rw [t1]; rfl), w_isi (b := false) (by unfold anyTy; rw [t2]; rfl)]
  walk_at "dl"
  rw [w_isi (b := true) (by unfold anyTy; rw [t1]; rfl), w_isi (b := true) (by unfold anyTy; rw [t2]; rfl)]
  walk_at "dl"
  rw [if_neg (by decide), if_neg (by decide)]
  walk_at "nx"
  walk_at "nx"
  refine ⟨small_rng (by omega), ?_⟩
  rw [rngItems_nat]
  refine compL_tot (e := fun (k : Nat) => D.int (k : Int)) (fun k => D.bl true) (by simpa using hl) (fun _ _ => Gd_none) (fun j hj S' a => ?_) fun S' a => ?_
  · have hj := List.mem_range.mp hj
    walk_at "dl"
    refine ⟨by decide, ?_⟩
    have e : atI ds (j : Int) = some ds[j] := atI_of (by omega) (by rw [Int.toNat_natCast]; exact List.getElem?_eq_getElem hj)
    rw [w_ixL (a.get _ _ (by simp) h1) e, w_ixL (a.get _ _ (by simp) h2) e]
    obtain ⟨i, hi, hsm⟩ := hs _ (List.getElem_mem hj)
    rw [show n + 1 + k = (n + (k - i)) + 1 + i by omega]
    exact same_wq i hsm fun S2 f2 => ⟨rfl, f2⟩
  · try walk_at "dl"
    obtain ⟨e1, e2⟩ := rep_true ds.length
    rw [e1, e2]
    exact ⟨rfl, hq _ (a.new _)⟩
theorem Sm.mem {m : Nat} {b : Int} {N M : Nat} {f : Tb} (mf : Mb m b N M f) (hm : m ≤ 10) {p : List Int × Rat} (hp : p ∈ f) : Sm 2 (memD p) := by
  have h1 := (mf p hp).1.len
  refine ⟨_, rfl, by simp, fun y hy => ?_⟩
  simp only [List.mem_cons, List.not_mem_nil, or_false] at hy
  rcases hy with rfl | rfl
  · exact Sm.ints (by omega)
  · exact Sm.ints (e := [p.2.num, p.2.den]) (by simp)
def unitE (m i : Nat) : List Int := (List.range m).map fun k => if k = i then 1 else 0
theorem unknown_wq {n m i : Nat} {o : Od} {S : Store} {Q : D → Store → Prop} (hm' : m ≤ 10)
    (h : ∀ S', Fr [] S S' → Q (polyD [(unitE m i, 1)]) S') : wq (call gl fds (n + 2) f_unknown_poly [.tup [.int m, o.d], .int i]) Q S := by
  rw [wq_call (fd := d_unknown_poly) rfl rfl]
  dsimp only [d_unknown_poly]
  unfold b_unknown_poly
  walk_at "dl"
  rw [wq_call (fd := d_unit_power) rfl rfl]
  dsimp only [d_unit_power]
  unfold b_unit_power
  walk_at "dl"
  refine ⟨small_rng (by omega), ?_⟩
  rw [rngItems_nat]
  refine compL_tot (e := fun (k : Nat) => D.int (k : Int)) (fun k => D.int (if k = i then 1 else 0)) (by simp; omega) (fun _ _ => Gd_none) (fun k hk S' a => ?_) fun S' a => ?_
  · walk_at "dl"
    refine ⟨by decide, ?_⟩
    by_cases c : k = i
    · rw [if_pos (decide_eq_true (by omega)), if_pos c]
      exact ⟨rfl, .refl⟩
    · rw [if_neg (by simp; omega), if_neg c]
      exact ⟨rfl, .refl⟩
  · have e : ((List.range m).map fun k => D.int (if k = i then 1 else 0)) = (unitE m i).map .int := by
      unfold unitE
      rw [List.map_map]
      rfl
    rw [e]
    try walk_at "dl"
    walk_at "cd"
    exact h _ (a.new _)
theorem head_wq {n : Nat} {p0 : List Int × Rat} {f : Tb} {S : Store} {Q : D → Store → Prop} (h : Q (memD p0) S) : wq (call gl fds (n + 1) f_head_of [polyD (p0 :: f)]) Q S := by
  rw [wq_call (fd := d_head_of) rfl rfl]
  dsimp only [d_head_of]
  unfold b_head_of polyD
  have hh : atI ((p0 :: f).map memD) 0 = some (memD p0) := atI_0
  generalize (p0 :: f).map memD = ds at *
  walk_at "dl"
  exact h
theorem const_poly_wq {n m : Nat} {o : Od} {q : Rat} {S : Store} {Q : D → Store → Prop} (ho : o.ok m) (hm : 0 < m) (hm' : m ≤ 10) (hn : q.num.natAbs ≤ 9999) (hd : q.den ≤ 9999)
    (h : ∀ S', Fr [] S S' → Q (polyD (constT m q)) S') : wq (call gl fds (n + 6) f_constant_poly [.tup [.int m, o.d], frQ q]) Q S := by
  have b : Bd q.den q.num.natAbs q := ⟨q.den_pos, q.num, by
    have h1 := num_den q
    have h2 : ((q.den : Nat) : Rat) ≠ 0 := by exact_mod_cast q.den_nz
    grind, Nat.le_refl _⟩
  refine constant_poly_wq ho hm hm' b (Nat.lt_of_le_of_lt hd (by decide)) (Nat.lt_of_le_of_lt (show 2 * q.num.natAbs ≤ 19998 by omega) (by decide)) fun L S' po f => ?_
  have := po.can
  rw [sum_const] at this
  rw [this.uniq (can_const _ m q)]
  exact h S' f
end K05
end

section
set_option Elab.async false
set_option linter.all false
set_option maxRecDepth 100000
set_option maxHeartbeats 1000000
set_option exponentiation.threshold 20000
namespace K05
open PySem PySem.Spec L2 Dl
local macro_rules | `(tactic| walk_at "dl") => `(tactic| simp (disch := first | assumption | exact get_new | (refine get_app ?_; first | assumption | exact get_new | (refine get_app ?_; first | assumption | exact get_new)) | (refine get_set ?_; assumption) | exact atI_0 | exact atI_1 | exact atI_2 | exact ok_lex | exact ok_degree | exact ok_back | exact ok_blocks | exact ok_weights) only [
  e_cB, e_fB, e_dnew, e_dget, e_din, vt_din, e_dget2, e_dpop, e_sortp, x_dput, w_isT, w_din, w_dget2, w_dget, w_dput, w_dpop, w_fr0, w_fr1, e_var, e_int, e_bl, e_non, e_str, e_glo, e_tup, e_lst, e_op, e_neg, e_not, e_and, e_or, e_cmp, e_chain, e_ite, e_ix, e_sl, e_rev, e_call, e_bi, e_me, e_isi, e_isis, e_comp, e_tupr, e_lstr, e_nil, e_cons, e_ono, e_oso, e_cno, e_cso, vt_and, vt_or, vt_not, vt_cmp, vt_chain, vt_var, vt_bl, vt_call, vt_bi, vt_isi, vt_isis, vi_seq, vi_rng1, vi_rng2, vi_zip, vg_nm, vg_tp, vg_ixs, gs_nil, gs_cons, x_asg, x_par, x_aug, x_expr, x_ret, x_retN, x_ite, x_for, x_whl, x_pass, x_brk, x_cnt, xs_nil, k_one, k_cons, k_rt, k_bk, k_ct, r_nx, r_rt, w_neg, w_tupr, w_lstr,
  TGs.len, wq_pure, List.getElem?_cons_zero, List.getElem?_cons_succ, List.set_cons_zero, List.set_cons_succ, List.length_cons, List.length_nil, List.length_map, if_true, Bool.false_eq_true, if_false, startE, List.map_cons, List.map_nil, List.replicate, List.cons_append, List.nil_append, wipeE, Nat.zero_add, Nat.reduceAdd, Nat.reduceSub, true_and,
  w_getL_ref, w_getS_ref, w_getL_ro, w_getS_ro, w_getS_tup, w_add, w_sub, w_mul, w_addT, w_addL, w_mulL, w_fdiv, w_mod, w_pow, w_shl, w_lt, w_le, w_gt, w_ge, w_ltT, w_gtT, w_eq, w_ne, w_isN, w_isnN, w_in, w_nin, w_trB, w_trN, w_trI, w_trT, w_trL, w_lenT, w_lenR, w_lenL, w_sumT, w_sumL, w_int, w_intB, w_tupL, w_listL, w_listT, w_append, w_pop, w_reverse, w_isL, w_revT, w_asInt, w_slR, w_srcT, w_srcR, w_srcL, w_rng, w_zipT, w_unpkT, w_unpkL, w_eqB, w_eqT, w_eqI, w_ixT, w_eqS, w_eqTS, Bool.not_true, Bool.not_false, decide_true, decide_false, wd_lex_lex, wd_lex_degree, wd_lex_back, wd_lex_blocks, wd_lex_weights, wd_degree_lex, wd_degree_degree, wd_degree_back, wd_degree_blocks, wd_degree_weights, wd_back_lex, wd_back_degree, wd_back_back, wd_back_blocks, wd_back_weights, wd_blocks_lex, wd_blocks_degree, wd_blocks_back, wd_blocks_blocks, wd_blocks_weights, wd_weights_lex, wd_weights_degree, wd_weights_back, wd_weights_blocks, wd_weights_weights])
local macro_rules | `(tactic| walk_at "nx") => `(tactic| (rw [k_nx]; try walk_at "dl"))
local macro_rules | `(tactic| walk_at "cj") => `(tactic| repeat refine And.intro (by first | decide | exact lens_of (by decide) | exact lens_of (by simp) | simp) ?_)
local macro_rules | `(tactic| walk_at "cd") => `(tactic| repeat refine And.intro (by decide) ?_)
theorem w_slT {S : Store} {ds : List D} {lo hi : Option Int} {Q : D → Store → Prop} : wq (slD (.tup ds) lo hi) Q S = Q (.tup (cutD ds lo hi)) S := wq_l rfl
theorem cut_to {α : Type} {e : α → D} {xs : List α} {k : Nat} : cutD (xs.map e) none (some (k : Int)) = (xs.take k).map e := by
  have e1 : HT.sIx xs.length 0 none = 0 := rfl
  unfold cutD
  rw [List.length_map, e1, HT.sIx_nat, List.drop_zero, List.map_take]
  simp
theorem cut_from {α : Type} {e : α → D} {xs : List α} {k : Nat} : cutD (xs.map e) (some (k : Int)) none = (xs.drop k).map e := by
  have e1 : HT.sIx xs.length xs.length none = xs.length := rfl
  unfold cutD
  rw [List.length_map, e1, HT.sIx_nat, List.map_drop]
  by_cases h : k ≤ xs.length
  · rw [Nat.min_eq_left h, List.take_of_length_le (by simp)]
  · rw [Nat.min_eq_right (by omega), List.drop_of_length_le (by simp), List.drop_of_length_le (by simp; omega)]
    simp
theorem low_eq {p : List Int} {i : Nat} (h : i < p.length) : (p.take i).map D.int ++ [D.int (p.getD i 0 - 1)] ++ (p.drop (i + 1)).map D.int = (lowE p i).map .int := by
  unfold lowE
  rw [List.set_eq_take_append_cons_drop, if_pos h]
  simp
theorem sum_low : ∀ {p : List Int} {i : Nat}, i < p.length → (lowE p i).sum = p.sum - 1
  | [], i, h => by simp at h
  | x :: p, 0, h => by
    unfold lowE
    simp only [List.set_cons_zero, List.sum_cons, List.getD_cons_zero]
    omega
  | x :: p, i + 1, h => by
    have ih := sum_low (p := p) (i := i) (by simpa using h)
    unfold lowE at *
    simp only [List.set_cons_succ, List.sum_cons, List.getD_cons_succ] at *
    omega
theorem GE.low {m : Nat} {b : Int} {e : List Int} {i : Nat} (h : GE m b e) (hi : i < m) (hp : 0 < e.getD i 0) : GE m b (lowE e i) := by
  have hl : i < e.length := by rw [h.len]; exact hi
  have hb := h.rg.getD hl
  refine ⟨by unfold lowE; rw [List.length_set]; exact h.len, ?_, by rw [sum_low hl]; have := h.sm; omega⟩
  exact h.rg.set (by omega) (by omega)
theorem frQ_int (a : Int) : D.tup [.int a, .int 1] = frQ (a : Rat) := rfl
theorem Bd.int (a : Int) : Bd 1 a.natAbs (a : Rat) := ⟨by decide, a, by
  have : ((1 : Nat) : Rat) = 1 := by decide +kernel
  rw [this, Rat.mul_one], Nat.le_refl _⟩
theorem dT_len (f : Tb) (i : Nat) : (dT f i).length ≤ f.length := by
  unfold dT
  induction f with
  | nil => simp
  | cons p f ih =>
    rw [List.flatMap_cons, List.length_append, List.length_cons]
    split <;> simp only [List.length_cons, List.length_nil] <;> omega
theorem dT_snoc (d : Tb) (p : List Int × Rat) (i : Nat) : dT (d ++ [p]) i = dT d i ++ if 0 < p.1.getD i 0 then [(lowE p.1 i, p.2 * ((p.1.getD i 0 : Int) : Rat))] else [] := by simp [dT]
theorem low_bd {m b N M : Nat} {pe : List Int} {pq : Rat} {i : Nat} (gp : GE m b pe) (bp : Bd N M pq) (hi : i < m) : Bd N (M * b) (pq * ((pe.getD i 0 : Int) : Rat)) := by
  have hb := gp.rg.getD (show i < pe.length by rw [gp.len]; exact hi)
  have h := bp.mul (Bd.int (pe.getD i 0))
  rw [Nat.mul_one] at h
  exact h.mono (Nat.mul_le_mul_left M (show (pe.getD i 0).natAbs ≤ b by omega))
theorem Mb.dT {m b N M : Nat} {f : Tb} {i : Nat} (mf : Mb m b N M f) (hi : i < m) : Mb m b N (M * b) (dT f i) := by
  intro p hp
  obtain ⟨q, hq, hp⟩ := List.mem_flatMap.mp hp
  obtain ⟨gq, bq⟩ := mf q hq
  split at hp
  · rename_i c
    rw [List.mem_singleton.mp hp]
    exact ⟨gq.low hi c, low_bd gq bq hi⟩
  · cases hp
theorem derive_wq {n m i b N M : Nat} {o : Od} {f : Tb} {S : Store} {Q : D → Store → Prop} (ho : o.ok m) (hm : 0 < m) (hm' : m ≤ 10) (hi : i < m) (mf : Mb m b N M f) (hb : b ≤ 1000) (hf : f.length ≤ 1000) (hN : N < 2 ^ 3900) (hM : M < 2 ^ 3900) (hMb : (f.length + 1) * (M * b) < 2 ^ 3900)
    (h : ∀ L S', PO m o b N (f.length * (M * b)) f.length (sumT (dT f i)) L → Fr [] S S' → Q (polyD L) S') : wq (call gl fds (n + 6) f_derive [.tup [.int m, o.d], polyD f, .int i]) Q S := by
  rw [wq_call (fd := d_derive) rfl rfl]
  dsimp only [d_derive]
  unfold b_derive
  walk_at "dl"
  walk_at "cd"
  have g0 := get_new (S := S) (o := .lst (([] : Tb).map memD))
  have f0 := Fr.new (.refl (L := []) (S := S)) (.lst (([] : Tb).map memD))
  have e0 : (S ++ [Ob.lst []]) = S ++ [.lst (([] : Tb).map memD)] := rfl
  rw [e0]
  generalize hl0 : S.length = l at *
  have hl : S.length ≤ l := Nat.le_of_eq hl0
  generalize (S ++ [Ob.lst (([] : Tb).map memD)]) = S1 at *
  clear e0
  conv in polyD f => unfold polyD
  walk_at "nx"
  refine forL_gen (e := memD) (fun d _ e S' => (S'[l]? = some (.lst ((dT d i).map memD)) ∧ Fr [] S S') ∧ ∃ o4 o5 o6, e = [some (.tup [.int m, o.d]), some (.tup (f.map memD)), some (.int i), some (.ref l), o4, o5, o6]) (fun _ _ _ _ _ => Gd_none) ?_ ?_ ?_
  · exact ⟨⟨g0, f0⟩, _, _, _, rfl⟩
  · rintro e S2 ⟨⟨g2, f2⟩, o4, o5, o6, rfl⟩
    walk_at "nx"
    have dl := dT_len f i
    refine ring_poly_wq ho hm hm' (by omega) (.inr ⟨l, rfl, g2⟩) (mf.dT hi) (by omega) hN (bd_len hMb dl) fun L S3 po f3 => h L S3 (po.mono (Int.le_refl _) (Nat.mul_le_mul_right _ dl) dl) (f2.trans f3)
  · rintro d p rest e S2 hx ⟨⟨g2, f2⟩, o4, o5, o6, rfl⟩
    have pm : p ∈ f := by rw [hx]; simp
    have hdl : (dT d i).length < sizeLine := by
      have h1 := dT_len d i
      have h2 : f.length = d.length + (rest.length + 1) := by rw [hx]; simp
      exact Nat.lt_of_le_of_lt (show (dT d i).length ≤ 1000 by omega) (by decide)
    have hdl2 : ((dT d i).map memD).length < sizeLine := by simpa using hdl
    obtain ⟨pe, pq⟩ := p
    obtain ⟨gp, bp⟩ := mf _ pm
    dsimp only at gp bp
    have hil : i < pe.length := by rw [gp.len]; exact hi
    have hb := gp.rg.getD hil
    rw [dT_snoc]
    dsimp only [memD]
    walk_at "dl"
    walk_at "cd"
    rw [w_ixT (atI_ints hil), w_gt]
    by_cases c : 0 < pe.getD i 0
    · rw [if_pos (by simpa using c), if_pos c]
      try walk_at "dl"
      rw [w_slT, cut_to, w_ixT (atI_ints hil)]
      walk_at "dl"
      have hz : pe.length ≤ 10 := by rw [gp.len]; exact hm'
      refine ⟨by decide, lens_of (by simp; omega), ?_⟩
      rw [show ((i : Int) + 1) = ((i + 1 : Nat) : Int) from rfl, w_slT, cut_from]
      walk_at "dl"
      refine ⟨lens_of (by simp; omega), by decide, ?_⟩
      rw [low_eq hil]
      walk_at "nx"
      rw [w_ixT (atI_ints hil)]
      walk_at "cd"
      rw [frQ_int]
      refine multiply_wq (Sz.of bp hN hM) (Sz.of (Bd.int (pe.getD i 0)) (by decide) (Nat.lt_of_le_of_lt (show (pe.getD i 0).natAbs ≤ 1000 by omega) (by decide))) ?_
      walk_at "cd"
      rw [w_append g2]
      refine ⟨hdl2, ?_⟩
      try walk_at "nx"
      exact ⟨⟨by rw [get_set g2, List.map_append]; rfl, f2.set _ (.inr hl)⟩, _, _, _, rfl⟩
    · rw [if_neg (by simpa using c), if_neg c, List.append_nil]
      try walk_at "nx"
      exact ⟨⟨g2, f2⟩, _, _, _, rfl⟩
end K05
end

section
set_option Elab.async false
set_option linter.all false
set_option maxRecDepth 100000
set_option maxHeartbeats 1000000
set_option exponentiation.threshold 20000
namespace K05
open PySem PySem.Spec L2 Dl
local macro_rules | `(tactic| walk_at "dl") => `(tactic| simp (disch := first | assumption | exact get_new | (refine get_app ?_; first | assumption | exact get_new | (refine get_app ?_; first | assumption | exact get_new)) | (refine get_set ?_; assumption) | exact atI_0 | exact atI_1 | exact atI_2 | exact ok_lex | exact ok_degree | exact ok_back | exact ok_blocks | exact ok_weights) only [
  e_cB, e_fB, e_dnew, e_dget, e_din, vt_din, e_dget2, e_dpop, e_sortp, x_dput, w_isT, w_din, w_dget2, w_dget, w_dput, w_dpop, w_fr0, w_fr1, e_var, e_int, e_bl, e_non, e_str, e_glo, e_tup, e_lst, e_op, e_neg, e_not, e_and, e_or, e_cmp, e_chain, e_ite, e_ix, e_sl, e_rev, e_call, e_bi, e_me, e_isi, e_isis, e_comp, e_tupr, e_lstr, e_nil, e_cons, e_ono, e_oso, e_cno, e_cso, vt_and, vt_or, vt_not, vt_cmp, vt_chain, vt_var, vt_bl, vt_call, vt_bi, vt_isi, vt_isis, vi_seq, vi_rng1, vi_rng2, vi_zip, vg_nm, vg_tp, vg_ixs, gs_nil, gs_cons, x_asg, x_par, x_aug, x_expr, x_ret, x_retN, x_ite, x_for, x_whl, x_pass, x_brk, x_cnt, xs_nil, k_one, k_cons, k_rt, k_bk, k_ct, r_nx, r_rt, w_neg, w_tupr, w_lstr,
  TGs.len, wq_pure, List.getElem?_cons_zero, List.getElem?_cons_succ, List.set_cons_zero, List.set_cons_succ, List.length_cons, List.length_nil, List.length_map, if_true, Bool.false_eq_true, if_false, startE, List.map_cons, List.map_nil, List.replicate, List.cons_append, List.nil_append, wipeE, Nat.zero_add, Nat.reduceAdd, Nat.reduceSub, true_and,
  w_getL_ref, w_getS_ref, w_getL_ro, w_getS_ro, w_getS_tup, w_add, w_sub, w_mul, w_addT, w_addL, w_mulL, w_fdiv, w_mod, w_pow, w_shl, w_lt, w_le, w_gt, w_ge, w_ltT, w_gtT, w_eq, w_ne, w_isN, w_isnN, w_in, w_nin, w_trB, w_trN, w_trI, w_trT, w_trL, w_lenT, w_lenR, w_lenL, w_sumT, w_sumL, w_int, w_intB, w_tupL, w_listL, w_listT, w_append, w_pop, w_reverse, w_isL, w_revT, w_asInt, w_slR, w_srcT, w_srcR, w_srcL, w_rng, w_zipT, w_unpkT, w_unpkL, w_eqB, w_eqT, w_eqI, w_ixT, w_eqS, w_eqTS, Bool.not_true, Bool.not_false, decide_true, decide_false, wd_lex_lex, wd_lex_degree, wd_lex_back, wd_lex_blocks, wd_lex_weights, wd_degree_lex, wd_degree_degree, wd_degree_back, wd_degree_blocks, wd_degree_weights, wd_back_lex, wd_back_degree, wd_back_back, wd_back_blocks, wd_back_weights, wd_blocks_lex, wd_blocks_degree, wd_blocks_back, wd_blocks_blocks, wd_blocks_weights, wd_weights_lex, wd_weights_degree, wd_weights_back, wd_weights_blocks, wd_weights_weights])
local macro_rules | `(tactic| walk_at "nx") => `(tactic| (rw [k_nx]; try walk_at "dl"))
local macro_rules | `(tactic| walk_at "cj") => `(tactic| repeat refine And.intro (by first | decide | exact lens_of (by decide) | exact lens_of (by simp) | simp) ?_)
local macro_rules | `(tactic| walk_at "cd") => `(tactic| repeat refine And.intro (by decide) ?_)
theorem lexC_lt : ∀ x y : List Int, (lexC x y == .lt) = decide (x < y)
  | [], [] => by simp [lexC]
  | [], _ :: _ => by simp [lexC]
  | _ :: _, [] => by simp [lexC]
  | a :: x, b :: y => by
    have ih := lexC_lt x y
    unfold lexC
    by_cases h1 : a < b
    · have e : decide (a :: x < b :: y) = true := decide_eq_true (List.cons_lt_cons_iff.mpr (.inl h1))
      rw [e]
      simp [h1]
    · by_cases h2 : a = b
      · subst h2
        have e : decide (a :: x < a :: y) = decide (x < y) := by
          congr 1
          exact propext ⟨fun h => by
            rcases List.cons_lt_cons_iff.mp h with h | ⟨_, h⟩
            · omega
            · exact h, fun h => List.cons_lt_cons_iff.mpr (.inr ⟨rfl, h⟩)⟩
        rw [e, ← ih]
        simp [h1]
      · have e : decide (a :: x < b :: y) = false := decide_eq_false fun h => by
          rcases List.cons_lt_cons_iff.mp h with h | ⟨h, _⟩
          · exact h1 h
          · exact h2 h
        rw [e]
        have : b < a := by omega
        simp [h1, this]
theorem lexC_gt : ∀ x y : List Int, (lexC x y == .gt) = decide (y < x)
  | [], [] => by simp [lexC]
  | [], _ :: _ => by simp [lexC]
  | _ :: _, [] => by simp [lexC]
  | a :: x, b :: y => by
    have ih := lexC_gt x y
    unfold lexC
    by_cases h1 : a < b
    · have e : decide (b :: y < a :: x) = false := decide_eq_false fun h => by
        rcases List.cons_lt_cons_iff.mp h with h | ⟨h, _⟩ <;> omega
      rw [e]
      simp [h1]
    · by_cases h2 : a = b
      · subst h2
        have e : decide (a :: y < a :: x) = decide (y < x) := by
          congr 1
          exact propext ⟨fun h => by
            rcases List.cons_lt_cons_iff.mp h with h | ⟨_, h⟩
            · omega
            · exact h, fun h => List.cons_lt_cons_iff.mpr (.inr ⟨rfl, h⟩)⟩
        rw [e, ← ih]
        simp [h1]
      · have e : decide (b :: y < a :: x) = true := decide_eq_true (List.cons_lt_cons_iff.mpr (.inl (by omega)))
        rw [e]
        have : b < a := by omega
        simp [h1, this]
theorem compare_wq {n m : Nat} {o : Od} {a b : List Int} {S : Store} {Q : D → Store → Prop} (ho : o.ok m) (hm' : m ≤ 10) (ha : a.length = m) (hb : b.length = m) (ra : Rg (-1000) 1000 a) (rb : Rg (-1000) 1000 b)
    (h : ∀ S', Fr [] S S' → Q (.int (if pkey o a = pkey o b then 0 else if pkey o a < pkey o b then -1 else 1)) S') : wq (call gl fds (n + 3) f_compare_powers [.tup [.int m, o.d], .tup (a.map .int), .tup (b.map .int)]) Q S := by
  rw [wq_call (fd := d_compare_powers) rfl rfl]
  dsimp only [d_compare_powers]
  unfold b_compare_powers
  walk_at "dl"
  refine power_key_wq ho ha hm' ra fun S1 f1 => ?_
  walk_at "cd"
  walk_at "nx"
  refine power_key_wq ho hb hm' rb fun S2 f2 => ?_
  walk_at "cd"
  walk_at "nx"
  by_cases c : pkey o a = pkey o b
  · rw [if_pos (decide_eq_true c)]
    rw [if_pos c] at h
    try walk_at "dl"
    exact h _ (f1.trans f2)
  · rw [if_neg (by simpa using c)]
    rw [if_neg c] at h
    walk_at "nx"
    rw [lexC_lt]
    by_cases c2 : pkey o a < pkey o b
    · rw [if_pos (decide_eq_true c2)]
      rw [if_pos c2] at h
      exact h _ (f1.trans f2)
    · rw [if_neg (by simpa using c2)]
      rw [if_neg c2] at h
      exact h _ (f1.trans f2)
theorem rat_sub (p q : Rat) : ((p.num * q.den - q.num * p.den : Int) : Rat) / (((p.den : Int) * (q.den : Int) : Int) : Rat) = p - q := by
  have h1 := num_den p
  have h2 := num_den q
  have h3 : ((p.den : Nat) : Rat) ≠ 0 := by exact_mod_cast p.den_nz
  have h4 : ((q.den : Nat) : Rat) ≠ 0 := by exact_mod_cast q.den_nz
  push_cast
  grind
theorem minus_wq {n : Nat} {p q : Rat} {S : Store} {Q : D → Store → Prop} (hp : Sz p) (hq : Sz q) (h : Q (frQ (p - q)) S) : wq (call gl fds (n + 3) f__law_minus [frQ p, frQ q]) Q S := by
  unfold frQ
  rw [wq_call (fd := d__law_minus) rfl rfl]
  dsimp only [d__law_minus]
  unfold b__law_minus
  walk_at "dl"
  have m1 := bd_mul hp.n hq.dn
  have m2 := bd_mul hq.n hp.dn
  have m3 := bd_mul hp.dn hq.dn
  have hs : (p.num * (q.den : Int) - q.num * (p.den : Int)).natAbs < 2 ^ 7801 := natAbs_sub_lt m1 m2
  refine ⟨fits_nat (up8 hp.n (by decide)) _ (up8 hq.dn (by decide)), fits_nat (up8 hq.n (by decide)) _ (up8 hp.dn (by decide)), fits_nat (up8 hp.dn (by decide)) _ (up8 hq.dn (by decide)), frac_wq (up8 hs (by decide)) (up8 m3 (by decide)) (Int.mul_ne_zero (den_ne p) (den_ne q)) fun c d hd0 hcd _ _ hg => ?_⟩
  rw [frQ_of (Int.mul_ne_zero (den_ne p) (den_ne q)) hd0 hcd hg, rat_sub]
  exact h
theorem is_int_wq {n : Nat} {i : Int} {S : Store} {Q : D → Store → Prop} (h : Q (.bl true) S) : wq (call gl fds (n + 1) f__law_is_int [.int i]) Q S := by
  rw [wq_call (fd := d__law_is_int) rfl rfl]
  dsimp only [d__law_is_int]
  unfold b__law_is_int
  walk_at "dl"
  rw [w_isi (b := true) rfl]
  walk_at "dl"
  rw [w_isi (b := false) rfl]
  walk_at "dl"
  exact h
theorem is_frac_wq {n : Nat} {q : Rat} {S : Store} {Q : D → Store → Prop} (hq : Sz q) (h : Q (.bl true) S) : wq (call gl fds (n + 2) f__law_is_fraction [frQ q]) Q S := by
  unfold frQ
  rw [wq_call (fd := d__law_is_fraction) rfl rfl]
  dsimp only [d__law_is_fraction]
  unfold b__law_is_fraction
  walk_at "dl"
  rw [w_isi (b := true) rfl]
  walk_at "dl"
  refine is_int_wq ?_
  walk_at "dl"
  refine is_int_wq ?_
  walk_at "dl"
  walk_at "nx"
  have hp := q.den_pos
  rw [if_pos (by simp; omega)]
  try walk_at "dl"
  refine gcd_wq (pow_le hq.n (by decide)) (by rw [Int.natAbs_natCast]; exact pow_le hq.d (by decide)) ?_
  try walk_at "dl"
  rw [Int.natAbs_natCast, show Nat.gcd q.num.natAbs q.den = 1 from q.reduced]
  exact h
theorem is_pow_wq {n m : Nat} {e : List Int} {S : Store} {Q : D → Store → Prop} (hl : e.length = m) (hm : m ≤ 10) (hp : ∀ x ∈ e, 0 ≤ x) (h : ∀ S', Fr [] S S' → Q (.bl true) S') : wq (call gl fds (n + 2) f__law_is_power [.int m, .tup (e.map .int)]) Q S := by
  rw [wq_call (fd := d__law_is_power) rfl rfl]
  dsimp only [d__law_is_power]
  unfold b__law_is_power
  walk_at "dl"
  rw [w_isi (b := true) rfl]
  walk_at "dl"
  rw [if_neg (by simp [hl])]
  walk_at "nx"
  refine compL_tot (e := D.int) (fun _ => D.bl true) (by omega) (fun _ _ => Gd_none) (fun x hx S' a => ?_) fun S' a => ?_
  · walk_at "dl"
    refine ⟨by decide, ?_⟩
    refine is_int_wq ?_
    have := hp x hx
    try walk_at "dl"
    refine ⟨?_, .refl⟩
    rw [decide_eq_true (show x ≥ 0 by omega)]
  · try walk_at "dl"
    have e2 : (e.map fun _ => D.bl true) = (e.map fun _ => true).map .bl := by rw [List.map_map]; rfl
    rw [e2, inF_bls, flat_bls]
    refine ⟨rfl, ?_⟩
    have : (!(!(e.map fun _ => true).all id)) = true := by simp
    rw [this]
    exact h _ (a.new _)
end K05
end

section
set_option Elab.async false
set_option linter.all false
set_option maxRecDepth 100000
set_option maxHeartbeats 1000000
set_option exponentiation.threshold 20000
namespace K05
open PySem PySem.Spec L2 Dl
local macro_rules | `(tactic| walk_at "dl") => `(tactic| simp (disch := first | assumption | exact get_new | (refine get_app ?_; first | assumption | exact get_new | (refine get_app ?_; first | assumption | exact get_new)) | (refine get_set ?_; assumption) | exact atI_0 | exact atI_1 | exact atI_2 | exact ok_lex | exact ok_degree | exact ok_back | exact ok_blocks | exact ok_weights) only [
  e_cB, e_fB, e_dnew, e_dget, e_din, vt_din, e_dget2, e_dpop, e_sortp, x_dput, w_isT, w_din, w_dget2, w_dget, w_dput, w_dpop, w_fr0, w_fr1, e_var, e_int, e_bl, e_non, e_str, e_glo, e_tup, e_lst, e_op, e_neg, e_not, e_and, e_or, e_cmp, e_chain, e_ite, e_ix, e_sl, e_rev, e_call, e_bi, e_me, e_isi, e_isis, e_comp, e_tupr, e_lstr, e_nil, e_cons, e_ono, e_oso, e_cno, e_cso, vt_and, vt_or, vt_not, vt_cmp, vt_chain, vt_var, vt_bl, vt_call, vt_bi, vt_isi, vt_isis, vi_seq, vi_rng1, vi_rng2, vi_zip, vg_nm, vg_tp, vg_ixs, gs_nil, gs_cons, x_asg, x_par, x_aug, x_expr, x_ret, x_retN, x_ite, x_for, x_whl, x_pass, x_brk, x_cnt, xs_nil, k_one, k_cons, k_rt, k_bk, k_ct, r_nx, r_rt, w_neg, w_tupr, w_lstr,
  TGs.len, wq_pure, List.getElem?_cons_zero, List.getElem?_cons_succ, List.set_cons_zero, List.set_cons_succ, List.length_cons, List.length_nil, List.length_map, if_true, Bool.false_eq_true, if_false, startE, List.map_cons, List.map_nil, List.replicate, List.cons_append, List.nil_append, wipeE, Nat.zero_add, Nat.reduceAdd, Nat.reduceSub, true_and,
  w_getL_ref, w_getS_ref, w_getL_ro, w_getS_ro, w_getS_tup, w_add, w_sub, w_mul, w_addT, w_addL, w_mulL, w_fdiv, w_mod, w_pow, w_shl, w_lt, w_le, w_gt, w_ge, w_ltT, w_gtT, w_eq, w_ne, w_isN, w_isnN, w_in, w_nin, w_trB, w_trN, w_trI, w_trT, w_trL, w_lenT, w_lenR, w_lenL, w_sumT, w_sumL, w_int, w_intB, w_tupL, w_listL, w_listT, w_append, w_pop, w_reverse, w_isL, w_revT, w_asInt, w_slR, w_srcT, w_srcR, w_srcL, w_rng, w_zipT, w_unpkT, w_unpkL, w_eqB, w_eqT, w_eqI, w_ixT, w_eqS, w_eqTS, Bool.not_true, Bool.not_false, decide_true, decide_false, wd_lex_lex, wd_lex_degree, wd_lex_back, wd_lex_blocks, wd_lex_weights, wd_degree_lex, wd_degree_degree, wd_degree_back, wd_degree_blocks, wd_degree_weights, wd_back_lex, wd_back_degree, wd_back_back, wd_back_blocks, wd_back_weights, wd_blocks_lex, wd_blocks_degree, wd_blocks_back, wd_blocks_blocks, wd_blocks_weights, wd_weights_lex, wd_weights_degree, wd_weights_back, wd_weights_blocks, wd_weights_weights])
local macro_rules | `(tactic| walk_at "nx") => `(tactic| (rw [k_nx]; try walk_at "dl"))
local macro_rules | `(tactic| walk_at "cj") => `(tactic| repeat refine And.intro (by first | decide | exact lens_of (by decide) | exact lens_of (by simp) | simp) ?_)
local macro_rules | `(tactic| walk_at "cd") => `(tactic| repeat refine And.intro (by decide) ?_)
theorem rng_one (m : Nat) : rngItems 1 (m : Int) = (List.range (m - 1)).map fun (k : Nat) => D.int ((1 + k : Nat) : Int) := by
  unfold rngItems
  rw [show ((m : Int) - 1).toNat = m - 1 by omega]
  refine List.map_congr_left fun k _ => ?_
  congr 1
theorem is_poly_wq {n m : Nat} {o : Od} {b : Int} {N M : Nat} {F : List Int → Rat} {L : Tb} {S : Store} {Q : D → Store → Prop} (ho : o.ok m) (hm : 0 < m) (hm' : m ≤ 10) (hb : b ≤ 1000) (hc : Can (pkey o) F L) (mf : Mb m b N M L) (hl : L.length ≤ 1000) (hN : N < 2 ^ 3900) (hM : M < 2 ^ 3900) (h : ∀ S', Fr [] S S' → Q (.bl true) S') : wq (call gl fds (n + 3) f__law_is_poly [.tup [.int m, o.d], polyD L]) Q S := by
  rw [wq_call (fd := d__law_is_poly) rfl rfl]
  dsimp only [d__law_is_poly]
  unfold b__law_is_poly polyD
  walk_at "dl"
  rw [w_isi (b := true) rfl]
  walk_at "dl"
  walk_at "nx"
  refine forL_gen (e := memD) (fun d _ e S' => Fr [] S S' ∧ ∃ o2 o3 o4, e = [some (.tup [.int m, o.d]), some (.tup (L.map memD)), o2, o3, o4]) (fun _ _ _ _ _ => Gd_none) ?_ ?_ ?_
  · exact ⟨.refl, _, _, _, rfl⟩
  · rintro e S2 ⟨f2, o2, o3, o4, rfl⟩
    walk_at "nx"
    refine compL_tot (e := memD) (fun p => D.tup ((pkey o p.1).map .int)) hl (fun _ _ => Gd_none) (fun p hp S' a => ?_) fun S3 f3 => ?_
    · obtain ⟨pe, pq⟩ := p
      have gp := (mf _ hp).1
      dsimp only at gp
      dsimp only [memD]
      walk_at "dl"
      refine ⟨by decide, ?_⟩
      refine lkey_wq ho gp.len hm' (gp.k hb) fun S4 f4 => ⟨rfl, f4⟩
    have g4 := get_new (S := S3) (o := .lst (L.map fun p => D.tup ((pkey o p.1).map .int)))
    have f4 := (f2.trans f3).new (.lst (L.map fun p => D.tup ((pkey o p.1).map .int)))
    generalize S3.length = r at *
    generalize (S3 ++ [Ob.lst (L.map fun p => D.tup ((pkey o p.1).map .int))]) = S4 at *
    try walk_at "dl"
    walk_at "cd"
    walk_at "nx"
    refine ⟨small_rng (by omega), ?_⟩
    rw [rng_one]
    refine compL_tot (e := fun (k : Nat) => D.int ((1 + k : Nat) : Int)) (fun _ => D.bl true) (by simp; omega) (fun _ _ => Gd_none) (fun k hk S' a => ?_) fun S' a => ?_
    · have hk := List.mem_range.mp hk
      have gr := a.get _ _ (by simp) g4
      walk_at "dl"
      refine ⟨by decide, ?_⟩
      have i1 : atI (L.map fun p => D.tup ((pkey o p.1).map .int)) (((1 + k : Nat) : Int) - 1) = some (D.tup ((pkey o (L[k]'(by omega)).1).map .int)) := by
        rw [show (((1 + k : Nat) : Int) - 1) = (k : Int) by omega]
        exact atI_of (by omega) (by rw [Int.toNat_natCast, List.getElem?_map, List.getElem?_eq_getElem (by omega)]; rfl)
      have i2 : atI (L.map fun p => D.tup ((pkey o p.1).map .int)) ((1 + k : Nat) : Int) = some (D.tup ((pkey o (L[1 + k]'(by omega)).1).map .int)) := atI_of (by omega) (by rw [Int.toNat_natCast, List.getElem?_map, List.getElem?_eq_getElem (by omega)]; rfl)
      rw [w_ixL gr i1, w_ixL gr i2, w_gtT, lexC_gt]
      have lt := (List.pairwise_iff_getElem.mp hc.desc) k (1 + k) (by omega) (by omega) (by omega)
      rw [decide_eq_true lt]
      exact ⟨rfl, .refl⟩
    · try walk_at "dl"
      obtain ⟨e1, e2⟩ := rep_true (L.length - 1)
      rw [e1, e2]
      exact ⟨rfl, h _ ((f4.trans a).new _)⟩
  · rintro d p rest e S2 hx ⟨f2, o2, o3, o4, rfl⟩
    have pm : p ∈ L := by rw [hx]; simp
    have p0 := (hc.mem p pm).2
    obtain ⟨pe, pq⟩ := p
    obtain ⟨gp, bp⟩ := mf _ pm
    dsimp only at gp bp p0
    dsimp only [memD]
    walk_at "dl"
    walk_at "cd"
    rw [w_isi (b := true) rfl]
    walk_at "dl"
    refine is_pow_wq gp.len hm' (fun x hx => (gp.rg x hx).1) fun S3 f3 => ?_
    walk_at "dl"
    walk_at "nx"
    refine is_frac_wq (Sz.of bp hN hM) ?_
    walk_at "dl"
    rw [if_neg (by simpa using fun z => p0 ((num_zero pq).mp z))]
    try walk_at "dl"
    repeat walk_at "nx"
    exact ⟨f2.trans f3, _, _, _, rfl⟩
end K05
end

section
set_option Elab.async false
set_option linter.all false
set_option maxRecDepth 100000
set_option maxHeartbeats 1000000
set_option exponentiation.threshold 20000
namespace K05
open PySem PySem.Spec L2 Dl
local macro_rules | `(tactic| walk_at "dl") => `(tactic| simp (disch := first | assumption | exact get_new | (refine get_app ?_; first | assumption | exact get_new | (refine get_app ?_; first | assumption | exact get_new)) | (refine get_set ?_; assumption) | exact atI_0 | exact atI_1 | exact atI_2 | exact ok_lex | exact ok_degree | exact ok_back | exact ok_blocks | exact ok_weights) only [
  e_cB, e_fB, e_dnew, e_dget, e_din, vt_din, e_dget2, e_dpop, e_sortp, x_dput, w_isT, w_din, w_dget2, w_dget, w_dput, w_dpop, w_fr0, w_fr1, e_var, e_int, e_bl, e_non, e_str, e_glo, e_tup, e_lst, e_op, e_neg, e_not, e_and, e_or, e_cmp, e_chain, e_ite, e_ix, e_sl, e_rev, e_call, e_bi, e_me, e_isi, e_isis, e_comp, e_tupr, e_lstr, e_nil, e_cons, e_ono, e_oso, e_cno, e_cso, vt_and, vt_or, vt_not, vt_cmp, vt_chain, vt_var, vt_bl, vt_call, vt_bi, vt_isi, vt_isis, vi_seq, vi_rng1, vi_rng2, vi_zip, vg_nm, vg_tp, vg_ixs, gs_nil, gs_cons, x_asg, x_par, x_aug, x_expr, x_ret, x_retN, x_ite, x_for, x_whl, x_pass, x_brk, x_cnt, xs_nil, k_one, k_cons, k_rt, k_bk, k_ct, r_nx, r_rt, w_neg, w_tupr, w_lstr,
  TGs.len, wq_pure, List.getElem?_cons_zero, List.getElem?_cons_succ, List.set_cons_zero, List.set_cons_succ, List.length_cons, List.length_nil, List.length_map, if_true, Bool.false_eq_true, if_false, startE, List.map_cons, List.map_nil, List.replicate, List.cons_append, List.nil_append, wipeE, Nat.zero_add, Nat.reduceAdd, Nat.reduceSub, true_and,
  w_getL_ref, w_getS_ref, w_getL_ro, w_getS_ro, w_getS_tup, w_add, w_sub, w_mul, w_addT, w_addL, w_mulL, w_fdiv, w_mod, w_pow, w_shl, w_lt, w_le, w_gt, w_ge, w_ltT, w_gtT, w_eq, w_ne, w_isN, w_isnN, w_in, w_nin, w_trB, w_trN, w_trI, w_trT, w_trL, w_lenT, w_lenR, w_lenL, w_sumT, w_sumL, w_int, w_intB, w_tupL, w_listL, w_listT, w_append, w_pop, w_reverse, w_isL, w_revT, w_asInt, w_slR, w_srcT, w_srcR, w_srcL, w_rng, w_zipT, w_unpkT, w_unpkL, w_eqB, w_eqT, w_eqI, w_ixT, w_eqS, w_eqTS, Bool.not_true, Bool.not_false, decide_true, decide_false, wd_lex_lex, wd_lex_degree, wd_lex_back, wd_lex_blocks, wd_lex_weights, wd_degree_lex, wd_degree_degree, wd_degree_back, wd_degree_blocks, wd_degree_weights, wd_back_lex, wd_back_degree, wd_back_back, wd_back_blocks, wd_back_weights, wd_blocks_lex, wd_blocks_degree, wd_blocks_back, wd_blocks_blocks, wd_blocks_weights, wd_weights_lex, wd_weights_degree, wd_weights_back, wd_weights_blocks, wd_weights_weights])
local macro_rules | `(tactic| walk_at "nx") => `(tactic| (rw [k_nx]; try walk_at "dl"))
local macro_rules | `(tactic| walk_at "cj") => `(tactic| repeat refine And.intro (by first | decide | exact lens_of (by decide) | exact lens_of (by simp) | simp) ?_)
local macro_rules | `(tactic| walk_at "cd") => `(tactic| repeat refine And.intro (by decide) ?_)
theorem Sm.fr (q : Rat) : Sm 1 (frQ q) := Sm.ints (e := [q.num, q.den]) (by simp)
/-- a drawn polynomial -/
structure Dp5 (m : Nat) (o : Od) (b M c : Nat) (f : Tb) : Prop where
  can : ∃ F, Can (pkey o) F f
  mb : Mb m b 6 M f
  len : f.length ≤ c
  ne : f ≠ []
/-- a row whose value is not too great -/
structure Py (m : Nat) (o : Od) (L : Tb) : Prop where
  ex : ∃ F N M, Can (pkey o) F L ∧ Mb m 9 N M L ∧ N < 2 ^ 27 ∧ M < 2 ^ 27
  len : L.length ≤ 27
theorem Py.of {m : Nat} {o : Od} {b : Int} {N M c : Nat} {F : List Int → Rat} {L : Tb} (h : PO m o b N M c F L) (hb : b ≤ 9) (hN : N < 2 ^ 27) (hM : M < 2 ^ 27) (hc : c ≤ 27) : Py m o L := ⟨⟨F, N, M, h.can, Mb.mono h.ok hb (Nat.le_refl _), hN, hM⟩, Nat.le_trans h.len hc⟩
theorem Py.vb {m : Nat} {o : Od} {L : Tb} (h : Py m o L) : Vb m 27 9 L := by
  obtain ⟨F, N, M, _, h2, h3, h4⟩ := h.ex
  exact Mb.vb h2 h3 h4
theorem values_fit_wq {n m : Nat} {o : Od} {f g : Tb} {qs : List Rat} {S : Store} {Q : D → Store → Prop} (ho : o.ok m) (hm : 0 < m) (hm' : m ≤ 3) (df : Dp5 m o 3 54 3 f) (dg : Dp5 m o 2 72 4 g) (hq : ∀ q ∈ qs, Bt 3 q) (hql : qs.length = m)
    (h : ∀ S', Fr [] S S' → Q (.bl true) S') : wq (call gl fds (n + 9) f__law_values_fit [.tup [.int m, o.d], polyD f, polyD g, .tup (qs.map frQ)]) Q S := by
  rw [wq_call (fd := d__law_values_fit) rfl rfl]
  dsimp only [d__law_values_fit]
  unfold b__law_values_fit
  obtain ⟨F, cf⟩ := df.can
  obtain ⟨G, cg⟩ := dg.can
  have lf := df.len
  have lg := dg.len
  have vf : Vb m 7 3 f := Mb.vb df.mb (by decide) (by decide)
  have vg : Vb m 7 2 g := Mb.vb dg.mb (by decide) (by decide)
  walk_at "dl"
  refine value_at_wq (bq := 3) (by omega) (by decide) (by decide) vf (by omega) hq (by decide) hql (by
    have : (7 + m + 3 * (3 : Int).toNat + 1) * (f.length + 1) ≤ 20 * 4 := Nat.mul_le_mul (by simp; omega) (by omega)
    omega) ?_
  walk_at "cd"
  walk_at "nx"
  refine value_at_wq (bq := 3) (by omega) (by decide) (by decide) vg (by omega) hq (by decide) hql (by
    have : (7 + m + 3 * (2 : Int).toNat + 1) * (g.length + 1) ≤ 20 * 5 := Nat.mul_le_mul (by simp; omega) (by omega)
    omega) ?_
  walk_at "cd"
  have ba : Bt 100 (evT qs f) := (evT_bt hq (by decide) vf).mono (by
    have : (7 + m + 3 * (3 : Int).toNat + 1) * f.length ≤ 20 * 3 := Nat.mul_le_mul (by simp; omega) (by omega)
    omega)
  have bb : Bt 100 (evT qs g) := (evT_bt hq (by decide) vg).mono (by
    have : (7 + m + 3 * (2 : Int).toNat + 1) * g.length ≤ 20 * 4 := Nat.mul_le_mul (by simp; omega) (by omega)
    omega)
  have fcan := can_eq cf
  generalize ha : evT qs f = a at *
  generalize hb : evT qs g = b at *
  have sa := ba.sz (by decide)
  have sb := bb.sz (by decide)
  walk_at "nx"
  refine plus_wq sa sb ?_
  refine minus_wq sa sb ?_
  refine product_wq sa sb ?_
  walk_at "cd"
  have b32 : Bd 2 3 (⟨-3, 2, by decide, by decide⟩ : Rat) := ⟨by decide, -3, by decide +kernel, by decide⟩
  refine product_wq (q := ⟨-3, 2, by decide, by decide⟩) sa (Sz.of b32 (by decide) (by decide)) ?_
  walk_at "cd"
  have g6 := get_new (S := S) (o := .lst [frQ (a + b), frQ (a - b), frQ (a * b), frQ (a * ⟨-3, 2, by decide, by decide⟩)])
  have f6 := Fr.new (.refl (L := []) (S := S)) (.lst [frQ (a + b), frQ (a - b), frQ (a * b), frQ (a * ⟨-3, 2, by decide, by decide⟩)])
  have hl6 : S.length ≤ S.length := Nat.le_refl _
  generalize hr6 : S.length = r6 at g6 ⊢
  have hr6' : S.length ≤ r6 := Nat.le_of_eq hr6
  generalize (S ++ [Ob.lst [frQ (a + b), frQ (a - b), frQ (a * b), frQ (a * ⟨-3, 2, by decide, by decide⟩)]]) = S6 at *
  walk_at "nx"
  refine product_wq sa sa ?_
  refine product_wq sa ((ba.mul ba).sz (by decide)) ?_
  rw [w_append g6]
  refine ⟨(show (4 : Nat) < sizeLine by decide), ?_⟩
  have g7 := get_set (o := .lst [frQ (a + b), frQ (a - b), frQ (a * b), frQ (a * ⟨-3, 2, by decide, by decide⟩), frQ (a * (a * a))]) g6
  have f7 := f6.set (.lst [frQ (a + b), frQ (a - b), frQ (a * b), frQ (a * ⟨-3, 2, by decide, by decide⟩), frQ (a * (a * a))]) (.inr hr6')
  rw [show [frQ (a + b), frQ (a - b), frQ (a * b), frQ (a * ⟨-3, 2, by decide, by decide⟩)] ++ [frQ (a * (a * a))] = [frQ (a + b), frQ (a - b), frQ (a * b), frQ (a * ⟨-3, 2, by decide, by decide⟩), frQ (a * (a * a))] from rfl]
  generalize (S6.set r6 (Ob.lst [frQ (a + b), frQ (a - b), frQ (a * b), frQ (a * ⟨-3, 2, by decide, by decide⟩), frQ (a * (a * a))])) = S7 at *
  clear g6 f6
  walk_at "nx"
  have mf72 : Mb m 3 6 72 f := df.mb.mono (by decide) (by decide)
  have mg72 : Mb m 3 6 72 g := dg.mb.mono (by decide) (by decide)
  have h8 : (f.length + g.length + 1) * 72 < 2 ^ 3900 := Nat.lt_of_le_of_lt (Nat.mul_le_mul_right 72 (show f.length + g.length + 1 ≤ 8 by omega)) (by decide)
  have pl : (prodT f g).length ≤ 12 := by rw [prod_len]; exact Nat.mul_le_mul lf lg
  have h13 : ((prodT f g).length + 1) * (54 * 72) < 2 ^ 3900 := Nat.lt_of_le_of_lt (Nat.mul_le_mul_right (54 * 72) (show (prodT f g).length + 1 ≤ 13 by omega)) (by decide)
  refine add_poly_wq ho hm (by omega) (by decide) mf72 mg72 (by omega) (by decide) h8 fun A S8 pA f8 => ?_
  refine subtract_poly_wq ho hm (by omega) (by decide) mf72 mg72 (by omega) (by decide) h8 fun B S9 pB f9 => ?_
  refine multiply_poly_wq ho hm (by omega) (by decide) df.mb dg.mb (by decide) (by decide) (by decide) (by decide) (by decide) h13 (by omega) fun C S10 pC f10 => ?_
  walk_at "cd"
  refine scale_poly_wq (q := ⟨-3, 2, by decide, by decide⟩) df.mb b32 (by omega) (by decide) (by decide) (by decide) (by decide) fun S11 f11 => ?_
  walk_at "cd"
  have pyA : Py m o A := Py.of pA (by decide) (by decide) (Nat.lt_of_le_of_lt (Nat.mul_le_mul_right 72 (show f.length + g.length ≤ 7 by omega)) (by decide)) (by omega)
  have sl := scale_len g (-1)
  have pyB : Py m o B := Py.of pB (by decide) (by decide) (Nat.lt_of_le_of_lt (Nat.mul_le_mul_right 72 (show f.length + (scaleT g (-1)).length ≤ 7 by omega)) (by decide)) (by omega)
  have pyC : Py m o C := Py.of pC (by decide) (by decide) (Nat.lt_of_le_of_lt (Nat.mul_le_mul_right (54 * 72) pl) (by decide)) (by omega)
  have sl2 := scale_len f ⟨-3, 2, by decide, by decide⟩
  have pyD : Py m o (scaleT f ⟨-3, 2, by decide, by decide⟩) := ⟨⟨_, _, _, can_scale cf _, Mb.mono (Mb.scale df.mb b32) (by decide) (Nat.le_refl _), by decide, by decide⟩, by omega⟩
  have eA : evT qs A = a + b := by rw [evT_eq qs (can_eq pA.can), evT_app, ha, hb]
  have eB : evT qs B = a - b := by
    rw [evT_eq qs (can_eq pB.can), evT_app, evT_scale, ha, hb]
    grind
  have eC : evT qs C = a * b := by rw [evT_eq qs (can_eq pC.can), evT_prod qs df.mb.nn dg.mb.nn, ha, hb]
  have eD : evT qs (scaleT f ⟨-3, 2, by decide, by decide⟩) = a * ⟨-3, 2, by decide, by decide⟩ := by rw [evT_scale, ha]
  generalize scaleT f ⟨-3, 2, by decide, by decide⟩ = D4 at *
  have f11' := f7.trans (f8.trans (f9.trans (f10.trans f11)))
  have g7' := (f8.trans (f9.trans (f10.trans f11))).get _ _ (by simp) g7
  have g12 := get_new (S := S11) (o := .lst [polyD A, polyD B, polyD C, polyD D4])
  have g7'' := get_app (o := .lst [polyD A, polyD B, polyD C, polyD D4]) g7'
  have f12 := f11'.new (.lst [polyD A, polyD B, polyD C, polyD D4])
  have hle := f11'.le
  have hlt := lt_of_get g7'
  generalize hr12 : S11.length = r12 at *
  generalize (S11 ++ [Ob.lst [polyD A, polyD B, polyD C, polyD D4]]) = S12 at *
  clear f8 f9 f10 f11 f11' g7 g7'
  walk_at "nx"
  refine power_poly_wq pw_f ho hm (by omega) df.mb (by decide) lf (by decide) (by decide) fun E S13 okE f13 => ?_
  have pyE : Py m o E := ⟨⟨_, _, _, okE.can, okE.mb, by decide, by decide +kernel⟩, okE.len⟩
  have eE : evT qs E = a * (a * a) := by
    rw [evT_eq qs (can_eq okE.can), evT_pow qs df.mb.nn, ha]
    show 1 * a * a * a = a * (a * a)
    grind
  have g13 := f13.get _ _ (by simp) g12
  have g13b := f13.get _ _ (by simp) g7''
  rw [w_append g13]
  refine ⟨(show (4 : Nat) < sizeLine by decide), ?_⟩
  rw [show [polyD A, polyD B, polyD C, polyD D4] ++ [polyD E] = [A, B, C, D4, E].map polyD from rfl]
  have g14 := get_set (o := .lst ([A, B, C, D4, E].map polyD)) g13
  have g14b := (show (S13.set r12 (Ob.lst ([A, B, C, D4, E].map polyD)))[r6]? = S13[r6]? from List.getElem?_set_ne (by omega)).trans g13b
  have f14 := (f12.trans f13).set (.lst ([A, B, C, D4, E].map polyD)) (.inr hle)
  generalize (S13.set r12 (Ob.lst ([A, B, C, D4, E].map polyD))) = S14 at *
  clear g12 g13 g13b f13 f12 g7''
  have all : ∀ L ∈ [A, B, C, D4, E], Py m o L := fun L hL => by
    simp only [List.mem_cons, List.not_mem_nil, or_false] at hL
    rcases hL with rfl | rfl | rfl | rfl | rfl
    · exact pyA
    · exact pyB
    · exact pyC
    · exact pyD
    · exact pyE
  have hxs : [A, B, C, D4, E].length = 5 := rfl
  have hvals : ([A, B, C, D4, E].map fun L => frQ (evT qs L)) = [frQ (a + b), frQ (a - b), frQ (a * b), frQ (a * ⟨-3, 2, by decide, by decide⟩), frQ (a * (a * a))] := by
    simp only [List.map_cons, List.map_nil, eA, eB, eC, eD, eE]
  generalize [A, B, C, D4, E] = xs at *
  walk_at "nx"
  refine compL_tot (e := polyD) (fun _ => D.bl true) (by omega) (fun S' a => Gd_ref (a.get _ _ (by simp) g14)) (fun L hL S' a => ?_) fun S15 f15 => ?_
  · obtain ⟨⟨FL, NL, ML, c1, c2, c3, c4⟩, c5⟩ := all L hL
    walk_at "dl"
    refine ⟨by decide, ?_⟩
    exact is_poly_wq ho hm (by omega) (by decide) c1 c2 (by omega) (pow_le c3 (by decide)) (pow_le c4 (by decide)) fun S2 f2 => ⟨rfl, f2⟩
  · try walk_at "dl"
    have e2 : (xs.map fun _ => D.bl true) = (xs.map fun _ => true).map .bl := by rw [List.map_map]; rfl
    rw [e2, inF_bls, flat_bls]
    refine ⟨rfl, ?_⟩
    rw [if_neg (by simp)]
    have g16 := get_app (o := .lst ((xs.map fun _ => true).map .bl)) (f15.get _ _ (by simp) g14)
    have g16b := get_app (o := .lst ((xs.map fun _ => true).map .bl)) (f15.get _ _ (by simp) g14b)
    have f16 := (f14.trans f15).new (.lst ((xs.map fun _ => true).map .bl))
    generalize (S15 ++ [Ob.lst ((xs.map fun _ => true).map .bl)]) = S16 at *
    walk_at "nx"
    refine compL_tot (e := polyD) (fun L => frQ (evT qs L)) (by omega) (fun S' a => Gd_ref (a.get _ _ (by simp) g16)) (fun L hL S' a => ?_) fun S17 f17 => ?_
    · have py := all L hL
      have lL := py.len
      walk_at "dl"
      refine ⟨by decide, ?_⟩
      refine value_at_wq (bq := 3) (by omega) (by decide) (by decide) py.vb (by omega) hq (by decide) hql (by
        have : (27 + m + 3 * (9 : Int).toNat + 1) * (L.length + 1) ≤ 58 * 28 := Nat.mul_le_mul (by simp; omega) (by omega)
        omega) ?_
      exact ⟨rfl, .refl⟩
    · rw [hvals]
      have g17b := get_app (o := .lst [frQ (a + b), frQ (a - b), frQ (a * b), frQ (a * ⟨-3, 2, by decide, by decide⟩), frQ (a * (a * a))]) (f17.get _ _ (by simp) g16b)
      try walk_at "dl"
      refine sameX_wq (n := n + 5) (k := 1) get_new g17b (by simp) (fun x hx => ?_) fun S18 f18 => ?_
      · simp only [List.mem_cons, List.not_mem_nil, or_false] at hx
        rcases hx with rfl | rfl | rfl | rfl | rfl <;> exact ⟨1, by decide, Sm.fr _⟩
      · exact h _ ((f16.trans f17).trans ((Fr.new .refl _).trans f18))
end K05
end

section
set_option Elab.async false
set_option linter.all false
set_option maxRecDepth 100000
set_option maxHeartbeats 1000000
set_option exponentiation.threshold 20000
namespace K05
open PySem PySem.Spec L2 Dl
local macro_rules | `(tactic| walk_at "dl") => `(tactic| simp (disch := first | assumption | exact get_new | (refine get_app ?_; first | assumption | exact get_new | (refine get_app ?_; first | assumption | exact get_new)) | (refine get_set ?_; assumption) | exact atI_0 | exact atI_1 | exact atI_2 | exact ok_lex | exact ok_degree | exact ok_back | exact ok_blocks | exact ok_weights) only [
  e_cB, e_fB, e_dnew, e_dget, e_din, vt_din, e_dget2, e_dpop, e_sortp, x_dput, w_isT, w_din, w_dget2, w_dget, w_dput, w_dpop, w_fr0, w_fr1, e_var, e_int, e_bl, e_non, e_str, e_glo, e_tup, e_lst, e_op, e_neg, e_not, e_and, e_or, e_cmp, e_chain, e_ite, e_ix, e_sl, e_rev, e_call, e_bi, e_me, e_isi, e_isis, e_comp, e_tupr, e_lstr, e_nil, e_cons, e_ono, e_oso, e_cno, e_cso, vt_and, vt_or, vt_not, vt_cmp, vt_chain, vt_var, vt_bl, vt_call, vt_bi, vt_isi, vt_isis, vi_seq, vi_rng1, vi_rng2, vi_zip, vg_nm, vg_tp, vg_ixs, gs_nil, gs_cons, x_asg, x_par, x_aug, x_expr, x_ret, x_retN, x_ite, x_for, x_whl, x_pass, x_brk, x_cnt, xs_nil, k_one, k_cons, k_rt, k_bk, k_ct, r_nx, r_rt, w_neg, w_tupr, w_lstr,
  TGs.len, wq_pure, List.getElem?_cons_zero, List.getElem?_cons_succ, List.set_cons_zero, List.set_cons_succ, List.length_cons, List.length_nil, List.length_map, if_true, Bool.false_eq_true, if_false, startE, List.map_cons, List.map_nil, List.replicate, List.cons_append, List.nil_append, wipeE, Nat.zero_add, Nat.reduceAdd, Nat.reduceSub, true_and,
  w_getL_ref, w_getS_ref, w_getL_ro, w_getS_ro, w_getS_tup, w_add, w_sub, w_mul, w_addT, w_addL, w_mulL, w_fdiv, w_mod, w_pow, w_shl, w_lt, w_le, w_gt, w_ge, w_ltT, w_gtT, w_eq, w_ne, w_isN, w_isnN, w_in, w_nin, w_trB, w_trN, w_trI, w_trT, w_trL, w_lenT, w_lenR, w_lenL, w_sumT, w_sumL, w_int, w_intB, w_tupL, w_listL, w_listT, w_append, w_pop, w_reverse, w_isL, w_revT, w_asInt, w_slR, w_srcT, w_srcR, w_srcL, w_rng, w_zipT, w_unpkT, w_unpkL, w_eqB, w_eqT, w_eqI, w_ixT, w_eqS, w_eqTS, Bool.not_true, Bool.not_false, decide_true, decide_false, wd_lex_lex, wd_lex_degree, wd_lex_back, wd_lex_blocks, wd_lex_weights, wd_degree_lex, wd_degree_degree, wd_degree_back, wd_degree_blocks, wd_degree_weights, wd_back_lex, wd_back_degree, wd_back_back, wd_back_blocks, wd_back_weights, wd_blocks_lex, wd_blocks_degree, wd_blocks_back, wd_blocks_blocks, wd_blocks_weights, wd_weights_lex, wd_weights_degree, wd_weights_back, wd_weights_blocks, wd_weights_weights])
local macro_rules | `(tactic| walk_at "nx") => `(tactic| (rw [k_nx]; try walk_at "dl"))
local macro_rules | `(tactic| walk_at "cj") => `(tactic| repeat refine And.intro (by first | decide | exact lens_of (by decide) | exact lens_of (by simp) | simp) ?_)
local macro_rules | `(tactic| walk_at "cd") => `(tactic| repeat refine And.intro (by decide) ?_)
theorem mem_bf (p : List Int × Rat) : (memD p).bf = true ∧ (memD p).dp ≤ 64 := by
  have e : memD p = .tup [.tup (p.1.map .int), .tup ([p.2.num, (p.2.den : Int)].map .int)] := rfl
  rw [e]
  constructor
  · simp only [D.bf, D.bfs, bfs_ints, Bool.and_self]
  · simp only [D.dp, D.dps, dps_ints]
    decide
theorem mem_ne {p q : List Int × Rat} (h : p.1 ≠ q.1) : memD p ≠ memD q := fun z => by
  have z : D.tup [.tup (p.1.map .int), frQ p.2] = D.tup [.tup (q.1.map .int), frQ q.2] := z
  injection z with z
  injection z with z _
  injection z with z
  exact h (map_int_inj.mp z)
theorem scale_back {f : Tb} {q : Rat} (h : q ≠ 0) : scaleT (scaleT f (1 / q)) q = f := by
  have h1 : ¬ (1 / q = 0) := by
    intro z
    apply h
    have : q * (1 / q) = 1 := by grind
    rw [z] at this
    grind
  unfold scaleT
  rw [if_neg h1, if_neg h, List.map_map]
  conv => rhs; rw [← List.map_id f]
  refine List.map_congr_left fun p _ => ?_
  show (p.1, p.2 * (1 / q) * q) = p
  have : p.2 * (1 / q) * q = p.2 := by grind
  rw [this]
theorem heads_fit_wq {n m : Nat} {o : Od} {f g : Tb} {S : Store} {Q : D → Store → Prop} (ho : o.ok m) (hm : 0 < m) (hm' : m ≤ 3) (df : Dp5 m o 3 54 3 f) (dg : Dp5 m o 2 72 4 g)
    (h : ∀ S', Fr [] S S' → Q (.bl true) S') : wq (call gl fds (n + 9) f__law_heads_fit [.tup [.int m, o.d], polyD f, polyD g]) Q S := by
  rw [wq_call (fd := d__law_heads_fit) rfl rfl]
  dsimp only [d__law_heads_fit]
  unfold b__law_heads_fit
  obtain ⟨F, cf⟩ := df.can
  obtain ⟨G, cg⟩ := dg.can
  have lf := df.len
  have lg := dg.len
  have f0 := df.ne
  have g0 := dg.ne
  have mf := df.mb
  have mg := dg.mb
  clear df dg
  have pl : (prodT f g).length ≤ 12 := by rw [prod_len]; exact Nat.mul_le_mul lf lg
  have h13 : ((prodT f g).length + 1) * (54 * 72) < 2 ^ 3900 := Nat.lt_of_le_of_lt (Nat.mul_le_mul_right (54 * 72) (show (prodT f g).length + 1 ≤ 13 by omega)) (by decide)
  walk_at "dl"
  refine multiply_poly_wq ho hm (by omega) (by decide) mf mg (by decide) (by decide) (by decide) (by decide) (by decide) h13 (by omega) fun W S1 pW f1 => ?_
  have hdeg := deg_prod cf cg mf.nn mg.nn f0 g0 pW.can (Mb.ln pW.ok)
  cases f with
  | nil => exact absurd rfl f0
  | cons p0 f =>
  cases g with
  | nil => exact absurd rfl g0
  | cons q0 g =>
  obtain ⟨rest, rfl⟩ := head_prod cf cg mf.ln mg.ln pW.can
  have lW := pW.len
  obtain ⟨gp0, bp0⟩ := mf p0 (by simp)
  obtain ⟨gq0, bq0⟩ := mg q0 (by simp)
  have hp0 := (cf.mem p0 (by simp)).2
  walk_at "cd"
  walk_at "nx"
  refine head_wq ?_
  walk_at "cd"
  walk_at "nx"
  refine head_wq ?_
  walk_at "cd"
  walk_at "nx"
  rw [show memD p0 = .tup [.tup (p0.1.map .int), frQ p0.2] from rfl, show memD q0 = .tup [.tup (q0.1.map .int), frQ q0.2] from rfl]
  try walk_at "dl"
  refine joined_wq (by have := gp0.len; omega) (by rw [gp0.len, gq0.len]) fun S2 f2 => ?_
  try walk_at "dl"
  refine product_wq (Sz.of bp0 (by decide) (by decide)) (Sz.of bq0 (by decide) (by decide)) ?_
  walk_at "cd"
  walk_at "nx"
  refine head_wq ?_
  rw [show D.tup [.tup ((List.zipWith (· + ·) p0.1 q0.1).map .int), frQ (p0.2 * q0.2)] = memD (addE p0.1 q0.1, p0.2 * q0.2) from rfl]
  refine same_wq (n := n + 5) 2 (Sm.mem pW.ok (by omega) (by simp)) fun S3 f3 => ?_
  try walk_at "dl"
  refine degree_of_wq pW.ok (by omega) fun S4 f4 => ?_
  refine degree_of_wq mf (by omega) fun S5 f5 => ?_
  refine degree_of_wq mg (by omega) fun S6 f6 => ?_
  try walk_at "dl"
  rw [hdeg]
  refine same_wq (n := n + 7) 0 ⟨_, rfl⟩ fun S7 f7 => ?_
  have fr7 := f1.trans (f2.trans (f3.trans (f4.trans (f5.trans (f6.trans f7)))))
  clear f1 f2 f3 f4 f5 f6 f7
  try walk_at "dl"
  walk_at "nx"
  rw [show wq (seqSrc (polyD (p0 :: f))) _ S7 = _ from by unfold polyD; exact w_srcT]
  refine compL_tot (e := memD) (xs := p0 :: f) (fun _ => D.bl true) (by omega) (fun _ _ => Gd_none) (fun p hp S' a => ?_) fun S8 f8 => ?_
  · obtain ⟨pe, pq⟩ := p
    have gp := (mf _ hp).1
    dsimp only at gp
    rw [show memD (pe, pq) = .tup [.tup (pe.map .int), frQ pq] from rfl]
    walk_at "dl"
    refine ⟨by decide, ?_⟩
    refine compare_wq ho (by omega) gp0.len gp.len (gp0.k (by decide)) (gp.k (by decide)) fun S9 f9 => ?_
    try walk_at "dl"
    rw [show D.tup [.tup (pe.map .int), frQ pq] = memD (pe, pq) from rfl]
    rw [w_eqD (mem_bf _).1 (mem_bf _).1 (mem_bf _).2 (mem_bf _).2]
    try walk_at "dl"
    have key : (if pkey o p0.1 = pkey o pe then (0 : Int) else if pkey o p0.1 < pkey o pe then -1 else 1) = if (!decide (memD (pe, pq) = memD p0)) = true then 1 else 0 := by
      rcases List.mem_cons.mp hp with e | hp
      · rw [← e, if_pos rfl, decide_eq_true rfl]
        rfl
      · have lt := (List.pairwise_cons.mp cf.desc).1 _ hp
        dsimp only at lt
        have ne : pe ≠ p0.1 := fun z => by
          rw [z] at lt
          exact List.lt_irrefl _ lt
        rw [if_neg (fun z => by rw [z] at lt; exact List.lt_irrefl _ lt), if_neg (fun z => List.lt_irrefl _ (List.lt_trans lt z)), decide_eq_false (mem_ne (p := (pe, pq)) ne)]
        rfl
    rw [key]
    exact same_wq (n := n + 7) 0 ⟨_, rfl⟩ fun S10 f10 => ⟨rfl, f9.trans f10⟩
  · have e2 : ((p0 :: f).map fun _ => D.bl true) = ((p0 :: f).map fun _ => true).map .bl := by rw [List.map_map]; rfl
    rw [e2, inF_bls, flat_bls]
    refine ⟨rfl, ?_⟩
    rw [if_neg (by simp)]
    have f9 := (fr7.trans f8).new (.lst (((p0 :: f).map fun _ => true).map .bl))
    generalize (S8 ++ [Ob.lst (((p0 :: f).map fun _ => true).map .bl)]) = S9 at *
    walk_at "nx"
    rw [show D.tup (memD p0 :: f.map memD) = polyD (p0 :: f) from rfl]
    refine made_first_wq mf (by omega) (by decide) (by decide) hp0 fun S10 f10 => ?_
    try walk_at "dl"
    have m1 := Mb.scale mf (Bd.inv hp0)
    have hn := bp0.num
    have hd := bp0.den.2
    have sl := scale_len (p0 :: f) (1 / p0.2)
    refine scale_poly_wq m1 bp0 (by omega) (Nat.lt_of_le_of_lt (Nat.mul_le_mul_left 6 hn) (by decide)) (by decide) (Nat.lt_of_le_of_lt (Nat.mul_le_mul_left 54 hd) (by decide)) (by decide) fun S11 f11 => ?_
    rw [scale_back hp0]
    try walk_at "dl"
    exact same_wq (n := n + 4) 3 (Sm.poly mf (by omega) (by omega)) fun S12 f12 => h _ (f9.trans (f10.trans (f11.trans f12)))
end K05
end

section
set_option Elab.async false
set_option linter.all false
set_option maxRecDepth 100000
set_option maxHeartbeats 1000000
set_option exponentiation.threshold 20000
namespace K05
open PySem PySem.Spec L2 Dl
local macro_rules | `(tactic| walk_at "dl") => `(tactic| simp (disch := first | assumption | exact get_new | (refine get_app ?_; first | assumption | exact get_new | (refine get_app ?_; first | assumption | exact get_new)) | (refine get_set ?_; assumption) | exact atI_0 | exact atI_1 | exact atI_2 | exact ok_lex | exact ok_degree | exact ok_back | exact ok_blocks | exact ok_weights) only [
  e_cB, e_fB, e_dnew, e_dget, e_din, vt_din, e_dget2, e_dpop, e_sortp, x_dput, w_isT, w_din, w_dget2, w_dget, w_dput, w_dpop, w_fr0, w_fr1, e_var, e_int, e_bl, e_non, e_str, e_glo, e_tup, e_lst, e_op, e_neg, e_not, e_and, e_or, e_cmp, e_chain, e_ite, e_ix, e_sl, e_rev, e_call, e_bi, e_me, e_isi, e_isis, e_comp, e_tupr, e_lstr, e_nil, e_cons, e_ono, e_oso, e_cno, e_cso, vt_and, vt_or, vt_not, vt_cmp, vt_chain, vt_var, vt_bl, vt_call, vt_bi, vt_isi, vt_isis, vi_seq, vi_rng1, vi_rng2, vi_zip, vg_nm, vg_tp, vg_ixs, gs_nil, gs_cons, x_asg, x_par, x_aug, x_expr, x_ret, x_retN, x_ite, x_for, x_whl, x_pass, x_brk, x_cnt, xs_nil, k_one, k_cons, k_rt, k_bk, k_ct, r_nx, r_rt, w_neg, w_tupr, w_lstr,
  TGs.len, wq_pure, List.getElem?_cons_zero, List.getElem?_cons_succ, List.set_cons_zero, List.set_cons_succ, List.length_cons, List.length_nil, List.length_map, if_true, Bool.false_eq_true, if_false, startE, List.map_cons, List.map_nil, List.replicate, List.cons_append, List.nil_append, wipeE, Nat.zero_add, Nat.reduceAdd, Nat.reduceSub, true_and,
  w_getL_ref, w_getS_ref, w_getL_ro, w_getS_ro, w_getS_tup, w_add, w_sub, w_mul, w_addT, w_addL, w_mulL, w_fdiv, w_mod, w_pow, w_shl, w_lt, w_le, w_gt, w_ge, w_ltT, w_gtT, w_eq, w_ne, w_isN, w_isnN, w_in, w_nin, w_trB, w_trN, w_trI, w_trT, w_trL, w_lenT, w_lenR, w_lenL, w_sumT, w_sumL, w_int, w_intB, w_tupL, w_listL, w_listT, w_append, w_pop, w_reverse, w_isL, w_revT, w_asInt, w_slR, w_srcT, w_srcR, w_srcL, w_rng, w_zipT, w_unpkT, w_unpkL, w_eqB, w_eqT, w_eqI, w_ixT, w_eqS, w_eqTS, Bool.not_true, Bool.not_false, decide_true, decide_false, wd_lex_lex, wd_lex_degree, wd_lex_back, wd_lex_blocks, wd_lex_weights, wd_degree_lex, wd_degree_degree, wd_degree_back, wd_degree_blocks, wd_degree_weights, wd_back_lex, wd_back_degree, wd_back_back, wd_back_blocks, wd_back_weights, wd_blocks_lex, wd_blocks_degree, wd_blocks_back, wd_blocks_blocks, wd_blocks_weights, wd_weights_lex, wd_weights_degree, wd_weights_back, wd_weights_blocks, wd_weights_weights])
local macro_rules | `(tactic| walk_at "nx") => `(tactic| (rw [k_nx]; try walk_at "dl"))
local macro_rules | `(tactic| walk_at "cj") => `(tactic| repeat refine And.intro (by first | decide | exact lens_of (by decide) | exact lens_of (by simp) | simp) ?_)
local macro_rules | `(tactic| walk_at "cd") => `(tactic| repeat refine And.intro (by decide) ?_)
theorem turned2_wq {n m : Nat} {o o2 : Od} {b : Int} {N M c : Nat} {F : List Int → Rat} {f : Tb} {S : Store} {Q : D → Store → Prop} (ho : o2.ok m) (hm : 0 < m) (hm' : m ≤ 10) (hb : b ≤ 1000) (po : PO m o b N M c F f) (hc : c ≤ 1000)
    (h : ∀ L S', PO m o2 b N M c F L → Fr [] S S' → Q (polyD L) S') : wq (call gl fds (n + 5) f_turned_poly [.tup [.int m, o2.d], polyD f]) Q S := by
  refine turned_wq ho hm hm' hb po hc fun L S' cL f' => h L S' ⟨cL, fun p hp => ?_, ?_⟩ f'
  · obtain ⟨e1, e2⟩ := cL.mem p hp
    have := po.can.all p.1 (by rw [← e1]; exact e2)
    rw [← e1] at this
    exact po.ok p this
  · refine Nat.le_trans ?_ po.len
    have sub : ∀ p ∈ L.map (·.1), p ∈ f.map (·.1) := fun e he => by
      obtain ⟨p, hp, rfl⟩ := List.mem_map.mp he
      obtain ⟨e1, e2⟩ := cL.mem p hp
      have := po.can.all p.1 (by rw [← e1]; exact e2)
      exact List.mem_map.mpr ⟨_, this, rfl⟩
    have := List.Nodup.length_le_of_subset cL.nodup (fun x hx => sub x hx)
    simpa using this
theorem sumT_scale (q : Rat) (e : List Int) : ∀ A : Tb, sumT (scaleT A q) e = sumT A e * q := by
  intro A
  unfold scaleT
  split
  · rename_i h
    subst h
    show (0 : Rat) = sumT A e * 0
    grind
  · induction A with
    | nil => show (0 : Rat) = 0 * q; grind
    | cons p A ih =>
      simp only [List.map_cons, sumT, ih]
      by_cases c : e = p.1
      · simp only [if_pos c]; grind
      · simp only [if_neg c]; grind
def unitK (m i k : Nat) : List Int := (List.range m).map fun j => if j = i then (k : Int) else 0
theorem unitK_add (m i k : Nat) : addE (unitK m i k) (unitE m i) = unitK m i (k + 1) := by
  refine List.ext_getElem (by simp [unitK, unitE]) fun j h1 h2 => ?_
  simp only [unitK, unitE, List.getElem_zipWith, List.getElem_map, List.getElem_range]
  by_cases c : j = i
  · simp only [if_pos c]; omega
  · simp only [if_neg c]; omega
theorem unitK_zero (m i : Nat) : unitK m i 0 = zer m := by
  refine List.ext_getElem (by simp [unitK]) fun j h1 h2 => ?_
  simp only [unitK, List.getElem_map, List.getElem_range, List.getElem_replicate]
  split <;> rfl
theorem pow_unit (m i : Nat) : ∀ k, powT m [(unitE m i, 1)] k = [(unitK m i k, 1)]
  | 0 => by
    show constT m 1 = _
    rw [const_one, unitK_zero]
  | k + 1 => by
    show prodT (powT m [(unitE m i, 1)] k) [(unitE m i, 1)] = _
    rw [pow_unit m i k, ← unitK_add]
    show [(addE (unitK m i k) (unitE m i), (1 : Rat) * 1)] = _
    rw [Rat.mul_one]
def units (m : Nat) : List Tb := (List.range m).map fun i => [(unitE m i, 1)]
theorem part_units {m : Nat} {e : List Int} (hl : e.length = m) (hn : ∀ x ∈ e, 0 ≤ x) (c : Rat) : ∀ j, j ≤ m → partTm m [(zer m, c)] (((units m).zip e).take j) = [(e.take j ++ zer (m - j), c)]
  | 0, _ => by simp [partTm]
  | j + 1, h => by
    have ih := part_units hl hn c j (by omega)
    have hz : ((units m).zip e).length = m := by simp [units, hl]
    rw [List.take_succ_eq_append_getElem (by omega), partTm_snoc, ih, List.getElem_zip]
    have hu : (units m)[j]'(by simp [units]; omega) = [(unitE m j, 1)] := by simp [units]
    rw [hu, pow_unit]
    show [(addE (e.take j ++ zer (m - j)) (unitK m j (e[j]'(by omega)).toNat), c * 1)] = _
    rw [Rat.mul_one]
    congr 2
    have hj := hn _ (List.getElem_mem (show j < e.length by omega))
    refine List.ext_getElem (by simp [unitK]; omega) fun t h1 h2 => ?_
    simp only [List.length_append, List.length_take, List.length_replicate] at h2
    simp only [List.getElem_zipWith, unitK, List.getElem_map, List.getElem_range]
    rw [List.getElem_append, List.getElem_append]
    by_cases c1 : t < j
    · rw [dif_pos (by simp; omega), dif_pos (by simp; omega), if_neg (by omega)]
      simp
    · by_cases c2 : t = j
      · subst c2
        rw [dif_neg (by simp; omega), dif_pos (by simp; omega), if_pos rfl]
        simp
        omega
      · rw [dif_neg (by simp; omega), dif_neg (by simp; omega), if_neg c2]
        simp
theorem with_units {m : Nat} {f : Tb} (hn : Nn m f) (h0 : ∀ p ∈ f, p.2 ≠ 0) : withT m (units m) f = f := by
  unfold withT
  induction f with
  | nil => rfl
  | cons p f ih =>
    obtain ⟨h1, h2⟩ := hn p (by simp)
    have hz : ((units m).zip p.1).length = m := by simp [units, h1]
    have key := part_units h1 h2 p.2 m (Nat.le_refl _)
    rw [List.take_of_length_le (by omega), List.take_of_length_le (by omega), Nat.sub_self] at key
    have ec : constT m p.2 = [(zer m, p.2)] := by unfold constT; rw [if_neg (h0 p (by simp))]
    rw [List.flatMap_cons, ih (fun q hq => hn q (List.mem_cons_of_mem _ hq)) (fun q hq => h0 q (List.mem_cons_of_mem _ hq)), ec, key]
    simp
theorem unit_ge {m i : Nat} (hi : i < m) : GE m 1 (unitE m i) := by
  refine ⟨by simp [unitE], fun x hx => ?_, ?_⟩
  · obtain ⟨k, _, rfl⟩ := List.mem_map.mp hx
    split <;> omega
  · have h := sum_one (f := fun k => if k = i then (1 : Int) else 0) (g := fun _ => 0) (x := i) (List.nodup_range (n := m)) (List.mem_range.mpr hi) fun y _ hy => by rw [if_neg hy]
    have hz : ((List.range m).map fun _ => (0 : Int)).sum = 0 := by
      rw [show ((List.range m).map fun _ => (0 : Int)) = List.replicate m 0 by rw [List.map_const']; simp]
      exact sum_rep m
    rw [hz, if_pos rfl] at h
    show ((List.range m).map fun k => if k = i then (1 : Int) else 0).sum ≤ 1
    omega
theorem units_ok (m : Nat) : RowsOk m 1 1 1 (units m) := ⟨fun r hr => by
  obtain ⟨i, hi, rfl⟩ := List.mem_map.mp hr
  refine ⟨fun p hp => ?_, by simp⟩
  rw [List.mem_singleton.mp hp]
  exact ⟨unit_ge (List.mem_range.mp hi), b_one⟩⟩
end K05
end

section
set_option Elab.async false
set_option linter.all false
set_option maxRecDepth 100000
set_option maxHeartbeats 1000000
set_option exponentiation.threshold 20000
namespace K05
open PySem PySem.Spec L2 Dl
local macro_rules | `(tactic| walk_at "dl") => `(tactic| simp (disch := first | assumption | exact get_new | (refine get_app ?_; first | assumption | exact get_new | (refine get_app ?_; first | assumption | exact get_new)) | (refine get_set ?_; assumption) | exact atI_0 | exact atI_1 | exact atI_2 | exact ok_lex | exact ok_degree | exact ok_back | exact ok_blocks | exact ok_weights) only [
  e_cB, e_fB, e_var, e_int, e_bl, e_non, e_str, e_glo, e_tup, e_lst, e_op, e_neg, e_not, e_and, e_or, e_cmp, e_chain, e_ite, e_ix, e_sl, e_rev, e_call, e_bi, e_me, e_isi, e_isis, e_comp, e_tupr, e_lstr, e_nil, e_cons, e_ono, e_oso, e_cno, e_cso, vt_and, vt_or, vt_not, vt_cmp, vt_chain, vt_var, vt_bl, vt_call, vt_bi, vt_isi, vt_isis, vi_seq, vi_rng1, vi_rng2, vi_zip, vg_nm, vg_tp, vg_ixs, gs_nil, gs_cons, x_asg, x_par, x_aug, x_expr, x_ret, x_retN, x_ite, x_for, x_whl, x_pass, x_brk, x_cnt, xs_nil, k_one, k_cons, k_rt, k_bk, k_ct, r_nx, r_rt, w_neg, w_tupr, w_lstr,
  TGs.len, wq_pure, List.getElem?_cons_zero, List.getElem?_cons_succ, List.set_cons_zero, List.set_cons_succ, List.length_cons, List.length_nil, List.length_map, if_true, Bool.false_eq_true, if_false, startE, List.map_cons, List.map_nil, List.replicate, List.cons_append, List.nil_append, wipeE, Nat.zero_add, Nat.reduceAdd, Nat.reduceSub, true_and,
  w_getL_ref, w_getS_ref, w_getL_ro, w_getS_ro, w_getS_tup, w_add, w_sub, w_mul, w_addT, w_addL, w_mulL, w_fdiv, w_mod, w_pow, w_shl, w_lt, w_le, w_gt, w_ge, w_ltT, w_gtT, w_eq, w_ne, w_isN, w_isnN, w_in, w_nin, w_trB, w_trN, w_trI, w_trT, w_trL, w_lenT, w_lenR, w_lenL, w_sumT, w_sumL, w_int, w_intB, w_tupL, w_listL, w_listT, w_append, w_pop, w_reverse, w_isL, w_revT, w_asInt, w_slR, w_srcT, w_srcR, w_srcL, w_rng, w_zipT, w_unpkT, w_unpkL, w_eqB, w_eqT, w_eqI, w_ixT, w_eqS, w_eqTS, Bool.not_true, Bool.not_false, decide_true, decide_false, wd_lex_lex, wd_lex_degree, wd_lex_back, wd_lex_blocks, wd_lex_weights, wd_degree_lex, wd_degree_degree, wd_degree_back, wd_degree_blocks, wd_degree_weights, wd_back_lex, wd_back_degree, wd_back_back, wd_back_blocks, wd_back_weights, wd_blocks_lex, wd_blocks_degree, wd_blocks_back, wd_blocks_blocks, wd_blocks_weights, wd_weights_lex, wd_weights_degree, wd_weights_back, wd_weights_blocks, wd_weights_weights])
local macro_rules | `(tactic| walk_at "nx") => `(tactic| (rw [k_nx]; try walk_at "dl"))
local macro_rules | `(tactic| walk_at "cj") => `(tactic| repeat refine And.intro (by first | decide | exact lens_of (by decide) | exact lens_of (by simp) | simp) ?_)
theorem cut_map {α : Type} {e : α → D} {xs : List α} (lo hi : Option Int) : ∃ ys : List α, cutD (xs.map e) lo hi = ys.map e ∧ ys.length ≤ xs.length := by
  refine ⟨(xs.drop (HT.sIx xs.length 0 lo)).take (HT.sIx xs.length xs.length hi - HT.sIx xs.length 0 lo), ?_, ?_⟩
  · unfold cutD
    rw [List.length_map, List.map_take, List.map_drop]
  · simp only [List.length_take, List.length_drop]
    omega
theorem fmod_rg {a b : Int} (hb : 0 < b) : 0 ≤ a.fmod b ∧ a.fmod b < b := ⟨Int.fmod_nonneg_of_pos _ hb, Int.fmod_lt_of_pos _ hb⟩
theorem big_cell {x : Int} (h : 0 ≤ x ∧ x < 1 * 2 ^ (7200 : Int).toNat) : x.natAbs < 2 ^ 8000 := by
  have e : ((7200 : Int).toNat) = 7200 := rfl
  rw [e, Int.one_mul] at h
  have h1 : (2 : Nat) ^ 7200 ≤ 2 ^ 8000 := Nat.pow_le_pow_right (by omega) (by omega)
  have h2 : ((2 : Int) ^ 7200) = ((2 ^ 7200 : Nat) : Int) := by rw [Int.natCast_pow]; rfl
  rw [h2] at h
  generalize (2 : Nat) ^ 7200 = u at *
  generalize (2 : Nat) ^ 8000 = v at *
  omega
theorem big_pos : (0 : Int) < 1 * 2 ^ (7200 : Int).toNat := by
  rw [Int.one_mul]
  exact Int.pow_pos (by decide)
theorem if_both {a b : Bool} {X E : Prop} (h : a = true → b = true → X) (h2 : E) : if a = true then (if b = true then X else E) else E := by
  cases a <;> cases b <;> simp_all
theorem draws_wq {n m : Nat} {ns : List Int} {S : Store} {Q : D → Store → Prop} (hn : ns.length ≤ 63) (hm : m ≤ 1000)
    (h : ∀ (l : Nat) (S' : Store), Dw l S' → Q (.ref l) S') : wq (call gl fds (n + 1) f__law_draws [.ro (ns.map .int), .int m]) Q S := by
  rw [wq_call (fd := d__law_draws) rfl rfl]
  dsimp only [d__law_draws]
  unfold b__law_draws
  walk_at "dl"
  obtain ⟨cut, hc, hcl⟩ := cut_map (e := D.int) (xs := ns) none (some 63)
  rw [hc]
  have hgd : (S ++ [Ob.lst (cut.map .int)])[S.length]? = some (.lst (cut.map .int)) := get_new
  refine compL_tot (e := D.int) (fun c => D.int (c.fmod (1 * 2 ^ (7200 : Int).toNat))) (by omega) (fun S' f => Gd_ref (f.get _ _ (by simp) hgd)) (fun c hc S' a => ?_) fun S1 a => ?_
  · walk_at "dl"
    refine ⟨by decide, by decide, ?_, .refl⟩
    exact decide_eq_true (Int.ne_of_gt big_pos)
  · refine ⟨by decide, ?_⟩
    have hcs : ∃ cs : List Int, cut.map (fun c => D.int (c.fmod (1 * 2 ^ (7200 : Int).toNat))) = cs.map .int ∧ cs.length ≤ 63 ∧ ∀ c ∈ cs, 0 ≤ c ∧ c < 1 * 2 ^ (7200 : Int).toNat := by
      refine ⟨cut.map fun c => c.fmod (1 * 2 ^ (7200 : Int).toNat), by rw [List.map_map]; rfl, by simp; omega, fun c hc => ?_⟩
      obtain ⟨c', _, rfl⟩ := List.mem_map.mp hc
      exact fmod_rg big_pos
    obtain ⟨cs, e, hcl, hcb⟩ := hcs
    rw [e]
    clear a hgd hc e
    have g1 : (S1 ++ [Ob.lst (cs.map .int)])[S1.length]? = some (.lst (cs.map .int)) := get_new
    generalize (S1 ++ [Ob.lst (cs.map .int)]) = S2 at *
    generalize S1.length = rc at *
    walk_at "nx"
    -- one cell at least
    have key : ∀ (ds : List Int) (S3 : Store), S3[rc]? = some (.lst (ds.map .int)) → 0 < ds.length → ds.length ≤ 63 → (∀ c ∈ ds, 0 ≤ c ∧ c < 1 * 2 ^ (7200 : Int).toNat) →
        wq (exs gl (Dl.call gl fds n) (ISs.cons (.asg (.nm 3) (.bi .list (.cons (.var 2) .nil)))
  (.cons (.asg (.nm 4) (.lst .nil))
  (.cons (.forr (.nm 5) (.rng1 (.var 1)) (.cons (.asg (.nm 6) (.op .Mod (.bi .int (.cons (.var 5) .nil)) (.bi .len (.cons (.var 2) .nil))))
  (.cons (.ite (.and (.cmp .GtE (.ix (.var 2) (.var 6)) (.op .Pow (.int 10) (.int 18))) (.cmp .Gt (.ix (.var 3) (.var 6)) (.int 0))) (.cons (.expr (.me .append (.var 4) (.cons (.op .Mod (.bi .int (.cons (.ix (.var 3) (.var 6)) .nil)) (.int 1000)) .nil)))
  (.cons (.asg (.ixs (.var 3) (.var 6)) (.op .FloorDiv (.ix (.var 3) (.var 6)) (.int 1000)))
  .nil)) (.cons (.asg (.nm 7) (.op .Mod (.bi .int (.cons (.op .Add (.op .Add (.op .Mult (.ix (.var 2) (.var 6)) (.int 48271)) (.op .Mult (.var 5) (.int 69621))) (.int 11)) .nil)) (.int 2147483647)))
  (.cons (.expr (.me .append (.var 4) (.cons (.op .Mod (.bi .int (.cons (.op .Add (.op .Add (.op .Mult (.var 7) (.var 7)) (.op .Mult (.int 3) (.var 7))) (.var 5)) .nil)) (.int 1000003)) .nil)))
  .nil)))
  .nil)))
  (.cons (.expr (.me .reverse (.var 4) .nil))
  (.cons (.ret (.var 4))
  .nil))))) [some (.ro (ns.map .int)), some (.int m), some (.ref rc), none, none, none, none, none, none]) (fun r S' => wq (ofFl r) Q S') S3 := by
      intro ds S3 g3 h0 h63 hb
      walk_at "dl"
      refine ⟨by decide, ?_⟩
      have gl4 : (S3 ++ [Ob.lst (ds.map .int)])[S3.length]? = some (.lst (ds.map .int)) := get_new
      have gc4 := get_app (o := Ob.lst (ds.map .int)) g3
      have hne1 : rc < S3.length := lt_of_get g3
      generalize S3.length = rl at *
      generalize (S3 ++ [Ob.lst (ds.map .int)]) = S4 at *
      walk_at "nx"
      refine ⟨lens_of (by decide), by decide, ?_⟩
      have hne2 : rl < S4.length := lt_of_get gl4
      have gd5 : (S4 ++ [Ob.lst []])[S4.length]? = some (.lst (([] : List Int).map .int)) := get_new
      have gl5 := get_app (o := Ob.lst []) gl4
      have gc5 := get_app (o := Ob.lst []) gc4
      generalize S4.length = rd at *
      generalize (S4 ++ [Ob.lst []]) = S5 at *
      walk_at "nx"
      refine ⟨small_rng (by omega), ?_⟩
      rw [rngItems_nat]
      refine forL_inv1 (e := fun (k : Nat) => D.int (k : Int)) (fun i e S' => S'[rc]? = some (.lst (ds.map .int)) ∧ (∃ ls : List Int, S'[rl]? = some (.lst (ls.map .int)) ∧ ls.length = ds.length) ∧ (∃ xs : List Int, S'[rd]? = some (.lst (xs.map .int)) ∧ xs.length ≤ i) ∧ ∃ o5 o6 o7 o8, e = [some (.ro (ns.map .int)), some (.int m), some (.ref rc), some (.ref rl), some (.ref rd), o5, o6, o7, o8]) (fun _ _ _ _ => Gd_none) ?_ ?_ ?_
      · exact ⟨gc5, ⟨ds, gl5, rfl⟩, ⟨[], gd5, by simp⟩, _, _, _, _, rfl⟩
      · rintro e S6 ⟨gc, ⟨ls, gl, hll⟩, ⟨xs, gd, hxl⟩, o5, o6, o7, o8, rfl⟩
        walk_at "nx"
        walk_at "nx"
        exact h rd _ ⟨xs.reverse, by rw [get_set gd, List.map_reverse]⟩
      · rintro i x e S6 hx ⟨gc, ⟨ls, gl, hll⟩, ⟨xs, gd, hxl⟩, o5, o6, o7, o8, rfl⟩
        have him : i < m := by
          have := (List.getElem?_eq_some_iff.mp hx).1
          simpa using this
        have hxm : x < m := by simpa using List.mem_of_getElem? hx
        have hxs : xs.length < sizeLine := Nat.lt_of_le_of_lt (show xs.length ≤ 1000 by omega) (by decide)
        walk_at "dl"
        have hp := fmod_rg (a := (x : Int)) (b := (ds.length : Int)) (by omega)
        refine ⟨by decide, decide_eq_true (by omega), by decide, ?_⟩
        generalize (x : Int).fmod (ds.length : Int) = p at *
        have hpd : p.toNat < ds.length := by omega
        walk_at "nx"
        rw [w_ixL gc (atI_int hp.1 hpd)]
        walk_at "dl"
        have hcb := hb _ (Dl.getD_mem hpd)
        refine ⟨by decide, ?_⟩
        generalize ds.getD p.toNat 0 = c at *
        have hpl : p.toNat < ls.length := by omega
        rw [w_ixL gl (atI_int hp.1 hpl), w_gt]
        generalize ls.getD p.toNat 0 = v at *
        refine if_both (fun _ _ => ?_) ?_
        · try walk_at "dl"
          rw [w_ixL gl (atI_int hp.1 hpl)]
          try walk_at "dl"
          generalize ls.getD p.toNat 0 = v at *
          refine ⟨by decide, hxs, ?_⟩
          have gd' := get_set (o := Ob.lst (xs.map .int ++ [D.int (v.fmod 1000)])) gd
          have gl' : (S6.set rd (Ob.lst (xs.map .int ++ [D.int (v.fmod 1000)])))[rl]? = some (.lst (ls.map .int)) := by rw [List.getElem?_set_ne (by omega)]; exact gl
          have gc' : (S6.set rd (Ob.lst (xs.map .int ++ [D.int (v.fmod 1000)])))[rc]? = some (.lst (ds.map .int)) := by rw [List.getElem?_set_ne (by omega)]; exact gc
          generalize (S6.set rd (Ob.lst (xs.map .int ++ [D.int (v.fmod 1000)]))) = S7 at *
          walk_at "nx"
          rw [w_ixL gl' (atI_int hp.1 hpl)]
          walk_at "dl"
          generalize ls.getD p.toNat 0 = v2 at *
          refine ⟨by decide, ?_⟩
          rw [w_set gl' hp.1 (by simpa using hpl)]
          walk_at "nx"
          refine ⟨?_, ⟨ls.set p.toNat (v2.fdiv 1000), ?_, by simpa using hll⟩, ⟨xs ++ [v.fmod 1000], ?_, by simp; omega⟩, _, _, _, _, rfl⟩
          · rw [List.getElem?_set_ne (by omega)]; exact gc'
          · rw [get_set gl', List.map_set]
          · rw [List.getElem?_set_ne (by omega), gd', List.map_append]; rfl
        · rw [w_ixL gc (atI_int hp.1 hpd)]
          try walk_at "dl"
          have hcb := hb _ (Dl.getD_mem hpd)
          generalize ds.getD p.toNat 0 = c2 at *
          refine ⟨mulFits_of (big_cell hcb) (fits_small (by omega) (by omega)), mulFits_of (fits_small (by omega) (by omega)) (fits_small (by omega) (by omega)), by decide, by decide, ?_⟩
          have hmx := fmod_rg (a := c2 * 48271 + (x : Int) * 69621 + 11) (b := 2147483647) (by omega)
          generalize (c2 * 48271 + (x : Int) * 69621 + 11).fmod 2147483647 = w at *
          walk_at "nx"
          refine ⟨mulFits_of (fits_big (by omega) (by omega)) (fits_big (by omega) (by omega)), mulFits_of (fits_big (by omega) (by omega)) (fits_big (by omega) (by omega)), by decide, hxs, ?_⟩
          walk_at "nx"
          generalize (w * w + 3 * w + (x : Int)).fmod 1000003 = y
          refine ⟨?_, ⟨ls, ?_, hll⟩, ⟨xs ++ [y], ?_, by simp; omega⟩, _, _, _, _, rfl⟩
          · rw [List.getElem?_set_ne (by omega)]; exact gc
          · rw [List.getElem?_set_ne (by omega)]; exact gl
          · rw [get_set gd, List.map_append]; rfl
    by_cases hz : cs = []
    · subst hz
      rw [if_pos (by decide)]
      walk_at "dl"
      refine ⟨by decide, ?_⟩
      walk_at "nx"
      rw [k_nx]
      exact key [0] _ (by rw [get_set g1]; rfl) (by decide) (by decide) fun c hc => by
        rw [List.mem_singleton.mp hc]
        exact ⟨by decide, big_pos⟩
    · rw [if_neg (by simpa using hz)]
      try walk_at "dl"
      rw [k_nx]
      exact key cs _ g1 (List.length_pos_iff.mpr hz) hcl hcb
end K05
end

section
set_option Elab.async false
set_option linter.all false
set_option maxRecDepth 100000
set_option maxHeartbeats 1000000
set_option exponentiation.threshold 20000
namespace K05
open PySem PySem.Spec L2 Dl
local macro_rules | `(tactic| walk_at "dl") => `(tactic| simp (disch := first | assumption | exact get_new | (refine get_app ?_; first | assumption | exact get_new | (refine get_app ?_; first | assumption | exact get_new)) | (refine get_set ?_; assumption) | exact atI_0 | exact atI_1 | exact atI_2 | exact ok_lex | exact ok_degree | exact ok_back | exact ok_blocks | exact ok_weights) only [
  e_cB, e_fB, e_dnew, e_dget, e_din, vt_din, e_dget2, e_dpop, e_sortp, x_dput, w_isT, w_din, w_dget2, w_dget, w_dput, w_dpop, w_fr0, w_fr1, e_var, e_int, e_bl, e_non, e_str, e_glo, e_tup, e_lst, e_op, e_neg, e_not, e_and, e_or, e_cmp, e_chain, e_ite, e_ix, e_sl, e_rev, e_call, e_bi, e_me, e_isi, e_isis, e_comp, e_tupr, e_lstr, e_nil, e_cons, e_ono, e_oso, e_cno, e_cso, vt_and, vt_or, vt_not, vt_cmp, vt_chain, vt_var, vt_bl, vt_call, vt_bi, vt_isi, vt_isis, vi_seq, vi_rng1, vi_rng2, vi_zip, vg_nm, vg_tp, vg_ixs, gs_nil, gs_cons, x_asg, x_par, x_aug, x_expr, x_ret, x_retN, x_ite, x_for, x_whl, x_pass, x_brk, x_cnt, xs_nil, k_one, k_cons, k_rt, k_bk, k_ct, r_nx, r_rt, w_neg, w_tupr, w_lstr,
  TGs.len, wq_pure, List.getElem?_cons_zero, List.getElem?_cons_succ, List.set_cons_zero, List.set_cons_succ, List.length_cons, List.length_nil, List.length_map, if_true, Bool.false_eq_true, if_false, startE, List.map_cons, List.map_nil, List.replicate, List.cons_append, List.nil_append, wipeE, Nat.zero_add, Nat.reduceAdd, Nat.reduceSub, true_and,
  w_getL_ref, w_getS_ref, w_getL_ro, w_getS_ro, w_getS_tup, w_add, w_sub, w_mul, w_addT, w_addL, w_mulL, w_fdiv, w_mod, w_pow, w_shl, w_lt, w_le, w_gt, w_ge, w_ltT, w_gtT, w_eq, w_ne, w_isN, w_isnN, w_in, w_nin, w_trB, w_trN, w_trI, w_trT, w_trL, w_lenT, w_lenR, w_lenL, w_sumT, w_sumL, w_int, w_intB, w_tupL, w_listL, w_listT, w_append, w_pop, w_reverse, w_isL, w_revT, w_asInt, w_slR, w_srcT, w_srcR, w_srcL, w_rng, w_zipT, w_unpkT, w_unpkL, w_eqB, w_eqT, w_eqI, w_ixT, w_eqS, w_eqTS, Bool.not_true, Bool.not_false, decide_true, decide_false, wd_lex_lex, wd_lex_degree, wd_lex_back, wd_lex_blocks, wd_lex_weights, wd_degree_lex, wd_degree_degree, wd_degree_back, wd_degree_blocks, wd_degree_weights, wd_back_lex, wd_back_degree, wd_back_back, wd_back_blocks, wd_back_weights, wd_blocks_lex, wd_blocks_degree, wd_blocks_back, wd_blocks_blocks, wd_blocks_weights, wd_weights_lex, wd_weights_degree, wd_weights_back, wd_weights_blocks, wd_weights_weights])
local macro_rules | `(tactic| walk_at "nx") => `(tactic| (rw [k_nx]; try walk_at "dl"))
local macro_rules | `(tactic| walk_at "cj") => `(tactic| repeat refine And.intro (by first | decide | exact lens_of (by decide) | exact lens_of (by simp) | simp) ?_)
local macro_rules | `(tactic| walk_at "cd") => `(tactic| repeat refine And.intro (by decide) ?_)
theorem law_wq {n : Nat} {ns : List Int} (hn : ns.length ≤ 63) : wq (call gl fds (n + 12) f_law [.ro (ns.map .int)]) (fun d _ => d = .bl true) [] := by
  rw [wq_call (fd := d_law) rfl rfl]
  dsimp only [d_law]
  unfold b_law
  walk_at "dl"
  refine draws_wq (m := 400) hn (by decide) fun l S1 w1 => ?_
  try walk_at "dl"
  walk_at "cd"
  walk_at "nx"
  walk_at "cd"
  rw [show rngItems 0 3 = (List.range 3).map fun (k : Nat) => D.int (k : Int) from rngItems_nat 3]
  refine forL_inv1 (e := fun (k : Nat) => D.int (k : Int)) (fun i e S' => Dw l S' ∧ ∃ o2 o3 o4 o5 o6 o7 o8 o9 o10 o11 o12 o13 o14 o15 o16 o17, e = [some (.ro (ns.map .int)), some (.ref l), o2, o3, o4, o5, o6, o7, o8, o9, o10, o11, o12, o13, o14, o15, o16, o17]) (fun _ _ _ _ => Gd_none) ?_ ?_ ?_
  · exact ⟨w1, _, _, _, _, _, _, _, _, _, _, _, _, _, _, _, _, rfl⟩
  · rintro e S2 ⟨w2, o2, o3, o4, o5, o6, o7, o8, o9, o10, o11, o12, o13, o14, o15, o16, o17, rfl⟩
    walk_at "nx"
  · rintro i x e S2 hx ⟨w2, o2, o3, o4, o5, o6, o7, o8, o9, o10, o11, o12, o13, o14, o15, o16, o17, rfl⟩
    walk_at "dl"
    walk_at "cd"
    refine take_wq w2 (by decide) fun v S3 v0 v1 d3 => ?_
    try walk_at "dl"
    walk_at "cd"
    obtain ⟨m, hme⟩ : ∃ m : Nat, 1 + v = (m : Int) := ⟨(1 + v).toNat, by omega⟩
    rw [hme]
    have hm : 0 < m := by omega
    have hm3 : m ≤ 3 := by omega
    clear hme
    walk_at "nx"
    refine order_wq d3.d hm (by omega) fun o S4 ho d4 => ?_
    walk_at "cd"
    have d4 := d3.trans d4
    clear d3
    walk_at "nx"
    refine order_wq d4.d hm (by omega) fun o2 S5 ho2 d5 => ?_
    walk_at "cd"
    have d5 := d4.trans d5
    clear d4
    walk_at "nx"
    refine take_wq d5.d (by decide) fun k1 S6 k10 k11 d6 => ?_
    have d6 := d5.trans d6
    clear d5
    obtain ⟨kf, hkf⟩ : ∃ k : Nat, 1 + k1 = (k : Int) := ⟨(1 + k1).toNat, by omega⟩
    try walk_at "dl"
    rw [hkf]
    refine law_drawn_wq d6.d ho hm (by omega) (by decide) (by decide) (by omega) fun F f S7 pf nf d7 => ?_
    have d7 := d6.trans d7
    clear d6
    have df : Dp5 m o 3 54 3 f := ⟨⟨F, pf.can⟩, Mb.mono pf.ok (Int.le_refl _) (by omega), by have := pf.len; omega, nf (by omega)⟩
    clear nf
    walk_at "cd"
    walk_at "nx"
    refine take_wq d7.d (by decide) fun k2 S8 k20 k21 d8 => ?_
    have d8 := d7.trans d8
    clear d7
    obtain ⟨kg, hkg⟩ : ∃ k : Nat, 1 + k2 = (k : Int) := ⟨(1 + k2).toNat, by omega⟩
    try walk_at "dl"
    rw [hkg]
    refine law_drawn_wq d8.d ho hm (by omega) (by decide) (by decide) (by omega) fun G g S9 pg ng d9 => ?_
    have d9 := d8.trans d9
    clear d8
    have dg : Dp5 m o 2 72 4 g := ⟨⟨G, pg.can⟩, Mb.mono pg.ok (Int.le_refl _) (by omega), by have := pg.len; omega, ng (by omega)⟩
    clear ng
    walk_at "cd"
    walk_at "nx"
    refine ⟨small_rng (by omega), ?_⟩
    rw [rngItems_nat]
    refine compL_drw (e := fun (k : Nat) => D.int (k : Int)) (e2 := frQ) (R := fun _ q => Bt 3 q) (by simp; omega) (fun _ _ => Gd_none) d9.d (fun j hj S' a => ?_) fun qs S10 hq1 hq2 d10 => ?_
    · walk_at "dl"
      walk_at "cd"
      refine pick_wq (a.d.new _) get_new (by have := a.d.lt; omega) (by decide) fun d S9 hd d9 => ?_
      refine ⟨?_, (a.d.refl.new _).trans d9⟩
      simp only [List.mem_cons, List.not_mem_nil, or_false] at hd
      rcases hd with rfl | rfl | rfl | rfl | rfl
      · exact ⟨0, rfl, by decide +kernel, by decide +kernel⟩
      · exact ⟨1, rfl, by decide +kernel, by decide +kernel⟩
      · exact ⟨-2, rfl, by decide +kernel, by decide +kernel⟩
      · exact ⟨⟨1, 3, by decide, by decide⟩, rfl, by decide +kernel, by decide +kernel⟩
      · exact ⟨⟨5, 7, by decide, by decide⟩, rfl, by decide +kernel, by decide +kernel⟩
    have hql : qs.length = m := by simpa using hq1
    have hq : ∀ q ∈ qs, Bt 3 q := zip_all (P := Bt 3) hq1 hq2
    clear hq1 hq2
    have d10 := d9.trans d10
    clear d9
    walk_at "cd"
    have d11 := d10.new (.lst (qs.map frQ))
    have g11 := get_new (S := S10) (o := .lst (qs.map frQ))
    clear d10
    generalize S10.length = r10 at *
    generalize (S10 ++ [Ob.lst (qs.map frQ)]) = S11 at *
    try walk_at "dl"
    walk_at "cd"
    walk_at "nx"
    refine values_fit_wq (n := n + 2) ho hm hm3 df dg hq hql fun S12 f12 => ?_
    try walk_at "dl"
    refine heads_fit_wq (n := n + 2) ho hm hm3 df dg fun S13 f13 => ?_
    have d13 := d11.trans (d11.d.fr (f12.trans f13))
    clear d11 g11 f12 f13
    try walk_at "dl"
    walk_at "nx"
    refine ⟨small_rng (by omega), ?_⟩
    rw [rngItems_nat]
    refine compL_drw (e := fun (k : Nat) => D.int (k : Int)) (e2 := polyD) (R := fun _ r => Mb m 1 6 36 r ∧ r.length ≤ 2) (by simp; omega) (fun _ _ => Gd_none) d13.d (fun j hj S' a => ?_) fun rows S14 hr1 hr2 d14 => ?_
    · walk_at "dl"
      walk_at "cd"
      refine law_drawn_wq (k := 2) a.d ho2 hm (by omega) (by decide) (by decide) (by decide) fun G r S10 pr _ d10 => ?_
      exact ⟨⟨_, rfl, pr.ok, pr.len⟩, d10⟩
    have hrl : rows.length = m := by simpa using hr1
    have hr : RowsOk m 2 6 36 rows := ⟨zip_all (P := fun r => Mb m 1 6 36 r ∧ r.length ≤ 2) hr1 hr2⟩
    clear hr1 hr2
    have d14 := d13.trans d14
    clear d13
    have d15 := d14.new (.lst (rows.map polyD))
    have g15 := get_new (S := S14) (o := .lst (rows.map polyD))
    clear d14
    generalize S14.length = r14 at *
    generalize (S14 ++ [Ob.lst (rows.map polyD)]) = S15 at *
    try walk_at "dl"
    walk_at "cd"
    walk_at "nx"
    have vrow : ∀ r ∈ rows, Vb m 6 1 r ∧ r.length ≤ 2 := fun r hr' => by
      obtain ⟨h1, h2⟩ := hr.ok r hr'
      exact ⟨Mb.vb h1 (by decide) (by decide), h2⟩
    have brow : ∀ r ∈ rows, Bt 27 (evT qs r) := fun r hr' => by
      obtain ⟨h1, h2⟩ := vrow r hr'
      refine (evT_bt hq (by decide) h1).mono ?_
      have : (6 + m + 3 * (1 : Int).toNat + 1) * r.length ≤ 13 * 2 := Nat.mul_le_mul (by simp; omega) h2
      omega
    refine compL_tot (e := polyD) (fun r => frQ (evT qs r)) (by omega) (fun S' a => Gd_none) (fun r hr' S' a => ?_) fun S16 f16 => ?_
    · obtain ⟨h1, h2⟩ := vrow r hr'
      walk_at "dl"
      refine ⟨by decide, ?_⟩
      refine value_at_wq (bq := 3) (by omega) (by decide) (by decide) h1 (by omega) hq (by decide) hql (by
        have : (6 + m + 3 * (1 : Int).toNat + 1) * (r.length + 1) ≤ 13 * 3 := Nat.mul_le_mul (by simp; omega) (by omega)
        omega) ?_
      exact ⟨rfl, .refl⟩
    have ev : (rows.map fun r => frQ (evT qs r)) = (rows.map (evT qs)).map frQ := by rw [List.map_map]; rfl
    rw [ev]
    have d16 := (d15.trans (d15.d.fr f16)).new (.lst ((rows.map (evT qs)).map frQ))
    have g16 := get_new (S := S16) (o := .lst ((rows.map (evT qs)).map frQ))
    clear d15 g15 f16
    generalize S16.length = r16 at *
    generalize (S16 ++ [Ob.lst ((rows.map (evT qs)).map frQ)]) = S17 at *
    try walk_at "dl"
    walk_at "cd"
    walk_at "nx"
    have lf := df.len
    have lg := dg.len
    have mf := df.mb
    have mg := dg.mb
    refine put_in_wq pi_rows ho2 hm (by omega) hm3 mf (by decide) (by decide) lf hr hrl fun P S18 sP f18 => ?_
    have vP : Vb m 133 3 P := Mb.vb sP.mb (by decide +kernel) (Nat.pow_lt_pow_right (by decide) (by omega))
    have lP : P.length ≤ 24 := by
      have := sP.len
      have h8 : 2 ^ 3 * f.length ≤ 8 * 3 := Nat.mul_le_mul (by decide) lf
      omega
    try walk_at "dl"
    refine value_at_wq (bq := 3) (by omega) (by decide) (by decide) vP (by omega) hq (by decide) hql (by
      have : (133 + m + 3 * (3 : Int).toNat + 1) * (P.length + 1) ≤ 146 * 25 := Nat.mul_le_mul (by simp; omega) (by omega)
      omega) ?_
    have vf : Vb m 7 3 f := Mb.vb mf (by decide) (by decide)
    refine value_at_wq (bq := 27) (by omega) (by decide) (by decide) vf (by omega) (fun q hq' => by
      obtain ⟨r, hr', rfl⟩ := List.mem_map.mp hq'
      exact brow r hr') (by decide) (by rw [List.length_map]; exact hrl) (by
      have : (7 + m + 27 * (3 : Int).toNat + 1) * (f.length + 1) ≤ 92 * 4 := Nat.mul_le_mul (by simp; omega) (by omega)
      omega) ?_
    rw [evT_eq qs (can_eq sP.can), evT_with qs (fun r hr' => ((hr.ok r hr').1).nn)]
    refine same_wq (n := n + 9) 1 (Sm.fr _) fun S19 f19 => ?_
    have d19 := d16.trans (d16.d.fr (f18.trans f19))
    clear d16 g16 f18 f19 vP lP sP ev
    try walk_at "dl"
    walk_at "nx"
    have pl : (prodT f g).length ≤ 12 := by rw [prod_len]; exact Nat.mul_le_mul lf lg
    have h13 : ((prodT f g).length + 1) * (54 * 72) < 2 ^ 3900 := Nat.lt_of_le_of_lt (Nat.mul_le_mul_right (54 * 72) (show (prodT f g).length + 1 ≤ 13 by omega)) (by decide)
    refine multiply_poly_wq ho hm (by omega) (by decide) mf mg (by decide) (by decide) (by decide) (by decide) (by decide) h13 (by omega) fun W S20 pW0 f20 => ?_
    have pW : PO m o 5 36 46656 12 (sumT (prodT f g)) W := pW0.mono (by decide) (Nat.le_trans (Nat.mul_le_mul_right (54 * 72) pl) (by decide)) pl
    have d20 := d19.trans (d19.d.fr f20)
    clear d19 pW0 f20
    have lW := pW.len
    walk_at "cd"
    walk_at "nx"
    refine ⟨small_rng (by omega), ?_⟩
    rw [rngItems_nat]
    refine forL_inv1 (e := fun (k : Nat) => D.int (k : Int)) (fun i e S' => Dr l S2 S' ∧ ∃ o12 o13, e = [some (.ro (ns.map .int)), some (.ref l), some (.int x), some (.int m), some (.tup [.int m, o.d]), some (.tup [.int m, o2.d]), some (polyD f), some (polyD g), some (.tup (qs.map frQ)), some (.tup (rows.map polyD)), some (.tup ((rows.map (evT qs)).map frQ)), some (polyD W), o12, o13, o14, o15, o16, o17]) (fun _ _ _ _ => Gd_none) ?_ ?_ ?_
    · exact ⟨d20, _, _, rfl⟩
    · rintro e S21 ⟨d21, o12, o13, rfl⟩
      walk_at "nx"
      refine ⟨small_rng (by omega), ?_⟩
      rw [rngItems_nat]
      refine compL_tot (e := fun (k : Nat) => D.int (k : Int)) (fun k => polyD [(unitE m k, 1)]) (by simp; omega) (fun _ _ => Gd_none) (fun k hk S' a => ?_) fun S22 f22 => ?_
      · walk_at "dl"
        refine ⟨by decide, ?_⟩
        exact unknown_wq (by omega) fun S3 f3 => ⟨rfl, f3⟩
      have eu : ((List.range m).map fun k => polyD [(unitE m k, 1)]) = (units m).map polyD := by unfold units; rw [List.map_map]; rfl
      rw [eu]
      have d22 := (d21.trans (d21.d.fr f22)).new (.lst ((units m).map polyD))
      have g22 := get_new (S := S22) (o := .lst ((units m).map polyD))
      clear d21 f22 eu
      generalize S22.length = r22 at *
      generalize (S22 ++ [Ob.lst ((units m).map polyD)]) = S23 at *
      try walk_at "dl"
      walk_at "cd"
      walk_at "nx"
      obtain ⟨F2, cf2⟩ := df.can
      obtain ⟨G2, cg2⟩ := dg.can
      refine turned2_wq ho2 hm (by omega) (by decide) (⟨cf2, mf, lf⟩ : PO m o 3 6 54 3 F2 f) (by decide) fun f2 S24 pf2 f24 => ?_
      refine turned2_wq ho2 hm (by omega) (by decide) (⟨cg2, mg, lg⟩ : PO m o 2 6 72 4 G2 g) (by decide) fun g2 S25 pg2 f25 => ?_
      have lf2 := pf2.len
      have lg2 := pg2.len
      have pl2 : (prodT f2 g2).length ≤ 12 := by rw [prod_len]; exact Nat.mul_le_mul lf2 lg2
      have h14 : ((prodT f2 g2).length + 1) * (54 * 72) < 2 ^ 3900 := Nat.lt_of_le_of_lt (Nat.mul_le_mul_right (54 * 72) (show (prodT f2 g2).length + 1 ≤ 13 by omega)) (by decide)
      try walk_at "dl"
      refine multiply_poly_wq ho2 hm (by omega) (by decide) pf2.ok pg2.ok (by decide) (by decide) (by decide) (by decide) (by decide) h14 (by omega) fun T S26 pT0 f26 => ?_
      have eT : sumT (prodT f2 g2) = sumT (prodT f g) := by
        rw [conv_left (Mb.ln pf2.ok) mf.ln (Mb.ln pg2.ok) (show sumT f2 = sumT f by rw [can_eq pf2.can, can_eq cf2]), conv_right mf.ln (Mb.ln pg2.ok) mg.ln (show sumT g2 = sumT g by rw [can_eq pg2.can, can_eq cg2])]
      have pT1 : PO m o2 5 36 46656 12 (sumT (prodT f2 g2)) T := pT0.mono (by decide) (Nat.le_trans (Nat.mul_le_mul_right (54 * 72) pl2) (by decide)) pl2
      rw [eT] at pT1
      have lT := pT1.len
      have d26 := d22.trans (d22.d.fr (f24.trans (f25.trans f26)))
      clear d22 g22 f24 f25 f26 pT0
      walk_at "cd"
      walk_at "nx"
      have eW := can_eq pW.can
      refine put_in_wq pi_units ho2 hm (by omega) hm3 pW.ok (by decide) (by decide) lW (units_ok m) (by simp [units]) fun P S27 sP f27 => ?_
      have cP := sP.can
      rw [with_units (Mb.nn pW.ok) (fun p hp => (pW.can.mem p hp).2), eW] at cP
      cases cP.uniq pT1.can
      try walk_at "dl"
      refine turned2_wq ho hm (by omega) (by decide) pT1 (by decide) fun P2 S28 pP2 f28 => ?_
      cases pP2.can.uniq pW.can
      try walk_at "dl"
      have q7 : (W.length + 1) * 46656 < 2 ^ 3900 := Nat.lt_of_le_of_lt (Nat.mul_le_mul_right 46656 (show W.length + 1 ≤ 13 by omega)) (by decide)
      refine ring_poly_wq ho2 hm (by omega) (by decide) (.inl rfl) pW.ok (by omega) (by decide) q7 fun P3 S29 pP3 f29 => ?_
      have cP3 := pP3.can
      rw [eW] at cP3
      cases cP3.uniq pT1.can
      walk_at "cd"
      have sT : Sm 3 (polyD T) := Sm.poly pT1.ok (by omega) (by omega)
      have sW : Sm 3 (polyD W) := Sm.poly pW.ok (by omega) (by omega)
      refine sameX_wq (n := n + 6) (k := 3) (ds := [polyD T, polyD W, polyD T]) (get_app get_new) get_new (by simp) (fun x hx => ?_) fun S30 f30 => ?_
      · simp only [List.mem_cons, List.not_mem_nil, or_false] at hx
        rcases hx with rfl | rfl | rfl
        · exact ⟨3, by decide, sT⟩
        · exact ⟨3, by decide, sW⟩
        · exact ⟨3, by decide, sT⟩
      have d30 := d26.trans (d26.d.fr (f27.trans (f28.trans (f29.trans (((Fr.new .refl _).new _).trans f30)))))
      clear d26 f27 f28 f29 f30
      try walk_at "dl"
      walk_at "nx"
      have q8 : (W.length + W.length + 1) * 46656 < 2 ^ 3900 := Nat.lt_of_le_of_lt (Nat.mul_le_mul_right 46656 (show W.length + W.length + 1 ≤ 25 by omega)) (by decide)
      refine subtract_poly_wq ho hm (by omega) (by decide) pW.ok pW.ok (by omega) (by decide) q8 fun Z S31 pZ f31 => ?_
      have hZ : Z = [] := by
        refine Classical.byContradiction fun ne => ?_
        obtain ⟨q, hq'⟩ := List.exists_mem_of_ne_nil _ ne
        obtain ⟨q1, q2⟩ := pZ.can.mem q hq'
        apply q2
        rw [q1, sumT_app, sumT_scale]
        grind
      subst hZ
      walk_at "cd"
      refine const_poly_wq (q := 0) ho hm (by omega) (by decide) (by decide) fun S32 f32 => ?_
      have z0 : constT m 0 = [] := by unfold constT; rw [if_pos rfl]
      rw [z0]
      try walk_at "dl"
      refine same_wq (n := n + 7) 3 (Sm.poly (m := m) (b := 0) (N := 1) (M := 1) Mb.nil (by omega) (by simp)) fun S33 f33 => ?_
      try walk_at "dl"
      repeat walk_at "nx"
      exact ⟨(d30.d.fr (f31.trans (f32.trans f33))).d, _, _, _, _, _, _, _, _, _, _, _, _, _, _, _, _, rfl⟩
    · rintro j y e S21 hy ⟨d21, o12, o13, rfl⟩
      have hj : y < m := by simpa using List.mem_of_getElem? hy
      walk_at "dl"
      walk_at "cd"
      have q1 : (f.length + 1) * (54 * 3) < 2 ^ 3900 := Nat.lt_of_le_of_lt (Nat.mul_le_mul_right (54 * 3) (show f.length + 1 ≤ 4 by omega)) (by decide)
      refine derive_wq (b := 3) ho hm (by omega) hj mf (by decide) (by omega) (by decide) (by decide) q1 fun Df S22 pdf0 f22 => ?_
      have pdf : PO m o 3 6 486 3 (sumT (dT f y)) Df := pdf0.mono (Int.le_refl _) (Nat.le_trans (Nat.mul_le_mul_right (54 * 3) lf) (by decide)) lf
      have ldf := pdf.len
      have l1 : (prodT Df g).length ≤ 12 := by rw [prod_len]; exact Nat.mul_le_mul ldf lg
      have q2 : ((prodT Df g).length + 1) * (486 * 72) < 2 ^ 3900 := Nat.lt_of_le_of_lt (Nat.mul_le_mul_right (486 * 72) (show (prodT Df g).length + 1 ≤ 13 by omega)) (by decide)
      refine multiply_poly_wq ho hm (by omega) (by decide) pdf.ok mg (by decide) (by decide) (by decide) (by decide) (by decide) q2 (by omega) fun P0 S23 pP0 f23 => ?_
      have q3 : (g.length + 1) * (72 * 2) < 2 ^ 3900 := Nat.lt_of_le_of_lt (Nat.mul_le_mul_right (72 * 2) (show g.length + 1 ≤ 5 by omega)) (by decide)
      refine derive_wq (b := 2) ho hm (by omega) hj mg (by decide) (by omega) (by decide) (by decide) q3 fun Dg S24 pdg0 f24 => ?_
      have pdg : PO m o 2 6 576 4 (sumT (dT g y)) Dg := pdg0.mono (Int.le_refl _) (Nat.le_trans (Nat.mul_le_mul_right (72 * 2) lg) (by decide)) lg
      have ldg := pdg.len
      have l2 : (prodT f Dg).length ≤ 12 := by rw [prod_len]; exact Nat.mul_le_mul lf ldg
      have q4 : ((prodT f Dg).length + 1) * (54 * 576) < 2 ^ 3900 := Nat.lt_of_le_of_lt (Nat.mul_le_mul_right (54 * 576) (show (prodT f Dg).length + 1 ≤ 13 by omega)) (by decide)
      refine multiply_poly_wq ho hm (by omega) (by decide) mf pdg.ok (by decide) (by decide) (by decide) (by decide) (by decide) q4 (by omega) fun P1 S25 pP1 f25 => ?_
      walk_at "cd"
      have m0 : Mb m 5 36 419904 P0 := Mb.mono pP0.ok (by decide) (Nat.le_trans (Nat.mul_le_mul_right (486 * 72) l1) (by decide))
      have m1 : Mb m 5 36 419904 P1 := Mb.mono pP1.ok (by decide) (Nat.le_trans (Nat.mul_le_mul_right (54 * 576) l2) (by decide))
      have lP0 : P0.length ≤ 12 := Nat.le_trans pP0.len l1
      have lP1 : P1.length ≤ 12 := Nat.le_trans pP1.len l2
      have e0 : sumT P0 = sumT (prodT (dT f y) g) := by rw [can_eq pP0.can]; exact conv_left (Mb.ln pdf.ok) (dT_ln mf.ln y) mg.ln (can_eq pdf.can)
      have e1 : sumT P1 = sumT (prodT f (dT g y)) := by rw [can_eq pP1.can]; exact conv_right mf.ln (Mb.ln pdg.ok) (dT_ln mg.ln y) (can_eq pdg.can)
      have eS : sumT (dT W y) = sumT (P0 ++ P1) := by
        rw [dT_eq hj (Mb.nn pW.ok) (mf.nn.prod mg.nn) (can_eq pW.can)]
        funext e
        rw [leibniz hj e mf.nn mg.nn, sumT_app, sumT_app, e0, e1]
      have d25 := d21.trans (d21.d.fr (f22.trans (f23.trans (f24.trans f25))))
      have d26 := d25.new (.lst [polyD P0, polyD P1])
      have g26 := get_new (S := S25) (o := .lst [polyD P0, polyD P1])
      clear d25 d21 f22 f23 f24 f25 pP0 pP1 pdf0 pdg0
      generalize S25.length = r25 at *
      generalize (S25 ++ [Ob.lst [polyD P0, polyD P1]]) = S26 at *
      walk_at "nx"
      have q5 : (W.length + 1) * (46656 * 5) < 2 ^ 3900 := Nat.lt_of_le_of_lt (Nat.mul_le_mul_right (46656 * 5) (show W.length + 1 ≤ 13 by omega)) (by decide)
      refine derive_wq (b := 5) ho hm (by omega) hj pW.ok (by decide) (by omega) (by decide) (by decide) q5 fun DW S27 pDW f27 => ?_
      have g27 := f27.get _ _ (by simp) g26
      rw [w_ixL g27 atI_0, w_ixL g27 atI_1]
      have q6 : (P0.length + P1.length + 1) * 419904 < 2 ^ 3900 := Nat.lt_of_le_of_lt (Nat.mul_le_mul_right 419904 (show P0.length + P1.length + 1 ≤ 25 by omega)) (by decide)
      refine add_poly_wq ho hm (by omega) (by decide) m0 m1 (by omega) (by decide) q6 fun SS S28 pSS f28 => ?_
      have cc := pDW.can
      rw [eS] at cc
      cases pSS.can.uniq cc
      have lDW := pDW.len
      refine same_wq (n := n + 7) 3 (Sm.poly pDW.ok (by omega) (by omega)) fun S29 f29 => ?_
      try walk_at "dl"
      repeat walk_at "nx"
      exact ⟨d26.trans (d26.d.fr (f27.trans (f28.trans f29))), _, _, rfl⟩
end K05
end

section
set_option Elab.async false
set_option linter.all false
set_option maxRecDepth 100000
/-! Dl: how values over the hand layer's heap stand for data -/
namespace Dl
open PySem PySem.Spec PyProof.Rows L2 LamX

/-- a list that nobody writes -/
def SqF (K : PySem.W.Frag) (H : Hp) (a : Addr) (xs : List V) : Prop :=
  (∃ o, H a = some (.frz o (.lst xs))) ∨
    ∃ (o : Obj) (its : Array Value) (n : Nat), K.lookup a = some o ∧ o.cls = .type "list" ∧ o.dict = none ∧ o.data = .seq its n ∧ its.size ≤ sizeLine ∧ Vals xs its.toList
theorem SqF.sql {K : PySem.W.Frag} {H : Hp} {a : Addr} {xs : List V} (h : SqF K H a xs) : SqL K H a xs := by
  rcases h with h | h
  · exact .inl (.inr h)
  · exact .inr h
mutual
inductive Rep (K : PySem.W.Frag) (ρ : List Addr) (H : Hp) : V → D → Prop where
  | non : Rep K ρ H .non .non
  | bl (b : Bool) : Rep K ρ H (.bl b) (.bl b)
  | int (i : Int) : Rep K ρ H (.int i) (.int i)
  | str (x : Str) : Rep K ρ H (.str x) (.str x)
  | tup {a : Addr} {xs : List V} {ds : List D} : SqT K H a xs → (isKey ds = true → H a = some (.tup xs)) → Reps K ρ H xs ds → Rep K ρ H (.ref a) (.tup ds)
  | ref {a : Addr} {l : Nat} : ρ[l]? = some a → Rep K ρ H (.ref a) (.ref l)
  | ro {a : Addr} {xs : List V} {ds : List D} : SqF K H a xs → Reps K ρ H xs ds → Rep K ρ H (.ref a) (.ro ds)
inductive Reps (K : PySem.W.Frag) (ρ : List Addr) (H : Hp) : List V → List D → Prop where
  | nil : Reps K ρ H [] []
  | cons {v : V} {d : D} {vs : List V} {ds : List D} : Rep K ρ H v d → Reps K ρ H vs ds → Reps K ρ H (v :: vs) (d :: ds)
end
/-- what the heap must keep: tuples and known objects -/
structure Kp (H H' : Hp) : Prop where
  t : ∀ a xs, H a = some (.tup xs) → H' a = some (.tup xs)
  f : ∀ a o u, (∀ ws, u ≠ .dT ws) → H a = some (.frz o u) → H' a = some (.frz o u)
section
variable {K : PySem.W.Frag} {ρ ρ' τ : List Addr} {H H' : Hp}
theorem Kp.refl : Kp H H := ⟨fun _ _ h => h, fun _ _ _ _ h => h⟩
theorem Kp.sqt (k : Kp H H') {a : Addr} {xs : List V} (h : SqT K H a xs) : SqT K H' a xs := by
  rcases h with (h | ⟨o, h⟩) | h
  · exact .inl (.inl (k.t _ _ h))
  · exact .inl (.inr ⟨o, k.f _ _ _ (fun _ z => nomatch z) h⟩)
  · exact .inr h
theorem Kp.sqf (k : Kp H H') {a : Addr} {xs : List V} (h : SqF K H a xs) : SqF K H' a xs := by
  rcases h with ⟨o, h⟩ | h
  · exact .inl ⟨o, k.f _ _ _ (fun _ z => nomatch z) h⟩
  · exact .inr h
mutual
theorem Rep.kp (k : Kp H H') : ∀ {v : V} {d : D}, Rep K ρ H v d → Rep K (ρ ++ τ) H' v d
  | _, _, .non => .non
  | _, _, .bl b => .bl b
  | _, _, .int i => .int i
  | _, _, .str x => .str x
  | _, _, .tup h hk r => .tup (k.sqt h) (fun z => k.t _ _ (hk z)) (Reps.kp k r)
  | _, _, .ref h => .ref (by rw [List.getElem?_append_left (List.getElem?_eq_some_iff.mp h).1]; exact h)
  | _, _, .ro h r => .ro (k.sqf h) (Reps.kp k r)
theorem Reps.kp (k : Kp H H') : ∀ {v : List V} {d : List D}, Reps K ρ H v d → Reps K (ρ ++ τ) H' v d
  | _, _, .nil => .nil
  | _, _, .cons h r => .cons (Rep.kp k h) (Reps.kp k r)
end
theorem Reps.length : ∀ {vs : List V} {ds : List D}, Reps K ρ H vs ds → vs.length = ds.length
  | _, _, .nil => rfl
  | _, _, .cons _ r => congrArg Nat.succ r.length
theorem Reps.append : ∀ {vs ws : List V} {ds es : List D}, Reps K ρ H vs ds → Reps K ρ H ws es → Reps K ρ H (vs ++ ws) (ds ++ es)
  | _, _, _, _, .nil, s => s
  | _, _, _, _, .cons h r, s => .cons h (r.append s)
theorem Reps.get : ∀ {vs : List V} {ds : List D} {i : Nat} {d : D}, Reps K ρ H vs ds → ds[i]? = some d → ∃ v, vs[i]? = some v ∧ Rep K ρ H v d
  | _, _, _, _, .nil, e => by simp at e
  | _, _, 0, _, .cons h r, e => by simp at e; subst e; exact ⟨_, rfl, h⟩
  | _, _, i + 1, _, .cons h r, e => by
    obtain ⟨v, e1, e2⟩ := r.get (i := i) (by simpa using e)
    exact ⟨v, by simpa using e1, e2⟩
theorem Reps.take : ∀ {vs : List V} {ds : List D} (n : Nat), Reps K ρ H vs ds → Reps K ρ H (vs.take n) (ds.take n)
  | _, _, 0, _ => .nil
  | _, _, _ + 1, .nil => .nil
  | _, _, n + 1, .cons h r => .cons h (r.take n)
theorem Reps.drop : ∀ {vs : List V} {ds : List D} (n : Nat), Reps K ρ H vs ds → Reps K ρ H (vs.drop n) (ds.drop n)
  | _, _, 0, r => r
  | _, _, _ + 1, .nil => .nil
  | _, _, n + 1, .cons h r => r.drop n
theorem Reps.reverse : ∀ {vs : List V} {ds : List D}, Reps K ρ H vs ds → Reps K ρ H vs.reverse ds.reverse
  | _, _, .nil => .nil
  | _, _, .cons h r => by
    rw [List.reverse_cons, List.reverse_cons]
    exact r.reverse.append (.cons h .nil)
theorem Reps.set {v : V} {d : D} (h : Rep K ρ H v d) : ∀ {vs : List V} {ds : List D} (i : Nat), Reps K ρ H vs ds → Reps K ρ H (vs.set i v) (ds.set i d)
  | _, _, _, .nil => .nil
  | _, _, 0, .cons _ r => .cons h r
  | _, _, i + 1, .cons g r => .cons g (r.set h i)
theorem Reps.eraseIdx : ∀ {vs : List V} {ds : List D} (i : Nat), Reps K ρ H vs ds → Reps K ρ H (vs.eraseIdx i) (ds.eraseIdx i)
  | _, _, _, .nil => .nil
  | _, _, 0, .cons _ r => r
  | _, _, i + 1, .cons g r => .cons g (r.eraseIdx i)
theorem Reps.dropLast {vs : List V} {ds : List D} (r : Reps K ρ H vs ds) : Reps K ρ H vs.dropLast ds.dropLast := by
  rw [List.dropLast_eq_take, List.dropLast_eq_take, r.length]
  exact r.take _
theorem Reps.replicate {v : V} {d : D} (h : Rep K ρ H v d) : ∀ n : Nat, Reps K ρ H (List.replicate n v) (List.replicate n d)
  | 0 => .nil
  | n + 1 => .cons h (Reps.replicate h n)
theorem Reps.repl {vs : List V} {ds : List D} (r : Reps K ρ H vs ds) : ∀ n : Nat, Reps K ρ H (List.replicate n vs).flatten (List.replicate n ds).flatten
  | 0 => .nil
  | n + 1 => by
    rw [List.replicate_succ, List.replicate_succ, List.flatten_cons, List.flatten_cons]
    exact r.append (Reps.repl r n)
theorem Reps.nil_iff {vs : List V} {ds : List D} (r : Reps K ρ H vs ds) : vs = [] ↔ ds = [] := by
  cases r <;> simp
theorem Reps.ints : ∀ {vs : List V} {ds : List D} {ns : List Int}, Reps K ρ H vs ds → intsOf ds = some ns → vs = ns.map V.int
  | _, _, _, .nil, e => by simp [intsOf] at e; subst e; rfl
  | _, _, _, .cons (d := d) h r, e => by
    cases d <;> simp [intsOf] at e
    obtain ⟨ns, e1, rfl⟩ := e
    cases h
    rw [r.ints e1]; rfl
theorem Reps.bls : ∀ {vs : List V} {ds : List D} {ns : List Bool}, Reps K ρ H vs ds → blsOf ds = some ns → vs = ns.map V.bl
  | _, _, _, .nil, e => by simp [blsOf] at e; subst e; rfl
  | _, _, _, .cons (d := d) h r, e => by
    cases d <;> simp [blsOf] at e
    obtain ⟨ns, e1, rfl⟩ := e
    cases h
    rw [r.bls e1]; rfl
theorem Reps.ofInts : ∀ ns : List Int, Reps K ρ H (ns.map V.int) (ns.map D.int)
  | [] => .nil
  | n :: ns => .cons (.int n) (Reps.ofInts ns)
theorem Rep.flatV {v : V} {d : D} (h : Rep K ρ H v d) (f : flat d = true) : L2.flatV v = true := by
  cases h <;> first | rfl | simp [flat] at f
theorem Reps.allFlat : ∀ {vs : List V} {ds : List D}, Reps K ρ H vs ds → ds.all flat = true → vs.all L2.flatV = true
  | _, _, .nil, _ => rfl
  | _, _, .cons h r, f => by
    simp only [List.all_cons, Bool.and_eq_true] at f ⊢
    exact ⟨h.flatV f.1, r.allFlat f.2⟩
theorem Rep.eqF {v w : V} {d e : D} (h : Rep K ρ H v d) (g : Rep K ρ H w e) (f : flat d = true) (f' : flat e = true) : L2.eqV v w = Dl.eqF d e := by
  cases h <;> first | (simp [flat] at f; done) | (cases g <;> first | rfl | (simp [flat] at f'; done))
theorem Reps.inF {v : V} {d : D} (h : Rep K ρ H v d) (f : flat d = true) : ∀ {vs : List V} {ds : List D}, Reps K ρ H vs ds → ds.all flat = true → L2.inV v vs = Dl.inF d ds
  | _, _, .nil, _ => rfl
  | _, _, .cons g r, k => by
    simp only [List.all_cons, Bool.and_eq_true] at k
    have ih := Reps.inF h f r k.2
    unfold L2.inV Dl.inF at ih ⊢
    rw [List.any_cons, List.any_cons, ih, g.eqF h k.1 f]
end

/-- a dict with tuple keys, locked or not -/
def DtAt (H : Hp) (a : Addr) (ws : List (List Key × V)) : Bool → Prop
  | false => H a = some (.dT ws)
  | true => ∃ o, H a = some (.frz o (.dT ws))
theorem DtAt.rd {H : Hp} {a : Addr} {ws : List (List Key × V)} {lk : Bool} (h : DtAt H a ws lk) : Rd H a (.dT ws) := by
  cases lk with
  | false => exact .inl h
  | true => exact .inr h
theorem DtAt.of {H H' : Hp} {a : Addr} {ws : List (List Key × V)} {lk : Bool} (e : H' a = H a) (h : DtAt H a ws lk) : DtAt H' a ws lk := by
  cases lk with
  | false => exact e.trans h
  | true => obtain ⟨o, h⟩ := h; exact ⟨o, e.trans h⟩
/-- an object of the store at an address -/
def ObR (K : PySem.W.Frag) (ρ : List Addr) (H : Hp) (a : Addr) : Ob → Prop
  | .lst ds => ∃ vs, H a = some (.lst vs) ∧ Reps K ρ H vs ds
  | .dk kvs => ∃ ws, H a = some (.dK ws) ∧ ws.map (·.1) = kvs.map (·.1) ∧ Reps K ρ H (ws.map (·.2)) (kvs.map (·.2))
  | .dt lk kvs => ∃ ws, DtAt H a ws lk ∧ ws.map (·.1) = kvs.map (·.1) ∧ Reps K ρ H (ws.map (·.2)) (kvs.map (·.2))
/-- the one def of the text that makes a lambda; its lambda's name; the table of its code object -/
def lamName : Str := "sorted_powers"
def lamQ : Str := (lamName ++ ".<locals>.") ++ "<lambda>"
def refIn : Option Value → Option Addr
  | some (Value.ref P) => some P
  | _ => none
def codeTab (K : PySem.W.Frag) : Value → Option Addr
  | .ref c => match K.lookup c with
    | some ⟨_, _, .fields vs, _⟩ => refIn vs[11]?
    | _ => none
  | _ => none
def tabAd (K : PySem.W.Frag) : Option Addr := match K.lookup (He.fAd K (lamName, none)) with
  | some ⟨_, _, .func fd, _⟩ => codeTab K fd.code
  | _ => none
/-- the store at its addresses -/
structure WS (K : PySem.W.Frag) (ρ : List Addr) (S : Store) (H : Hp) : Prop where
  nd : ρ.Nodup
  len : ρ.length = S.length
  ob : ∀ (i : Nat) (a : Addr) (o : Ob), ρ[i]? = some a → S[i]? = some o → ObR K ρ H a o
  tab : ∀ P, tabAd K = some P → TabS H P lamQ
/-- the heap has gone on: new objects, old ones changed at ρ alone -/
structure Step (ρ : List Addr) (H : Hp) (ρ' : List Addr) (H' : Hp) : Prop where
  pre : ∃ τ, ρ' = ρ ++ τ
  new : ∀ a ∈ ρ', a ∈ ρ ∨ H a = none
  keep : ∀ a o, a ∉ ρ → H a = some o → (∀ ps, o ≠ .tbl ps) → H' a = some o
  fz : ∀ a o u, H a = some (.frz o u) → H' a = some (.frz o u)
  tb : ∀ a ps, H a = some (.tbl ps) → ∃ ps', H' a = some (.tbl ps')
def ObM : HO → Prop
  | .lst _ => True | .dK _ => True | .dT _ => True | .frz _ (.dT _) => True | _ => False
theorem ObM.ntbl {o : HO} (h : ObM o) (ps : Array Value) : o ≠ .tbl ps := fun e => by subst e; exact h
theorem ObM.next {o : HO} (h : ObM o) (φ : Heap → Prop) : o ≠ .ext φ := fun e => by subst e; exact h
theorem tabM {H : Hp} {P a : Addr} {q : Str} {u o : HO} (t : TabS H P q) (e : H a = some o) (m : ObM o) : TabS (upd H a u) P q := by
  obtain ⟨ps, h1, h2, h3⟩ := t
  refine ⟨ps, by rw [upd_ne (fun z => by rw [z, e] at h1; exact m.ntbl ps (Option.some.inj h1))]; exact h1, h2, fun pos cv hc => ?_⟩
  obtain ⟨c, e1, e2⟩ := h3 pos cv hc
  refine ⟨c, e1, ?_⟩
  rw [upd_ne (fun z => by rw [z, e] at e2; exact m.next _ (Option.some.inj e2))]
  exact e2
theorem tabN {H : Hp} {P a : Addr} {q : Str} {u : HO} (t : TabS H P q) (e : H a = none) : TabS (upd H a u) P q :=
  t.ext fun b o h => by rw [upd_ne (ne_of_none h e)]; exact h
section
variable {K : PySem.W.Frag} {ρ ρ' ρ'' : List Addr} {H H' H'' : Hp} {S S' : Store}
theorem ObR.mut {a : Addr} {o : Ob} (h : ObR K ρ H a o) : ∃ u, H a = some u ∧ ObM u := by
  cases o with
  | lst ds => obtain ⟨vs, e, _⟩ := h; exact ⟨_, e, trivial⟩
  | dk kvs => obtain ⟨vs, e, _⟩ := h; exact ⟨_, e, trivial⟩
  | dt lk kvs =>
    obtain ⟨vs, e, _⟩ := h
    cases lk with
    | false => exact ⟨_, e, trivial⟩
    | true => obtain ⟨o, e⟩ := e; exact ⟨_, e, trivial⟩
theorem WS.mem (w : WS K ρ S H) {a : Addr} (h : a ∈ ρ) : ∃ u, H a = some u ∧ ObM u := by
  obtain ⟨i, hi⟩ := List.getElem?_of_mem h
  have hl : i < S.length := by rw [← w.len]; exact (List.getElem?_eq_some_iff.mp hi).1
  exact (w.ob i a S[i] hi (List.getElem?_eq_getElem hl)).mut
theorem WS.notin (w : WS K ρ S H) {a : Addr} {o : HO} (e : H a = some o) (n : ¬ ObM o) : a ∉ ρ := fun h => by
  obtain ⟨u, e', m⟩ := w.mem h
  rw [e] at e'; cases e'
  exact n m
theorem WS.fresh (w : WS K ρ S H) {a : Addr} (e : H a = none) : a ∉ ρ := fun h => by
  obtain ⟨u, e', m⟩ := w.mem h
  rw [e] at e'; cases e'
theorem Step.refl : Step ρ H ρ H := ⟨⟨[], (List.append_nil _).symm⟩, fun _ h => .inl h, fun _ _ _ h _ => h, fun _ _ _ h => h, fun _ ps h => ⟨ps, h⟩⟩
theorem Step.trans (a : Step ρ H ρ' H') (b : Step ρ' H' ρ'' H'') : Step ρ H ρ'' H'' := by
  obtain ⟨τ, rfl⟩ := a.pre
  obtain ⟨τ', rfl⟩ := b.pre
  refine ⟨⟨τ ++ τ', by rw [List.append_assoc]⟩, fun x hx => ?_, fun x o hx e n => ?_, fun x o u e => b.fz x o u (a.fz x o u e), fun x ps e => let ⟨ps', e'⟩ := a.tb x ps e; b.tb x ps' e'⟩
  · rcases b.new x hx with h | h
    · exact a.new x h
    · by_cases hr : x ∈ ρ
      · exact .inl hr
      · refine .inr ?_
        cases q : H x with
        | none => rfl
        | some u =>
          by_cases ht : ∃ ps, u = .tbl ps
          · obtain ⟨ps, rfl⟩ := ht
            obtain ⟨ps', e'⟩ := a.tb x ps q
            rw [e'] at h; cases h
          · rw [a.keep x u hr q (fun ps z => ht ⟨ps, z⟩)] at h; cases h
  · refine b.keep x o (fun h => ?_) (a.keep x o hx e n) n
    rcases a.new x h with h | h
    · exact hx h
    · rw [e] at h; cases h
theorem Step.stays (s : Step ρ H ρ' H') {a : Addr} {u : HO} (h : a ∉ ρ) (e : H a = some u) : ∃ u', H' a = some u' := by
  by_cases ht : ∃ ps, u = .tbl ps
  · obtain ⟨ps, rfl⟩ := ht
    obtain ⟨ps', e'⟩ := s.tb a ps e
    exact ⟨_, e'⟩
  · exact ⟨u, s.keep a u h e fun ps z => ht ⟨ps, z⟩⟩
theorem Step.lst (s : Step ρ H ρ' H') {a : Addr} {xs : List V} (h : a ∉ ρ) (e : H a = some (.lst xs)) : H' a = some (.lst xs) := s.keep a _ h e fun _ z => nomatch z
theorem Step.kp (w : WS K ρ S H) (s : Step ρ H ρ' H') : Kp H H' := ⟨fun a xs e => s.keep _ _ (w.notin e (fun z => z)) e (fun _ z => nomatch z), fun a o u _ e => s.fz _ _ _ e⟩
theorem Rep.step (w : WS K ρ S H) (s : Step ρ H ρ' H') {v : V} {d : D} (r : Rep K ρ H v d) : Rep K ρ' H' v d := by
  obtain ⟨τ, e⟩ := s.pre
  rw [e]
  exact r.kp (s.kp w)
theorem Reps.step (w : WS K ρ S H) (s : Step ρ H ρ' H') {v : List V} {d : List D} (r : Reps K ρ H v d) : Reps K ρ' H' v d := by
  obtain ⟨τ, e⟩ := s.pre
  rw [e]
  exact r.kp (s.kp w)
theorem ObR.kp {τ : List Addr} {a : Addr} {o : Ob} (k : Kp H H') (e : H' a = H a) (h : ObR K ρ H a o) : ObR K (ρ ++ τ) H' a o := by
  cases o with
  | lst ds => obtain ⟨vs, q, r⟩ := h; exact ⟨vs, by rw [e]; exact q, r.kp k⟩
  | dk kvs => obtain ⟨vs, q, q2, r⟩ := h; exact ⟨vs, by rw [e]; exact q, q2, r.kp k⟩
  | dt lk kvs => obtain ⟨vs, q, q2, r⟩ := h; exact ⟨vs, q.of e, q2, r.kp k⟩
/-- a new tuple -/
theorem Kp.new {p : Addr} {u : HO} (hp : H p = none) : Kp H (upd H p u) :=
  ⟨fun a xs e => by rw [upd_ne (ne_of_none e hp)]; exact e, fun a o z _ e => by rw [upd_ne (ne_of_none e hp)]; exact e⟩
theorem Step.tup {p : Addr} {u : HO} (hp : H p = none) : Step ρ H ρ (upd H p u) :=
  ⟨⟨[], (List.append_nil _).symm⟩, fun _ h => .inl h, fun a o _ e _ => by rw [upd_ne (ne_of_none e hp)]; exact e, fun a o z e => by rw [upd_ne (ne_of_none e hp)]; exact e, fun a ps e => ⟨ps, by rw [upd_ne (ne_of_none e hp)]; exact e⟩⟩
theorem WS.tup (w : WS K ρ S H) {p : Addr} {u : HO} (hp : H p = none) : WS K ρ S (upd H p u) := by
  refine ⟨w.nd, w.len, fun i a o h1 h2 => ?_, fun P hP => tabN (w.tab P hP) hp⟩
  have q := (w.ob i a o h1 h2).kp (τ := []) (Kp.new (u := u) hp) (upd_ne fun e => by subst e; exact w.fresh hp (List.mem_of_getElem? h1))
  rw [List.append_nil] at q
  exact q
/-- a new object of the store -/
theorem Step.alloc {p : Addr} {u : HO} (hp : H p = none) : Step ρ H (ρ ++ [p]) (upd H p u) :=
  ⟨⟨[p], rfl⟩, fun a h => by
    rcases List.mem_append.mp h with h | h
    · exact .inl h
    · rw [List.mem_singleton.mp h]; exact .inr hp, fun a o _ e _ => by rw [upd_ne (ne_of_none e hp)]; exact e, fun a o z e => by rw [upd_ne (ne_of_none e hp)]; exact e, fun a ps e => ⟨ps, by rw [upd_ne (ne_of_none e hp)]; exact e⟩⟩
theorem WS.alloc (w : WS K ρ S H) {p : Addr} {u : HO} {o : Ob} (hp : H p = none) (h : ObR K (ρ ++ [p]) (upd H p u) p o) : WS K (ρ ++ [p]) (S ++ [o]) (upd H p u) := by
  refine ⟨?_, by rw [List.length_append, List.length_append, w.len]; rfl, fun i a o' h1 h2 => ?_, fun P hP => tabN (w.tab P hP) hp⟩
  · refine List.nodup_append.mpr ⟨w.nd, List.nodup_cons.mpr ⟨by simp, List.nodup_nil⟩, fun a ha b hb e => ?_⟩
    rw [List.mem_singleton.mp hb] at e
    subst e
    exact w.fresh hp ha
  · by_cases hi : i < ρ.length
    · rw [List.getElem?_append_left hi] at h1
      rw [List.getElem?_append_left (by rw [← w.len]; exact hi)] at h2
      exact (w.ob i a o' h1 h2).kp (Kp.new (u := u) hp) (upd_ne fun e => by subst e; exact w.fresh hp (List.mem_of_getElem? h1))
    · have e1 : i = ρ.length := by
        have := (List.getElem?_eq_some_iff.mp h1).1
        rw [List.length_append, List.length_singleton] at this
        omega
      subst e1
      rw [List.getElem?_append_right (Nat.le_refl _), Nat.sub_self] at h1
      rw [w.len, List.getElem?_append_right (Nat.le_refl _), Nat.sub_self] at h2
      simp at h1 h2
      subst h1 h2
      exact h
/-- an object of the store is changed -/
theorem Step.set (w : WS K ρ S H) {l : Nat} {a : Addr} {u u0 : HO} (h : ρ[l]? = some a) (h0 : H a = some u0) (hn : ∀ o' u', u0 ≠ .frz o' u') : Step ρ H ρ (upd H a u) := by
  have hm : ObM u0 := by
    obtain ⟨u', e, m⟩ := w.mem (List.mem_of_getElem? h)
    rw [h0] at e; cases e
    exact m
  refine ⟨⟨[], (List.append_nil _).symm⟩, fun _ h => .inl h, fun b o hb e _ => by rw [upd_ne (fun z => hb (by rw [z]; exact List.mem_of_getElem? h))]; exact e, fun b o z e => ?_, fun b ps e => ⟨ps, ?_⟩⟩
  · rw [upd_ne (fun y => by rw [y, h0] at e; exact hn _ _ (Option.some.inj e))]; exact e
  · rw [upd_ne (fun y => by rw [y, h0] at e; exact hm.ntbl _ (Option.some.inj e))]; exact e
theorem WS.setK (w : WS K ρ S H) {l : Nat} {a : Addr} {u : HO} {o : Ob} (h : ρ[l]? = some a) (kp : Kp H (upd H a u)) (ho : ObR K ρ (upd H a u) a o) : WS K ρ (S.set l o) (upd H a u) := by
  refine ⟨w.nd, by rw [List.length_set]; exact w.len, fun i b o' h1 h2 => ?_, fun P hP => ?_⟩
  case refine_2 =>
    obtain ⟨u', e, m⟩ := w.mem (List.mem_of_getElem? h)
    exact tabM (w.tab P hP) e m
  by_cases hi : l = i
  · subst hi
    rw [h] at h1; cases h1
    have hl : l < S.length := by rw [← w.len]; exact (List.getElem?_eq_some_iff.mp h).1
    rw [List.getElem?_set_self hl] at h2
    cases h2
    exact ho
  · rw [List.getElem?_set_ne hi] at h2
    have hne : b ≠ a := fun z => by
      subst z
      have := List.getElem_inj (i := l) (j := i) w.nd (h₀ := (List.getElem?_eq_some_iff.mp h).1) (h₁ := (List.getElem?_eq_some_iff.mp h1).1)
      rw [(List.getElem?_eq_some_iff.mp h).2, (List.getElem?_eq_some_iff.mp h1).2] at this
      exact hi (this.mp rfl)
    have q := (w.ob i b o' h1 h2).kp (τ := []) kp (upd_ne hne)
    rw [List.append_nil] at q
    exact q
theorem WS.set (w : WS K ρ S H) {l : Nat} {a : Addr} {u u0 : HO} {o : Ob} (h : ρ[l]? = some a) (h0 : H a = some u0) (hn : ∀ o' u', u0 ≠ .frz o' u') (ho : ObR K ρ (upd H a u) a o) : WS K ρ (S.set l o) (upd H a u) :=
  w.setK h ((Step.set w (u := u) h h0 hn).kp w) ho
theorem WS.lst (w : WS K ρ S H) {l : Nat} {a : Addr} {ds : List D} (h : ρ[l]? = some a) (e : S[l]? = some (.lst ds)) : ∃ vs, H a = some (.lst vs) ∧ Reps K ρ H vs ds := w.ob l a _ h e
theorem WS.lt (w : WS K ρ S H) {l : Nat} {a : Addr} (h : ρ[l]? = some a) : l < S.length := by rw [← w.len]; exact (List.getElem?_eq_some_iff.mp h).1
theorem Rep.new (w : WS K ρ S H) {p : Addr} : Rep K (ρ ++ [p]) H' (.ref p) (.ref S.length) := .ref (by
  rw [← w.len, List.getElem?_append_right (Nat.le_refl _), Nat.sub_self]; rfl)
end

/-! ### readings from data -/
/-- the slots of a def stand for data -/
structure EnvR (K : PySem.W.Frag) (ρ : List Addr) (H : Hp) (σ : L2.St) (env : Sl) : Prop where
  len : σ.length = env.length
  at_ : ∀ (i : Nat) (d : D), env[i]? = some (some d) → ∃ v, σ[i]? = some (some v) ∧ Rep K ρ H v d
section
variable {K : PySem.W.Frag} {ρ ρ' ρ'' : List Addr} {H H' H'' : Hp} {S S' : Store} {σ : L2.St} {env : Sl}
theorem EnvR.step (e : EnvR K ρ H σ env) (w : WS K ρ S H) (s : Step ρ H ρ' H') : EnvR K ρ' H' σ env :=
  ⟨e.len, fun i d h => let ⟨v, h1, h2⟩ := e.at_ i d h; ⟨v, h1, h2.step w s⟩⟩
theorem EnvR.set (e : EnvR K ρ H σ env) {i : Nat} {v : V} {d : D} (r : Rep K ρ H v d) : EnvR K ρ H (σ.set i (some v)) (env.set i (some d)) := by
  refine ⟨by rw [List.length_set, List.length_set]; exact e.len, fun j d' h => ?_⟩
  by_cases hj : i = j
  · subst hj
    have hl : i < env.length := by
      have := (List.getElem?_eq_some_iff.mp h).1
      rw [List.length_set] at this
      exact this
    rw [List.getElem?_set_self hl] at h
    cases h
    exact ⟨v, List.getElem?_set_self (by rw [e.len]; exact hl), r⟩
  · rw [List.getElem?_set_ne hj] at h ⊢
    exact e.at_ j d' h
theorem EnvR.wipe (e : EnvR K ρ H σ env) : ∀ vs : List Nat, EnvR K ρ H (wipe σ vs) (wipeE env vs)
  | [] => e
  | v :: vs => by
    have ih := EnvR.wipe e vs
    unfold L2.wipe wipeE
    refine ⟨by rw [List.length_set, List.length_set]; exact ih.len, fun j d' h => ?_⟩
    by_cases hj : v = j
    · subst hj
      have hl : v < (wipeE env vs).length := by
        have := (List.getElem?_eq_some_iff.mp h).1
        rw [List.length_set] at this
        exact this
      rw [List.getElem?_set_self hl] at h
      cases h
    · rw [List.getElem?_set_ne hj] at h ⊢
      exact ih.at_ j d' h
/-- what a wished end says of a datum -/
def Post (K : PySem.W.Frag) (ρ : List Addr) (H : Hp) (Q : VK) : D → Store → Prop := fun d S' => ∀ ρ' H' v, Step ρ H ρ' H' → WS K ρ' S' H' → Rep K ρ' H' v d → Q v H'
def PostB (K : PySem.W.Frag) (ρ : List Addr) (H : Hp) (Q : Bool → Hp → Prop) : Bool → Store → Prop := fun d S' => ∀ ρ' H', Step ρ H ρ' H' → WS K ρ' S' H' → Q d H'
def PostS (K : PySem.W.Frag) (ρ : List Addr) (H : Hp) (Q : List V → Hp → Prop) : List D → Store → Prop := fun d S' => ∀ ρ' H' v, Step ρ H ρ' H' → WS K ρ' S' H' → Reps K ρ' H' v d → Q v H'
theorem Post.step {Q : VK} {d : D} (p : Post K ρ H Q d S) (s : Step ρ H ρ' H') : Post K ρ' H' Q d S := fun _ _ v t w r => p _ _ v (s.trans t) w r
theorem PostB.step {Q : Bool → Hp → Prop} {d : Bool} (p : PostB K ρ H Q d S) (s : Step ρ H ρ' H') : PostB K ρ' H' Q d S := fun _ _ t w => p _ _ (s.trans t) w
theorem PostS.step {Q : List V → Hp → Prop} {d : List D} (p : PostS K ρ H Q d S) (s : Step ρ H ρ' H') : PostS K ρ' H' Q d S := fun _ _ v t w r => p _ _ v (s.trans t) w r
/-- readings -/
def TD (K : PySem.W.Frag) (m : Sl → M D) : TE := fun σ H Q => ∃ ρ S env, WS K ρ S H ∧ EnvR K ρ H σ env ∧ wp (m env) (Post K ρ H Q) S
def TB (K : PySem.W.Frag) (m : Sl → M Bool) : TT := fun σ H Q => ∃ ρ S env, WS K ρ S H ∧ EnvR K ρ H σ env ∧ wp (m env) (PostB K ρ H Q) S
def TDs (K : PySem.W.Frag) (m : Sl → M (List D)) : TA := fun σ H Q => ∃ ρ S env, WS K ρ S H ∧ EnvR K ρ H σ env ∧ wp (m env) (PostS K ρ H Q) S
/-- an operator by data -/
def rD (K : PySem.W.Frag) (f : D → D → M D) : R2 := fun v u H Q => ∃ ρ S x y, WS K ρ S H ∧ Rep K ρ H v x ∧ Rep K ρ H u y ∧ wp (f x y) (Post K ρ H Q) S
def rD1 (K : PySem.W.Frag) (f : D → M D) : V → Hp → VK → Prop := fun v H Q => ∃ ρ S x, WS K ρ S H ∧ Rep K ρ H v x ∧ wp (f x) (Post K ρ H Q) S
def rDs (K : PySem.W.Frag) (f : List D → M D) : List V → Hp → VK → Prop := fun vs H Q => ∃ ρ S ds, WS K ρ S H ∧ Reps K ρ H vs ds ∧ wp (f ds) (Post K ρ H Q) S
def rDm (K : PySem.W.Frag) (f : D → List D → M D) : V → List V → Hp → VK → Prop := fun v vs H Q => ∃ ρ S x ds, WS K ρ S H ∧ Rep K ρ H v x ∧ Reps K ρ H vs ds ∧ wp (f x ds) (Post K ρ H Q) S
end
theorem PE.of {X : Cx} {e : Expr} {t t' : TE} (h : PE X e t) (k : ∀ σ H Q, t' σ H Q → t σ H Q) : PE X e t' := ⟨fun pins s σ H Q I hw => h.run pins s σ H Q I (k σ H Q hw)⟩
theorem PT.of {X : Cx} {e : Expr} {t t' : TT} (h : PT X e t) (k : ∀ σ H Q, t' σ H Q → t σ H Q) : PT X e t' := ⟨fun pins s σ H Q I hw => h.run pins s σ H Q I (k σ H Q hw)⟩
theorem PW.of {X : Cx} {e : Expr} {t t' : TT} (h : PW X e t) (k : ∀ σ H Q, t' σ H Q → t σ H Q) : PW X e t' := ⟨fun wh pins s σ H Q I hw => h.run wh pins s σ H Q I (k σ H Q hw)⟩
theorem PA.of {X : Cx} {e : List Expr} {t t' : TA} (h : PA X e t) (k : ∀ σ H Q, t' σ H Q → t σ H Q) : PA X e t' := ⟨fun pos pins s σ H Q I hw => h.run pos pins s σ H Q I (k σ H Q hw)⟩
theorem PS.of {X : Cx} {e : Stmt} {t t' : TS} (h : PS X e t) (k : ∀ D σ H, t' D σ H → t D σ H) : PS X e t' := ⟨fun pins s σ H D I hw => h.run pins s σ H D I (k D σ H hw)⟩
theorem PSs.of {X : Cx} {e : List Stmt} {t t' : TS} (h : PSs X e t) (k : ∀ D σ H, t' D σ H → t D σ H) : PSs X e t' := ⟨fun pins s σ H D I hw => h.run pins s σ H D I (k D σ H hw)⟩
theorem OpR.of {X : Cx} {f : Value → Value → Sem Value} {r r' : R2} (h : OpR X f r) (k : ∀ x y H Q, r' x y H Q → r x y H Q) : OpR X f r' := fun pins s σ H x y v u Q I rx ry q => h pins s σ H x y v u Q I rx ry (k _ _ _ _ q)

/-! ### one thing after another -/
section
variable {K : PySem.W.Frag} {σ : L2.St} {H : Hp}
/-- behind an expression: its datum in the store's new state -/
theorem TD.then_ {m : Sl → M D} {f : D → Sl → M D} {Q : VK} {R : VK} (h : TD K (fun env => do let x ← m env; f x env) σ H Q)
    (k : ∀ ρ S env d v H', WS K ρ S H' → EnvR K ρ H' σ env → Rep K ρ H' v d → wp (f d env) (Post K ρ H' Q) S → R v H') : TD K m σ H R := by
  obtain ⟨ρ, S, env, w, e, h⟩ := h
  rw [wp_bind] at h
  refine ⟨ρ, S, env, w, e, wp_mono h fun d S' q ρ' H' v st w' r => ?_⟩
  exact k ρ' S' env d v H' w' (e.step w st) r (wp_mono q fun d' S'' p => p.step st)
theorem TD.thenB {m : Sl → M D} {f : D → Sl → M Bool} {Q : Bool → Hp → Prop} {R : VK} (h : TB K (fun env => do let x ← m env; f x env) σ H Q)
    (k : ∀ ρ S env d v H', WS K ρ S H' → EnvR K ρ H' σ env → Rep K ρ H' v d → wp (f d env) (PostB K ρ H' Q) S → R v H') : TD K m σ H R := by
  obtain ⟨ρ, S, env, w, e, h⟩ := h
  rw [wp_bind] at h
  refine ⟨ρ, S, env, w, e, wp_mono h fun d S' q ρ' H' v st w' r => ?_⟩
  exact k ρ' S' env d v H' w' (e.step w st) r (wp_mono q fun d' S'' p => p.step st)
theorem TB.then_ {m : Sl → M Bool} {f : Bool → Sl → M D} {Q : VK} {R : Bool → Hp → Prop} (h : TD K (fun env => do let x ← m env; f x env) σ H Q)
    (k : ∀ ρ S env d H', WS K ρ S H' → EnvR K ρ H' σ env → wp (f d env) (Post K ρ H' Q) S → R d H') : TB K m σ H R := by
  obtain ⟨ρ, S, env, w, e, h⟩ := h
  rw [wp_bind] at h
  refine ⟨ρ, S, env, w, e, wp_mono h fun d S' q ρ' H' st w' => ?_⟩
  exact k ρ' S' env d H' w' (e.step w st) (wp_mono q fun d' S'' p => p.step st)
theorem TB.thenB {m : Sl → M Bool} {f : Bool → Sl → M Bool} {Q : Bool → Hp → Prop} {R : Bool → Hp → Prop} (h : TB K (fun env => do let x ← m env; f x env) σ H Q)
    (k : ∀ ρ S env d H', WS K ρ S H' → EnvR K ρ H' σ env → wp (f d env) (PostB K ρ H' Q) S → R d H') : TB K m σ H R := by
  obtain ⟨ρ, S, env, w, e, h⟩ := h
  rw [wp_bind] at h
  refine ⟨ρ, S, env, w, e, wp_mono h fun d S' q ρ' H' st w' => ?_⟩
  exact k ρ' S' env d H' w' (e.step w st) (wp_mono q fun d' S'' p => p.step st)
theorem TDs.then_ {m : Sl → M (List D)} {f : List D → Sl → M D} {Q : VK} {R : List V → Hp → Prop} (h : TD K (fun env => do let x ← m env; f x env) σ H Q)
    (k : ∀ ρ S env d v H', WS K ρ S H' → EnvR K ρ H' σ env → Reps K ρ H' v d → wp (f d env) (Post K ρ H' Q) S → R v H') : TDs K m σ H R := by
  obtain ⟨ρ, S, env, w, e, h⟩ := h
  rw [wp_bind] at h
  refine ⟨ρ, S, env, w, e, wp_mono h fun d S' q ρ' H' v st w' r => ?_⟩
  exact k ρ' S' env d v H' w' (e.step w st) r (wp_mono q fun d' S'' p => p.step st)
theorem TD.thenS {m : Sl → M D} {f : D → Sl → M (List D)} {Q : List V → Hp → Prop} {R : VK} (h : TDs K (fun env => do let x ← m env; f x env) σ H Q)
    (k : ∀ ρ S env d v H', WS K ρ S H' → EnvR K ρ H' σ env → Rep K ρ H' v d → wp (f d env) (PostS K ρ H' Q) S → R v H') : TD K m σ H R := by
  obtain ⟨ρ, S, env, w, e, h⟩ := h
  rw [wp_bind] at h
  refine ⟨ρ, S, env, w, e, wp_mono h fun d S' q ρ' H' v st w' r => ?_⟩
  exact k ρ' S' env d v H' w' (e.step w st) r (wp_mono q fun d' S'' p => p.step st)
theorem TDs.thenS {m : Sl → M (List D)} {f : List D → Sl → M (List D)} {Q : List V → Hp → Prop} {R : List V → Hp → Prop} (h : TDs K (fun env => do let x ← m env; f x env) σ H Q)
    (k : ∀ ρ S env d v H', WS K ρ S H' → EnvR K ρ H' σ env → Reps K ρ H' v d → wp (f d env) (PostS K ρ H' Q) S → R v H') : TDs K m σ H R := by
  obtain ⟨ρ, S, env, w, e, h⟩ := h
  rw [wp_bind] at h
  refine ⟨ρ, S, env, w, e, wp_mono h fun d S' q ρ' H' v st w' r => ?_⟩
  exact k ρ' S' env d v H' w' (e.step w st) r (wp_mono q fun d' S'' p => p.step st)
/-- two expressions and an operator -/
theorem TD.op {ma mb : Sl → M D} {f : D → D → M D} {Q : VK} (h : TD K (fun env => do let x ← ma env; let y ← mb env; f x y) σ H Q) : tOp (rD K f) (TD K ma) (TD K mb) σ H Q := by
  refine TD.then_ (m := ma) (f := fun x env => do let y ← mb env; f x y) h fun ρ S env x v H' w e r h => ?_
  rw [wp_bind] at h
  refine ⟨ρ, S, env, w, e, wp_mono h fun y S' q ρ' H'' u st w' r' => ?_⟩
  exact ⟨ρ', S', x, y, w', r.step w st, r', wp_mono q fun d' S'' p => p.step st⟩
theorem TD.un {ma : Sl → M D} {f : D → M D} {Q : VK} (h : TD K (fun env => do let x ← ma env; f x) σ H Q) : tUn (rD1 K f) (TD K ma) σ H Q :=
  TD.then_ (m := ma) (f := fun x _ => f x) h fun ρ S env x v H' w e r h => ⟨ρ, S, x, w, r, h⟩
theorem TDs.cb {ma : Sl → M (List D)} {f : List D → M D} {Q : VK} (h : TD K (fun env => do let x ← ma env; f x) σ H Q) : tCB (rDs K f) (TDs K ma) σ H Q :=
  TDs.then_ (m := ma) (f := fun x _ => f x) h fun ρ S env x v H' w e r h => ⟨ρ, S, x, w, r, h⟩
end
end Dl
end

section
set_option Elab.async false
set_option linter.all false
set_option maxRecDepth 100000
set_option maxHeartbeats 1000000
/-! Dl: the operations are the machine's -/
namespace Dl
open PySem PySem.Spec PyProof.Rows L2
section
variable {X : Cx} {K : PySem.W.Frag} {ρ : List Addr} {S : Store} {H : Hp} {Q : VK}
theorem Post.int {i : Int} (w : WS K ρ S H) (p : Post K ρ H Q (.int i) S) : Q (.int i) H := p ρ H _ .refl w (.int i)
theorem Post.bl {i : Bool} (w : WS K ρ S H) (p : Post K ρ H Q (.bl i) S) : Q (.bl i) H := p ρ H _ .refl w (.bl i)
theorem Post.str {i : Str} (w : WS K ρ S H) (p : Post K ρ H Q (.str i) S) : Q (.str i) H := p ρ H _ .refl w (.str i)
theorem Post.non (w : WS K ρ S H) (p : Post K ρ H Q .non S) : Q .non H := p ρ H _ .refl w .non
theorem Post.same {v : V} {d : D} (w : WS K ρ S H) (r : Rep K ρ H v d) (p : Post K ρ H Q d S) : Q v H := p ρ H _ .refl w r
/-- a new tuple -/
theorem Post.tup {xs : List V} {ds : List D} (w : WS K ρ S H) (r : Reps K ρ H xs ds) (p : Post K ρ H Q (.tup ds) S) {a : Addr} (ha : H a = none) : Q (.ref a) (upd H a (.tup xs)) :=
  have r' : Reps K (ρ ++ []) (upd H a (.tup xs)) xs ds := r.kp (Kp.new ha)
  p ρ _ _ (.tup ha) (w.tup ha) (.tup (SqT.of upd_same) (fun _ => upd_same) (by rw [List.append_nil] at r'; exact r'))
/-- a new list -/
theorem Post.lst {xs : List V} {ds : List D} (w : WS K ρ S H) (r : Reps K ρ H xs ds) (p : Post K ρ H Q (.ref S.length) (S ++ [.lst ds])) {a : Addr} (ha : H a = none) : Q (.ref a) (upd H a (.lst xs)) :=
  p _ _ _ (.alloc ha) (w.alloc ha ⟨xs, upd_same, r.kp (Kp.new ha)⟩) (Rep.new w)
/-- a list is changed -/
theorem Post.set {xs xs0 : List V} {ds : List D} {l : Nat} {a : Addr} {v : V} {d : D} (w : WS K ρ S H) (h : ρ[l]? = some a) (h0 : H a = some (.lst xs0)) (r : Reps K ρ H xs ds) (rv : Rep K ρ H v d) (p : Post K ρ H Q d (S.set l (.lst ds))) : Q v (upd H a (.lst xs)) := by
  have st := Step.set w (u := .lst xs) h h0 (fun _ _ z => nomatch z)
  have r' : Reps K (ρ ++ []) (upd H a (.lst xs)) xs ds := r.kp (st.kp w)
  rw [List.append_nil] at r'
  exact p ρ _ _ st (w.set h h0 (fun _ _ z => nomatch z) ⟨xs, upd_same, r'⟩) (rv.step w st)
theorem Rep.int_ {v : V} {i : Int} (r : Rep K ρ H v (.int i)) : v = .int i := by cases r; rfl
theorem Rep.str_ {v : V} {i : Str} (r : Rep K ρ H v (.str i)) : v = .str i := by cases r; rfl
theorem Rep.bl_ {v : V} {i : Bool} (r : Rep K ρ H v (.bl i)) : v = .bl i := by cases r; rfl
theorem Rep.non_ {v : V} (r : Rep K ρ H v .non) : v = .non := by cases r; rfl
theorem Rep.tup_ {v : V} {ds : List D} (r : Rep K ρ H v (.tup ds)) : ∃ a xs, v = .ref a ∧ SqT K H a xs ∧ Reps K ρ H xs ds := by cases r; exact ⟨_, _, rfl, by assumption, by assumption⟩
theorem Rep.key_ {v : V} {ds : List D} (r : Rep K ρ H v (.tup ds)) (hk : isKey ds = true) : ∃ a xs, v = .ref a ∧ H a = some (.tup xs) ∧ Reps K ρ H xs ds := by
  cases r with
  | tup h k r => exact ⟨_, _, rfl, k hk, r⟩
theorem Rep.ref_ {v : V} {l : Nat} (r : Rep K ρ H v (.ref l)) : ∃ a, v = .ref a ∧ ρ[l]? = some a := by cases r; exact ⟨_, rfl, by assumption⟩
theorem Rep.ro_ {v : V} {ds : List D} (r : Rep K ρ H v (.ro ds)) : ∃ a xs, v = .ref a ∧ SqF K H a xs ∧ Reps K ρ H xs ds := by cases r; exact ⟨_, _, rfl, by assumption, by assumption⟩
theorem and2 {a b : Bool} (h : (a && b) = true) : a = true ∧ b = true := Bool.and_eq_true_iff.mp h
theorem dec {p : Prop} [Decidable p] (h : decide p = true) : p := of_decide_eq_true h

theorem bop_ok (o : Operator) : OpR X (binaryOp o) (rD X.K (bop o)) := by
  intro pins s σ H v u vv uu Q I rv ru h
  obtain ⟨ρ, S, x, y, w, rx, ry, h⟩ := h
  unfold bop at h
  split at h
  · -- int + int
    cases rx.int_; cases ry.int_
    exact op_add pins s σ H _ _ _ _ Q I rv ru ⟨_, _, rfl, rfl, Post.int w h⟩
  · -- tup + tup
    obtain ⟨a, xs, rfl, hx, r1⟩ := rx.tup_
    obtain ⟨b, ys, rfl, hy, r2⟩ := ry.tup_
    simp only [wp_bind, wp_need, wp_pure] at h
    obtain ⟨hl, h⟩ := h
    have hz := dec hl
    rw [← r1.length, ← r2.length] at hz
    refine op_catA pins s σ H _ _ _ _ Q I rv ru ⟨a, b, xs, ys, rfl, rfl, hx, hy, hz, fun e => ?_, fun _ e => ?_, fun _ _ p hp => Post.tup w (r1.append r2) h hp⟩
    · rw [r1.nil_iff.mp e, List.nil_append] at h
      exact Post.same w ry h
    · rw [r2.nil_iff.mp e, List.append_nil] at h
      exact Post.same w rx h
  · -- list + list
    obtain ⟨a, rfl, h1⟩ := rx.ref_
    obtain ⟨b, rfl, h2⟩ := ry.ref_
    simp only [wp_bind, wp_getO] at h
    obtain ⟨o1, e1, o2, e2, h⟩ := h
    split at h
    · obtain ⟨xs, g1, r1⟩ := w.lst h1 e1
      obtain ⟨ys, g2, r2⟩ := w.lst h2 e2
      simp only [wp_bind, wp_need, wp_newO] at h
      obtain ⟨hl, h⟩ := h
      have hz := dec hl
      rw [← r1.length, ← r2.length] at hz
      exact op_cat pins s σ H _ _ _ _ Q I rv ru ⟨a, b, xs, ys, rfl, rfl, g1, g2, hz, fun p hp => Post.lst w (r1.append r2) h hp⟩
    · exact h.elim
  · -- str + str
    cases rx.str_; cases ry.str_
    simp only [wp_bind, wp_need, wp_pure] at h
    exact op_add_str pins s σ H _ _ _ _ Q I rv ru ⟨_, _, rfl, rfl, dec h.1, Post.str w h.2⟩
  · -- int - int
    cases rx.int_; cases ry.int_
    exact op_sub pins s σ H _ _ _ _ Q I rv ru ⟨_, _, rfl, rfl, Post.int w h⟩
  · -- int * int
    cases rx.int_; cases ry.int_
    simp only [wp_bind, wp_need, wp_pure] at h
    exact op_mulW pins s σ H _ _ _ _ Q I rv ru ⟨_, _, rfl, rfl, of_decide_eq_true (p := _ < _) h.1, Post.int w h.2⟩
  · -- tup * int
    obtain ⟨a, xs, rfl, hx, r1⟩ := rx.tup_
    cases ry.int_
    simp only [wp_bind, wp_need, wp_pure] at h
    obtain ⟨hl, h⟩ := h
    rename_i x k
    obtain ⟨hl, c4⟩ := and2 hl
    obtain ⟨hl, c3⟩ := and2 hl
    obtain ⟨c1, c2⟩ := and2 hl
    have c1 := dec c1; have c2 := dec c2; have c3 := dec c3; have c4 := dec c4
    by_cases hk : k = 1
    · subst hk
      refine op_repT1 pins s σ H _ _ _ _ Q I rv ru ⟨a, xs, rfl, rfl, hx, ?_⟩
      have e : (List.replicate (1 : Int).toNat x).flatten = x := by
        show (List.replicate 1 x).flatten = x
        simp
      rw [e] at h
      exact Post.same w rx h
    · exact op_repT pins s σ H _ _ _ _ Q I rv ru ⟨a, k, xs, rfl, rfl, hx, fun e => c1 (r1.nil_iff.mp e), by omega, c3, by rw [r1.length]; exact c4, fun p hp => Post.tup w (r1.repl k.toNat) h hp⟩
  · -- list * int
    obtain ⟨a, rfl, h1⟩ := rx.ref_
    cases ry.int_
    simp only [wp_bind, wp_getO] at h
    obtain ⟨o1, e1, h⟩ := h
    split at h
    · obtain ⟨xs, g1, r1⟩ := w.lst h1 e1
      simp only [wp_bind, wp_need, wp_newO] at h
      obtain ⟨hl, h⟩ := h
      obtain ⟨hl, c3⟩ := and2 hl
      obtain ⟨c1, c2⟩ := and2 hl
      have c3 := dec c3
      rw [← r1.length] at c3
      exact op_rep pins s σ H _ _ _ _ Q I rv ru ⟨a, _, xs, rfl, rfl, g1, dec c1, dec c2, c3, fun p hp => Post.lst w (r1.repl _) h hp⟩
    · exact h.elim
  · -- int // int
    cases rx.int_; cases ry.int_
    simp only [wp_bind, wp_need, wp_pure] at h
    obtain ⟨c1, c2⟩ := and2 h.1
    have q := Post.int w h.2
    obtain ⟨t, rfl⟩ := rv
    obtain ⟨t', rfl⟩ := ru
    exact floordiv_int (dec c1) ⟨.int _, H, I.tok _, ⟨_, rfl⟩, q⟩ (.inl (PyProof.noPylong_of_log2 (dec c2)))
  · cases rx.int_; cases ry.int_
    simp only [wp_bind, wp_need, wp_pure] at h
    exact op_modN pins s σ H _ _ _ _ Q I rv ru ⟨_, _, rfl, rfl, dec h.1, Post.int w h.2⟩
  · cases rx.int_; cases ry.int_
    simp only [wp_bind, wp_need, wp_pure] at h
    obtain ⟨hl, c3⟩ := and2 h.1
    obtain ⟨c1, c2⟩ := and2 hl
    exact op_pow pins s σ H _ _ _ _ Q I rv ru ⟨_, _, rfl, rfl, ⟨dec c1, dec c2, dec c3⟩, Post.int w h.2⟩
  · cases rx.int_; cases ry.int_
    simp only [wp_bind, wp_need, wp_pure] at h
    obtain ⟨hl, c3⟩ := and2 h.1
    obtain ⟨c1, c2⟩ := and2 hl
    exact op_shl pins s σ H _ _ _ _ Q I rv ru ⟨_, _, rfl, rfl, ⟨dec c1, dec c2, dec c3⟩, Post.int w h.2⟩
  · exact h.elim

/-! ### comparisons -/
mutual
theorem Rep.dp {w : WS K ρ S H} : ∀ {v : V} (d : D) {p : PyData}, Rep K ρ H v d → pyOf d = some p → Dp K H v p
  | _, .non, p, r, e => by simp [pyOf] at e; subst e; cases r.non_; exact .non
  | _, .bl b, p, r, e => by simp [pyOf] at e; subst e; cases r.bl_; exact .bl _
  | _, .int b, p, r, e => by simp [pyOf] at e; subst e; cases r.int_; exact .int _
  | _, .str b, p, r, e => by simp [pyOf] at e; subst e; cases r.str_; exact .str _
  | _, .tup ds, p, r, e => by
    simp [pyOf] at e
    obtain ⟨ps, e1, rfl⟩ := e
    obtain ⟨a, xs, rfl, h1, h2⟩ := r.tup_
    exact .tup h1 (Reps.dp (w := w) ds h2 e1)
  | _, .ref _, p, r, e => by simp [pyOf] at e
  | _, .ro _, p, r, e => by simp [pyOf] at e
theorem Reps.dp {w : WS K ρ S H} : ∀ {vs : List V} (ds : List D) {ps : List PyData}, Reps K ρ H vs ds → pysOf ds = some ps → DpAll K H vs ps
  | _, [], ps, r, e => by simp [pysOf] at e; subst e; cases r; exact .nil
  | _, d :: ds, ps, r, e => by
    cases r with
    | cons h r =>
      simp only [pysOf] at e
      cases e1 : pyOf d with
      | none => rw [e1] at e; simp at e
      | some p =>
        cases e2 : pysOf ds with
        | none => rw [e1, e2] at e; simp at e
        | some qs =>
          rw [e1, e2] at e
          simp at e
          subst e
          exact .cons (Rep.dp (w := w) d h e1) (Reps.dp (w := w) ds r e2)
end
theorem Rep.dpAt (w : WS K ρ S H) {v : V} {d : D} {p : PyData} (r : Rep K ρ H v d) (e : pyAt S d = some p) : Dp K H v p := by
  cases d with
  | ref l =>
    obtain ⟨a, rfl, h⟩ := r.ref_
    simp only [pyAt] at e
    split at e
    · rename_i ds q
      obtain ⟨xs, h1, h2⟩ := w.lst h q
      simp at e
      obtain ⟨ps, e1, rfl⟩ := e
      exact .lst (SqL.of h1) (Reps.dp (w := w) ds h2 e1)
    · cases e
  | _ => exact Rep.dp (w := w) _ r e
theorem Reps.dpsAt (w : WS K ρ S H) : ∀ {vs : List V} {ds : List D} {ps : List PyData}, Reps K ρ H vs ds → pysAt S ds = some ps → DpAll K H vs ps
  | _, _, ps, .nil, e => by simp [pysAt] at e; subst e; exact .nil
  | _, _, ps, .cons (d := d) (ds := ds) h r, e => by
    simp only [pysAt] at e
    cases e1 : pyAt S d with
    | none => rw [e1] at e; simp at e
    | some p =>
      cases e2 : pysAt S ds with
      | none => rw [e1, e2] at e; simp at e
      | some qs =>
        rw [e1, e2] at e
        simp at e
        subst e
        exact .cons (h.dpAt w e1) (Reps.dpsAt w r e2)
theorem remAt_some {xs : List D} {d : D} {S S1 : Store} {j : Nat} (e : remAt xs d S = some (j, S1)) : S1 = S ∧ ∃ ps p, pysAt S xs = some ps ∧ pyAt S d = some p ∧ SeqAt.shaped (.list ps) = true ∧ SeqAt.shaped p = true ∧ (ps.findIdx? fun z => PyData.eqv z p) = some j := by
  unfold remAt at e
  split at e
  · rename_i ps p e1 e2
    split at e
    · rename_i hs
      split at e
      · rename_i j' e3
        cases e
        obtain ⟨s1, s2⟩ := and2 hs
        exact ⟨rfl, ps, p, e1, e2, s1, s2, e3⟩
      · cases e
    · cases e
  · cases e
theorem eqD_wp {a b : D} {R : Bool → Store → Prop} (h : wp (eqD a b) R S) : ∃ x y, pyAt S a = some x ∧ pyAt S b = some y ∧ SeqAt.shaped x = true ∧ SeqAt.shaped y = true ∧ R (PyData.eqv x y) S := by
  unfold wp eqD at h
  cases e1 : pyAt S a with
  | none => simp [e1] at h
  | some x =>
    cases e2 : pyAt S b with
    | none => simp [e1, e2] at h
    | some y =>
      simp only [e1, e2] at h
      by_cases hs : (SeqAt.shaped x && SeqAt.shaped y) = true
      · rw [if_pos hs] at h
        exact ⟨x, y, rfl, rfl, (and2 hs).1, (and2 hs).2, h⟩
      · rw [if_neg hs] at h
        exact h.elim
theorem getL_wp {d : D} {R : List D → Store → Prop} (w : WS K ρ S H) {v : V} (r : Rep K ρ H v d) (h : wp (getL d) R S) : ∃ a xs ds, v = .ref a ∧ SqL K H a xs ∧ Reps K ρ H xs ds ∧ R ds S := by
  cases d with
  | ref l =>
    obtain ⟨a, rfl, h1⟩ := r.ref_
    simp only [getL, wp_bind, wp_getO] at h
    obtain ⟨o, e, h⟩ := h
    split at h
    · obtain ⟨xs, g, r1⟩ := w.lst h1 e
      exact ⟨a, xs, _, rfl, SqL.of g, r1, h⟩
    · exact h.elim
  | ro ds =>
    obtain ⟨a, xs, rfl, h1, r1⟩ := r.ro_
    exact ⟨a, xs, ds, rfl, h1.sql, r1, h⟩
  | _ => exact h.elim
theorem getS_wp {d : D} {R : List D → Store → Prop} (w : WS K ρ S H) {v : V} (r : Rep K ρ H v d) (h : wp (getS d) R S) : ∃ a xs ds, v = .ref a ∧ (SqL K H a xs ∨ SqT K H a xs) ∧ Reps K ρ H xs ds ∧ R ds S := by
  cases d with
  | tup ds =>
    obtain ⟨a, xs, rfl, h1, r1⟩ := r.tup_
    exact ⟨a, xs, ds, rfl, .inr h1, r1, h⟩
  | ref l =>
    obtain ⟨a, xs, ds, e, h1, h2, h3⟩ := getL_wp w r (show wp (getL (.ref l)) R S from h)
    exact ⟨a, xs, ds, e, .inl h1, h2, h3⟩
  | ro l =>
    obtain ⟨a, xs, ds, e, h1, h2, h3⟩ := getL_wp w r (show wp (getL (.ro l)) R S from h)
    exact ⟨a, xs, ds, e, .inl h1, h2, h3⟩
  | _ => exact h.elim
theorem Rep.isNon {v : V} {d : D} (r : Rep K ρ H v d) : decide (v = .non) = decide (d = .non) := by
  cases r <;> simp
abbrev rC (K : PySem.W.Frag) (o : CmpOp) : R2 := rD K fun x y => do let r ← cop o x y; pure (.bl r)
theorem cop_ok (hu : X.A.units + 64 < cLine) (o : CmpOp) : OpR X (compareOp o) (rC X.K o) := by
  intro pins s σ H v u vv uu Q I rv ru h
  obtain ⟨ρ, S, x, y, w, rx, ry, h⟩ := h
  rw [wp_bind] at h
  simp only [wp_pure] at h
  unfold cop at h
  split at h
  · cases rx.int_; cases ry.int_
    exact op_lt pins s σ H _ _ _ _ Q I rv ru ⟨_, _, rfl, rfl, Post.bl w h⟩
  · cases rx.int_; cases ry.int_
    exact op_le pins s σ H _ _ _ _ Q I rv ru ⟨_, _, rfl, rfl, Post.bl w h⟩
  · cases rx.int_; cases ry.int_
    exact op_gt pins s σ H _ _ _ _ Q I rv ru ⟨_, _, rfl, rfl, Post.bl w h⟩
  · cases rx.int_; cases ry.int_
    exact op_ge pins s σ H _ _ _ _ Q I rv ru ⟨_, _, rfl, rfl, Post.bl w h⟩
  · split at h
    · rename_i e1 e2
      obtain ⟨a, xs, rfl, hx, r1⟩ := rx.tup_
      obtain ⟨b, ys, rfl, hy, r2⟩ := ry.tup_
      rw [r1.ints e1] at hx
      rw [r2.ints e2] at hy
      exact op_ltU (by omega) pins s σ H _ _ _ _ Q I rv ru ⟨a, b, _, _, rfl, rfl, hx, hy, Post.bl w h⟩
    · exact h.elim
  · split at h
    · rename_i e1 e2
      obtain ⟨a, xs, rfl, hx, r1⟩ := rx.tup_
      obtain ⟨b, ys, rfl, hy, r2⟩ := ry.tup_
      rw [r1.ints e1] at hx
      rw [r2.ints e2] at hy
      exact op_gtT (by omega) pins s σ H _ _ _ _ Q I rv ru ⟨a, b, _, _, rfl, rfl, hx, hy, Post.bl w h⟩
    · exact h.elim
  · simp only [wp_bind, wp_getO] at h
    obtain ⟨a, rfl, h1⟩ := rx.ref_
    obtain ⟨b, rfl, h2⟩ := ry.ref_
    obtain ⟨o1, e1, o2, e2, h⟩ := h
    split at h
    · obtain ⟨xs, g1, r1⟩ := w.lst h1 e1
      obtain ⟨ys, g2, r2⟩ := w.lst h2 e2
      split at h
      · rename_i e3 e4
        rw [r1.ints e3] at g1
        rw [r2.ints e4] at g2
        exact op_ltL (by omega) pins s σ H _ _ _ _ Q I rv ru ⟨a, b, _, _, rfl, rfl, SqL.of g1, SqL.of g2, Post.bl w h⟩
      · exact h.elim
    · exact h.elim
  · obtain ⟨p, q, e1, e2, s1, s2, h⟩ := eqD_wp h
    exact op_eqD hu pins s σ H _ _ _ _ Q I rv ru ⟨p, q, rx.dpAt w e1, ry.dpAt w e2, s1, s2, Post.bl w h⟩
  · rw [wp_bind] at h
    obtain ⟨p, q, e1, e2, s1, s2, h⟩ := eqD_wp h
    exact op_neD hu pins s σ H _ _ _ _ Q I rv ru ⟨p, q, rx.dpAt w e1, ry.dpAt w e2, s1, s2, Post.bl w h⟩
  · cases ry.non_
    exact op_isN pins s σ H _ _ _ _ Q I rv ru ⟨rfl, by rw [rx.isNon]; exact Post.bl w h⟩
  · cases ry.non_
    exact op_notN pins s σ H _ _ _ _ Q I rv ru ⟨rfl, by rw [rx.isNon]; exact Post.bl w h⟩
  · cases rx.bl_; cases ry.bl_
    exact op_isBl pins s σ H _ _ _ _ Q I rv ru ⟨_, _, rfl, rfl, Post.bl w h⟩
  · cases rx.bl_; cases ry.bl_
    exact op_notBl pins s σ H _ _ _ _ Q I rv ru ⟨_, _, rfl, rfl, Post.bl w h⟩
  · rw [wp_bind] at h
    obtain ⟨a, xs, ds, rfl, hs, r2, h⟩ := getS_wp w ry h
    simp only [wp_bind, wp_need, wp_pure] at h
    obtain ⟨f1, f2⟩ := and2 h.1
    exact op_in_seq pins s σ H _ _ _ _ Q I rv ru ⟨a, xs, rfl, hs, rx.flatV f1, r2.allFlat f2, by
      rw [if_neg Bool.false_ne_true, Reps.inF rx f1 r2 f2]; exact Post.bl w h.2⟩
  · rw [wp_bind] at h
    obtain ⟨a, xs, ds, rfl, hs, r2, h⟩ := getS_wp w ry h
    simp only [wp_bind, wp_need, wp_pure] at h
    obtain ⟨f1, f2⟩ := and2 h.1
    exact op_notIn_seq pins s σ H _ _ _ _ Q I rv ru ⟨a, xs, rfl, hs, rx.flatV f1, r2.allFlat f2, by
      rw [if_pos rfl, Reps.inF rx f1 r2 f2]; exact Post.bl w h.2⟩
  · exact h.elim
/-! ### truth -/
theorem Reps.emp {xs : List V} {ds : List D} (r : Reps K ρ H xs ds) : xs.isEmpty = ds.isEmpty := by cases r <;> rfl
theorem truth_ok (w : WS K ρ S H) {v : V} {d : D} (r : Rep K ρ H v d) {R : Bool → Store → Prop} (h : wp (truth d) R S) : ∃ k, TruV K v H k ∧ R k S := by
  cases d with
  | non => cases r.non_; exact ⟨_, rfl, h⟩
  | bl b => cases r.bl_; exact ⟨_, rfl, h⟩
  | int i => cases r.int_; exact ⟨_, rfl, h⟩
  | str x =>
    cases r.str_
    simp only [truth, wp_bind, wp_need, wp_pure] at h
    exact ⟨_, ⟨dec h.1, rfl⟩, h.2⟩
  | tup ds =>
    obtain ⟨a, xs, rfl, h1, r1⟩ := r.tup_
    exact ⟨_, .inr (.inl ⟨xs, h1, rfl⟩), by rw [r1.emp]; exact h⟩
  | ref l =>
    obtain ⟨a, rfl, h1⟩ := r.ref_
    simp only [truth, wp_bind, wp_getO] at h
    obtain ⟨o, e, h⟩ := h
    split at h
    · obtain ⟨xs, g, r1⟩ := w.lst h1 e
      exact ⟨_, .inl ⟨xs, SqL.of g, rfl⟩, by rw [r1.emp]; exact h⟩
    · exact h.elim
  | ro ds =>
    obtain ⟨a, xs, rfl, h1, r1⟩ := r.ro_
    exact ⟨_, .inl ⟨xs, h1.sql, rfl⟩, by rw [r1.emp]; exact h⟩
/-! ### subscripts, slices -/
theorem Reps.atI {xs : List V} {ds : List D} (r : Reps K ρ H xs ds) {i : Int} {d : D} (e : L2.atI ds i = some d) : ∃ v, L2.atI xs i = some v ∧ Rep K ρ H v d := by
  unfold L2.atI at e ⊢
  rw [r.length]
  cases q : ixN ds.length i with
  | none => rw [q] at e; cases e
  | some j =>
    rw [q] at e
    obtain ⟨v, e1, e2⟩ := r.get (i := j) (d := d) e
    exact ⟨v, e1, e2⟩
theorem ixD_ok : IxR X (rD X.K ixD) := by
  intro value slice pins s σ H v u vv uu Q I rv ru h hs
  obtain ⟨ρ, S, x, y, w, rx, ry, h⟩ := h
  unfold ixD at h
  split at h
  · cases ry.int_
    split at h
    · cases rx.str_
      simp only [wp_bind, wp_need] at h
      obtain ⟨hl, h⟩ := h
      split at h
      · rename_i c e
        exact ix_str value slice pins s σ H _ _ _ _ Q I rv ru ⟨_, _, c, rfl, rfl, dec hl, e, Post.str w h⟩ hs
      · exact h.elim
    · rw [wp_bind] at h
      obtain ⟨a, xs, ds, rfl, hq, r2, h⟩ := getS_wp w rx h
      split at h
      · rename_i d e
        obtain ⟨z, e1, e2⟩ := r2.atI e
        rcases hq with hq | hq
        · exact ix_list value slice pins s σ H _ _ _ _ Q I rv ru ⟨a, xs, _, z, rfl, rfl, hq, e1, Post.same w e2 h⟩ hs
        · exact ix_tup value slice pins s σ H _ _ _ _ Q I rv ru ⟨a, xs, _, z, rfl, rfl, hq, e1, Post.same w e2 h⟩ hs
      · exact h.elim
  · exact h.elim
theorem Reps.cut {xs : List V} {ds : List D} (r : Reps K ρ H xs ds) (lo hi : Option Int) : Reps K ρ H (cutV xs lo hi) (cutD ds lo hi) := by
  unfold cutV cutD
  rw [r.length]
  exact (r.drop _).take _
def rSlD (K : PySem.W.Frag) : V → Option Int → Option Int → Hp → VK → Prop := fun v lo hi H Q => ∃ ρ S x, WS K ρ S H ∧ Rep K ρ H v x ∧ wp (slD x lo hi) (Post K ρ H Q) S
theorem sIx_le_ (n : Nat) (hi : Option Int) : HT.sIx n n hi ≤ n := HT.sIx_le _ _ (Nat.le_refl _) hi
theorem slD_ok : SlR X (rSlD X.K) := by
  intro pins s σ H v vv vl vu lo hi sl Q I rv hs pl pu h
  obtain ⟨ρ, S, x, w, rx, h⟩ := h
  unfold slD at h
  split at h
  · obtain ⟨a, xs, rfl, hx, r1⟩ := rx.tup_
    refine sl_tupA pins s σ H _ _ vl vu lo hi sl Q I rv hs pl pu ⟨a, xs, rfl, hx, fun e => ?_, fun _ p hp => Post.tup w (r1.cut lo hi) h hp⟩
    rename_i ds
    have ec : cutD ds lo hi = ds := by
      unfold cutD
      rw [r1.length] at e
      rw [e.1, e.2]
      simp
    rw [ec] at h
    exact Post.same w rx h
  · obtain ⟨a, rfl, h1⟩ := rx.ref_
    simp only [wp_bind, wp_getO] at h
    obtain ⟨o1, e1, h⟩ := h
    split at h
    · obtain ⟨xs, g1, r1⟩ := w.lst h1 e1
      exact sl_list pins s σ H _ _ vl vu lo hi sl Q I rv hs pl pu ⟨a, xs, rfl, SqL.of g1, fun p hp => Post.lst w (r1.cut lo hi) h hp⟩
    · exact h.elim
  · obtain ⟨a, xs, rfl, h1, r1⟩ := rx.ro_
    exact sl_list pins s σ H _ _ vl vu lo hi sl Q I rv hs pl pu ⟨a, xs, rfl, h1.sql, fun p hp => Post.lst w (r1.cut lo hi) h hp⟩
  · cases rx.str_
    simp only [wp_bind, wp_need, wp_pure] at h
    exact sl_str pins s σ H _ _ vl vu lo hi sl Q I rv hs pl pu ⟨_, rfl, dec h.1, Post.same w (.str _) h.2⟩
  · exact h.elim
theorem rev_ok {e : Expr} {te : TE} {k : Nat} {p1 p2 p3 pos : Pos} (he : PE X e te) : PE X (.Subscript e (.Slice none none (some (.UnaryOp .USub (.Constant (.int 1) k p1) p2)) p3) pos) (tUn (rD1 X.K revD) te) := by
  refine ⟨fun pins s σ H Q I h => ?_⟩
  refine Subscript_ (thn (he.run pins s σ H _ I h) fun v s1 ⟨x, H1, I1, r1, q1⟩ => ?_)
  obtain ⟨ρ, S, d, w, rx, h⟩ := q1
  have hst : PO X (some (.UnaryOp .USub (.Constant (.int 1) k p1) p2)) (tPart (tUn (rU fun i => .int (-i)) (tC (.int 1)))) := po_some (pe_un un_neg pe_int)
  refine wpAny_Slice (thn (po_none.run pins s1 σ H1 (fun o H2 => o = none ∧ H2 = H1) I1 ⟨rfl, rfl⟩) fun vl s2 ⟨l, H2, I2, pl, el, e2⟩ => ?_)
  subst el e2
  refine thn (po_none.run pins s2 σ H2 (fun o H3 => o = none ∧ H3 = H2) I2 ⟨rfl, rfl⟩) fun vu s3 ⟨u, H3, I3, pu, eu, e3⟩ => ?_
  subst eu e3
  refine thn (hst.run pins s3 σ H3 (fun o H4 => o = some (-1) ∧ H4 = H3) I3 ⟨1, rfl, -1, rfl, rfl, rfl⟩) fun vs s4 ⟨o, H4, I4, ps, eo, e4⟩ => ?_
  subst eo e4
  have I5 : Inv X pins σ H4 { s4 with heap := s4.heap.push { cls := .type "slice", data := .fields #[vl, vu, vs] } } := I4.kept (t' := s4.toks) fun b ob q => Heap.get?_push_of_some _ q
  unfold revD at h
  split at h
  · obtain ⟨a, xs, rfl, hx, r2⟩ := rx.tup_
    cases r1
    obtain ⟨its, r, ht, hz⟩ := I5.tuple hx
    have hlen := r.length
    show wpAny (model X.prog X.w) X.A (subscriptTail e (.Slice none none (some (.UnaryOp .USub (.Constant (.int 1) k p1) p2)) p3) (.ref a) (.ref s4.heap.objs.size)) (EP X pins σ Q) X.xe { s4 with heap := s4.heap.push { cls := .type "slice", data := .fields #[vl, vu, vs] } }
    refine tail_any (ops := [.ref a, .ref s4.heap.objs.size]) ht.typeIs (PyProof.Rows.slot_tuple_getitem.lookup) ?_ (by with_unfolding_all rfl)
    refine getItem_tuple_rev ht (Heap.IsSliceOf.new _ vl vu vs) pl pu ps ?_ (by rw [List.size_toArray]; omega)
    refine ⟨.ref _, _, I5.laid (t' := s4.toks) (o := .tup xs.reverse) (fun b ob q => Heap.get?_push_of_some _ q) (Nat.le_refl _) ?_, rfl, Post.tup w r2.reverse h (I5.hok.fresh (Nat.le_refl _))⟩
    exact ⟨by rw [List.length_reverse]; exact hz, _, r.reverse, IsTup.new _ _⟩
  · obtain ⟨a, rfl, h1⟩ := rx.ref_
    simp only [wp_bind, wp_getO] at h
    obtain ⟨o1, e1, h⟩ := h
    split at h
    · obtain ⟨xs, g1, r2⟩ := w.lst h1 e1
      cases r1
      obtain ⟨its, r, ht, hz⟩ := I5.list (SqL.of g1)
      have hlen := r.length
      show wpAny (model X.prog X.w) X.A (subscriptTail e (.Slice none none (some (.UnaryOp .USub (.Constant (.int 1) k p1) p2)) p3) (.ref a) (.ref s4.heap.objs.size)) (EP X pins σ Q) X.xe { s4 with heap := s4.heap.push { cls := .type "slice", data := .fields #[vl, vu, vs] } }
      refine tail_any (ops := [.ref a, .ref s4.heap.objs.size]) ht.isList.typeIs (PySem.slot_list_getitem.lookup) ?_ (by with_unfolding_all rfl)
      refine wpAny_getItem_list_slice ht.isList (Heap.IsSliceOf.new _ vl vu vs) pl pu ps (by decide) ?_ (by rw [List.size_toArray]; omega)
      rw [PySem.W.krv_pick]
      refine ⟨.ref _, _, I5.laid (t' := s4.toks) (o := .lst xs.reverse) (fun b ob q => Heap.get?_push_of_some _ q) (Nat.le_refl _) ?_, rfl, Post.lst w r2.reverse h (I5.hok.fresh (Nat.le_refl _))⟩
      exact ⟨by rw [List.length_reverse]; exact hz, _, 0, r.reverse, Heap.get?_push_size _ rfl⟩
    · exact h.elim
  · exact h.elim

/-! ### built-ins -/
def Bi.val : Bi → Value
  | .len => .builtin "len" | .sum => .builtin "sum" | .abs => .builtin "abs" | .int => .type "int" | .max => .builtin "max" | .min => .builtin "min"
  | .tuple => .type "tuple" | .list => .type "list" | .all => .builtin "all" | .any => .builtin "any" | .gcd => .builtin "math.gcd"
theorem Reps.one_ {vs : List V} {d : D} (r : Reps K ρ H vs [d]) : ∃ v, vs = [v] ∧ Rep K ρ H v d := by
  cases r with
  | cons h r => cases r; exact ⟨_, rfl, h⟩
theorem Reps.two_ {vs : List V} {d e : D} (r : Reps K ρ H vs [d, e]) : ∃ v u, vs = [v, u] ∧ Rep K ρ H v d ∧ Rep K ρ H u e := by
  cases r with
  | cons h r =>
    cases r with
    | cons g r => cases r; exact ⟨_, _, rfl, h, g⟩
theorem bi_ok (hc : X.calm = true) (b : Bi) : CallR X b.val (rDs X.K (biRun b)) := by
  intro pins s σ H vs us Q I rv h
  obtain ⟨ρ, S, ds, w, r, h⟩ := h
  unfold biRun at h
  split at h
  · obtain ⟨v, rfl, rx⟩ := r.one_
    cases rx.str_
    simp only [wp_bind, wp_need, wp_pure] at h
    exact call_len_str pins s σ H _ us Q I rv ⟨_, rfl, dec h.1, Post.int w h.2⟩
  · obtain ⟨v, rfl, rx⟩ := r.one_
    rw [wp_bind] at h
    obtain ⟨a, xs, ds, rfl, hq, r2, h⟩ := getS_wp w rx h
    exact call_len_seq pins s σ H _ us Q I rv ⟨a, xs, rfl, hq, by rw [r2.length]; exact Post.int w h⟩
  · obtain ⟨v, rfl, rx⟩ := r.one_
    rw [wp_bind] at h
    obtain ⟨a, xs, ds, rfl, hq, r2, h⟩ := getS_wp w rx h
    split at h
    · rename_i ns e
      rw [r2.ints e] at hq
      rcases hq with hq | hq
      · exact cr_sum hc pins s σ H _ us Q I rv ⟨a, ns, rfl, hq, Post.int w h⟩
      · exact cr_sumT hc pins s σ H _ us Q I rv ⟨a, ns, rfl, hq, Post.int w h⟩
    · exact h.elim
  · obtain ⟨v, rfl, rx⟩ := r.one_
    cases rx.int_
    exact call_abs pins s σ H _ us Q I rv ⟨_, rfl, Post.int w h⟩
  · obtain ⟨v, rfl, rx⟩ := r.one_
    cases rx.int_
    exact call_int1 pins s σ H _ us Q I rv (.inl ⟨_, rfl, Post.int w h⟩)
  · obtain ⟨v, rfl, rx⟩ := r.one_
    cases rx.bl_
    exact call_int1 pins s σ H _ us Q I rv (.inr ⟨_, rfl, Post.int w h⟩)
  · obtain ⟨v, u, rfl, rx, ry⟩ := r.two_
    cases rx.int_; cases ry.int_
    exact call_max2 hc pins s σ H _ us Q I rv ⟨_, _, rfl, Post.int w h⟩
  · obtain ⟨v, u, rfl, rx, ry⟩ := r.two_
    cases rx.int_; cases ry.int_
    exact call_min2 hc pins s σ H _ us Q I rv ⟨_, _, rfl, Post.int w h⟩
  · obtain ⟨v, rfl, rx⟩ := r.one_
    rename_i d
    cases d with
    | tup ds =>
      obtain ⟨a, xs, rfl, hx, r2⟩ := rx.tup_
      exact call_tuple_of pins s σ H _ us Q I rv ⟨a, xs, rfl, .inr ⟨hx, Post.same w rx h⟩⟩
    | ref l =>
      rw [wp_bind] at h
      obtain ⟨a, xs, ds, rfl, hq, r2, h⟩ := getL_wp w rx (show wp (getL (.ref l)) _ S from h)
      exact call_tuple_of pins s σ H _ us Q I rv ⟨a, xs, rfl, .inl ⟨hq, fun p hp => Post.tup w r2 h hp⟩⟩
    | ro l =>
      rw [wp_bind] at h
      obtain ⟨a, xs, ds, rfl, hq, r2, h⟩ := getL_wp w rx (show wp (getL (.ro l)) _ S from h)
      exact call_tuple_of pins s σ H _ us Q I rv ⟨a, xs, rfl, .inl ⟨hq, fun p hp => Post.tup w r2 h hp⟩⟩
    | _ => rw [wp_bind] at h; exact h.elim
  · obtain ⟨v, rfl, rx⟩ := r.one_
    rw [wp_bind] at h
    obtain ⟨a, xs, ds, rfl, hq, r2, h⟩ := getS_wp w rx h
    exact call_list_of pins s σ H _ us Q I rv ⟨a, xs, rfl, hq, fun p hp => Post.lst w r2 h hp⟩
  · obtain ⟨v, rfl, rx⟩ := r.one_
    rw [wp_bind] at h
    obtain ⟨a, xs, ds, rfl, hq, r2, h⟩ := getL_wp w rx h
    split at h
    · rename_i ns e
      rw [r2.bls e] at hq
      exact cr_all hc pins s σ H _ us Q I rv ⟨a, ns, rfl, hq, Post.bl w h⟩
    · exact h.elim
  · obtain ⟨v, rfl, rx⟩ := r.one_
    rw [wp_bind] at h
    obtain ⟨a, xs, ds, rfl, hq, r2, h⟩ := getL_wp w rx h
    split at h
    · rename_i ns e
      rw [r2.bls e] at hq
      exact cr_any hc pins s σ H _ us Q I rv ⟨a, ns, rfl, hq, Post.bl w h⟩
    · exact h.elim
  · obtain ⟨v, u, rfl, rx, ry⟩ := r.two_
    cases rx.int_; cases ry.int_
    exact cr_gcd pins s σ H _ us Q I rv ⟨_, _, rfl, Post.int w h⟩
  · exact h.elim
/-! ### methods -/
def Me.id : Me → String
  | .append => "list.append" | .pop => "list.pop" | .popAt => "list.pop" | .reverse => "list.reverse" | .remove => "list.remove"
theorem me_ok (hu : X.A.units + 65 < cLine) (m : Me) : MtR X m.id (rDm X.K (meRun m)) := by
  intro pins s σ H v vs vv us Q I rv rvs h
  obtain ⟨ρ, S, x, ds, w, rx, r, h⟩ := h
  unfold meRun at h
  split at h
  · obtain ⟨a, rfl, h1⟩ := rx.ref_
    simp only [wp_bind, wp_getO] at h
    obtain ⟨o1, e1, h⟩ := h
    split at h
    · obtain ⟨xs, g1, r1⟩ := w.lst h1 e1
      split at h
      · obtain ⟨y, rfl, ry⟩ := r.one_
        simp only [wp_bind, wp_need, wp_setO, wp_pure] at h
        obtain ⟨hl, _, h⟩ := h
        have hl := dec hl
        rw [← r1.length] at hl
        exact mt_append pins s σ H _ _ _ us Q I rv rvs ⟨a, xs, y, rfl, rfl, g1, hl, Post.set w h1 g1 (r1.append (.cons ry .nil)) .non h⟩
      · cases r
        split at h
        · rename_i y e
          simp only [wp_bind, wp_setO, wp_pure] at h
          obtain ⟨z, e2, rz⟩ := r1.get e
          rw [← r1.length] at e2
          exact mt_pop pins s σ H _ _ _ us Q I rv rvs ⟨a, xs, z, rfl, rfl, g1, e2, Post.set w h1 g1 r1.dropLast rz h.2⟩
        · exact h.elim
      · obtain ⟨y, rfl, ry⟩ := r.one_
        cases ry.int_
        simp only [wp_bind, wp_need] at h
        obtain ⟨hl, h⟩ := h
        obtain ⟨c1, c2⟩ := and2 hl
        split at h
        · rename_i k ek
          split at h
          · rename_i y e
            simp only [wp_bind, wp_setO, wp_pure] at h
            obtain ⟨z, e2, rz⟩ := r1.get e
            have ek2 := (ixN_seq ek).1
            rw [← r1.length] at ek2
            exact mt_popAt pins s σ H _ _ _ us Q I rv rvs ⟨a, xs, _, k, z, rfl, rfl, g1, dec c1, dec c2, ek2, e2, Post.set w h1 g1 (r1.eraseIdx k) rz h.2⟩
          · exact h.elim
        · exact h.elim
      · cases r
        simp only [wp_bind, wp_setO, wp_pure] at h
        exact mt_reverse pins s σ H _ _ _ us Q I rv rvs ⟨a, xs, rfl, rfl, g1, Post.set w h1 g1 r1.reverse .non h.2⟩
      · obtain ⟨y, rfl, ry⟩ := r.one_
        simp only [wp_bind, wp_setO, wp_pure] at h
        obtain ⟨j, S1, e, h2⟩ := wp_some h
        obtain ⟨es, ps, p, q1, q2, q3, q4, q5⟩ := remAt_some e
        subst es
        exact mt_removeD hu pins s σ H _ _ _ us Q I rv rvs ⟨a, xs, y, p, ps, j, rfl, rfl, g1, Reps.dpsAt w r1 q1, ry.dpAt w q2, q3, q4, q5, Post.set w h1 g1 (r1.eraseIdx j) .non h2.2⟩
      · exact h.elim
    · exact h.elim
  · exact h.elim
theorem me_ty (m : Me) (w : WS K ρ S H) {v : V} {x : D} {ds : List D} {R : D → Store → Prop} (rx : Rep K ρ H v x) (h : wp (meRun m x ds) R S) : tyV K "list" v H := by
  unfold meRun at h
  split at h
  · obtain ⟨a, rfl, h1⟩ := rx.ref_
    simp only [wp_bind, wp_getO] at h
    obtain ⟨o1, e1, h⟩ := h
    split at h
    · obtain ⟨xs, g1, r1⟩ := w.lst h1 e1
      exact .inl ⟨rfl, xs, SqL.of g1⟩
    · exact h.elim
  · exact h.elim
/-! ### isinstance -/
theorem isTy_ok (w : WS K ρ S H) {v : V} {d : D} (r : Rep K ρ H v d) {t : Ty} {b : Bool} (e : isTy S d t = some b) : ∃ tv, TyX K H v tv ∧ ∀ t' b', isTy S d t' = some b' → PySem.W.kitOne K tv (.type t'.name) = some b' := by
  cases d with
  | non =>
    cases r.non_
    refine ⟨_, .base .non, fun t' b' e' => ?_⟩
    simp only [isTy, Option.some.injEq] at e'
    subst e'
    cases t' <;> exact kit_ty (by decide +kernel)
  | bl x =>
    cases r.bl_
    refine ⟨_, .base (.bl x), fun t' b' e' => ?_⟩
    simp only [isTy, Option.some.injEq] at e'
    subst e'
    cases t' <;> exact kit_ty (by decide +kernel)
  | int x =>
    cases r.int_
    refine ⟨_, .base (.int x), fun t' b' e' => ?_⟩
    simp only [isTy, Option.some.injEq] at e'
    subst e'
    cases t' <;> exact kit_ty (by decide +kernel)
  | str x =>
    cases r.str_
    refine ⟨_, .base (.str x), fun t' b' e' => ?_⟩
    simp only [isTy, Option.some.injEq] at e'
    subst e'
    cases t' <;> exact kit_ty (by decide +kernel)
  | tup ds =>
    obtain ⟨a, xs, rfl, hx, r1⟩ := r.tup_
    have ty : TyX K H (.ref a) (.type "tuple") := by
      rcases hx with (h | ⟨o, h⟩) | ⟨o, its, n, h, hc, _⟩
      · exact .base (.tup h)
      · exact .fTuple h
      · exact .kTuple h hc
    refine ⟨_, ty, fun t' b' e' => ?_⟩
    simp only [isTy, Option.some.injEq] at e'
    subst e'
    cases t' <;> exact kit_ty (by decide +kernel)
  | ref l =>
    obtain ⟨a, rfl, h1⟩ := r.ref_
    simp only [isTy] at e
    split at e
    · rename_i q
      obtain ⟨xs, g, r1⟩ := w.lst h1 q
      refine ⟨_, .base (.lst g), fun t' b' e' => ?_⟩
      simp only [isTy, q, Option.some.injEq] at e'
      subst e'
      cases t' <;> exact kit_ty (by decide +kernel)
    · cases e
  | ro ds =>
    obtain ⟨a, xs, rfl, hx, r1⟩ := r.ro_
    have ty : TyX K H (.ref a) (.type "list") := by
      rcases hx with ⟨o, h⟩ | ⟨o, its, n, h, hc, _⟩
      · exact .base (.frz h)
      · exact .kList h hc
    refine ⟨_, ty, fun t' b' e' => ?_⟩
    simp only [isTy, Option.some.injEq] at e'
    subst e'
    cases t' <;> exact kit_ty (by decide +kernel)
theorem anyTy_kit {tv : Value} {d : D} (f : ∀ t' b', isTy S d t' = some b' → PySem.W.kitOne K tv (.type t'.name) = some b') : ∀ (ts : List Ty) {b : Bool}, anyTy S d ts = some b → PySem.W.kitAny K tv (ts.map fun t => .type t.name) = some b
  | [], b, e => by simp only [anyTy, Option.some.injEq] at e; subst e; rfl
  | t :: ts, b, e => by
    simp only [anyTy] at e
    split at e
    · rename_i q
      cases e
      exact kitAny_cons (f _ _ q) (fun z => by cases z) fun _ => rfl
    · rename_i q
      exact kitAny_cons (f _ _ q) (fun _ => anyTy_kit f ts e) fun z => by cases z
    · cases e
def rIs1 (K : PySem.W.Frag) (t : Ty) : List V → Hp → VK → Prop := fun xs H Q => ∃ v ρ S d, xs = [v, .ty t.name] ∧ WS K ρ S H ∧ Rep K ρ H v d ∧ wp (isiRun d [t]) (Post K ρ H Q) S
theorem isi1_ok (t : Ty) : CallR X (.builtin "isinstance") (rIs1 X.K t) := by
  intro pins s σ H xs us Q I rv h
  obtain ⟨v, ρ, S, d, rfl, w, r, h⟩ := h
  unfold wp isiRun at h
  simp only [anyTy] at h
  cases e : isTy S d t with
  | none => rw [e] at h; exact h.elim
  | some b =>
    obtain ⟨tv, ty, f⟩ := isTy_ok w r e
    refine call_isi pins s σ H _ us Q I rv ⟨v, .ty t.name, tv, _, b, rfl, .ty _, ty, f _ _ e, ?_⟩
    rw [e] at h
    cases b <;> exact Post.bl w h
def rIsN (K : PySem.W.Frag) (ts : List Ty) : List V → Hp → VK → Prop := fun xs H Q => ∃ v tp ρ S d, xs = [v, .ref tp] ∧ H tp = some (.tup (ts.map fun t => .ty t.name)) ∧ WS K ρ S H ∧ Rep K ρ H v d ∧ wp (isiRun d ts) (Post K ρ H Q) S
theorem paired_ty : ∀ ts : List Ty, Paired ClsV (ts.map fun t => V.ty t.name) (ts.map fun t => Value.type t.name)
  | [] => .nil
  | t :: ts => .cons (.ty _) (paired_ty ts)
theorem isiN_ok (ts : List Ty) (hne : ts ≠ []) : CallR X (.builtin "isinstance") (rIsN X.K ts) := by
  intro pins s σ H xs us Q I rv h
  obtain ⟨v, tp, ρ, S, d, rfl, ht, w, r, h⟩ := h
  unfold wp isiRun at h
  cases e : anyTy S d ts with
  | none => rw [e] at h; exact h.elim
  | some b =>
    rw [e] at h
    cases ts with
    | nil => exact absurd rfl hne
    | cons t ts =>
      have e1 : ∃ b1, isTy S d t = some b1 := by
        simp only [anyTy] at e
        cases q : isTy S d t with
        | none => rw [q] at e; cases e
        | some b1 => exact ⟨b1, rfl⟩
      obtain ⟨b1, e1⟩ := e1
      obtain ⟨tv, ty, f⟩ := isTy_ok w r e1
      exact call_isiT pins s σ H _ us Q I rv ⟨v, tp, _, tv, _, b, rfl, ht, paired_ty _, ty, anyTy_kit f _ e, Post.bl w h⟩
/-! ### stores -/
def rSetD (K : PySem.W.Frag) : V → V → V → Hp → (Hp → Prop) → Prop := fun o i v H Q => ∃ ρ S x y z, WS K ρ S H ∧ Rep K ρ H o x ∧ Rep K ρ H i y ∧ Rep K ρ H v z ∧
  wp (setIx x y z) (fun _ S' => ∀ ρ' H', Step ρ H ρ' H' → WS K ρ' S' H' → Q H') S
theorem set_ok : PSet X (rSetD X.K) := by
  intro pins s σ H o i v ov iv u Q I ro ri rv h
  obtain ⟨ρ, S, x, y, z, w, rx, ry, rz, h⟩ := h
  unfold setIx at h
  split at h
  · obtain ⟨a, rfl, h1⟩ := rx.ref_
    cases ry.int_
    simp only [wp_bind, wp_getO] at h
    obtain ⟨o1, e1, h⟩ := h
    split at h
    · obtain ⟨xs, g1, r1⟩ := w.lst h1 e1
      split at h
      · rename_i j ej
        simp only [wp_setO] at h
        have st := Step.set w (u := .lst (xs.set j v)) h1 g1 (fun _ _ z => nomatch z)
        have r' : Reps X.K (ρ ++ []) (upd H a (.lst (xs.set j v))) (xs.set j v) _ := (r1.set rz j).kp (st.kp w)
        rw [List.append_nil] at r'
        rw [← r1.length] at ej
        exact set_list pins s σ H _ _ _ ov iv u Q I ro ri rv ⟨a, xs, _, j, rfl, rfl, g1, ej, h.2 _ _ st (w.set h1 g1 (fun _ _ z => nomatch z) ⟨_, upd_same, r'⟩)⟩
      · exact h.elim
    · exact h.elim
  · exact h.elim
end
end Dl
end

section
set_option Elab.async false
set_option linter.all false
set_option maxRecDepth 100000
set_option maxHeartbeats 1000000
/-! Dl: dicts with tuple keys: the operations are the machine's -/
namespace Dl
open PySem PySem.Spec PyProof.Rows L2
section
variable {X : Cx} {K : PySem.W.Frag} {ρ : List Addr} {S : Store} {H : Hp} {Q : VK}
/-- the entries stand for each other -/
inductive RKV (K : PySem.W.Frag) (ρ : List Addr) (H : Hp) : List (List Key × V) → List (List Key × D) → Prop where
  | nil : RKV K ρ H [] []
  | cons {k : List Key} {v : V} {d : D} {ws : List (List Key × V)} {kvs : List (List Key × D)} : Rep K ρ H v d → RKV K ρ H ws kvs → RKV K ρ H ((k, v) :: ws) ((k, d) :: kvs)
theorem rkv_of : ∀ {ws : List (List Key × V)} {kvs : List (List Key × D)}, ws.map (·.1) = kvs.map (·.1) → Reps K ρ H (ws.map (·.2)) (kvs.map (·.2)) → RKV K ρ H ws kvs
  | [], [], _, _ => .nil
  | [], _ :: _, h, _ => by simp at h
  | _ :: _, [], h, _ => by simp at h
  | (k, v) :: ws, (k', d) :: kvs, h, r => by
    simp only [List.map_cons, List.cons.injEq] at h
    obtain ⟨rfl, h⟩ := h
    cases r with
    | cons r1 r2 => exact .cons r1 (rkv_of h r2)
theorem RKV.keys : ∀ {ws : List (List Key × V)} {kvs : List (List Key × D)}, RKV K ρ H ws kvs → ws.map (·.1) = kvs.map (·.1)
  | _, _, .nil => rfl
  | _, _, .cons _ r => by simp only [List.map_cons, r.keys]
theorem RKV.vals : ∀ {ws : List (List Key × V)} {kvs : List (List Key × D)}, RKV K ρ H ws kvs → Reps K ρ H (ws.map (·.2)) (kvs.map (·.2))
  | _, _, .nil => .nil
  | _, _, .cons h r => .cons h r.vals
theorem RKV.length {ws : List (List Key × V)} {kvs : List (List Key × D)} (r : RKV K ρ H ws kvs) : ws.length = kvs.length := by
  have := congrArg List.length r.keys
  simpa using this
theorem RKV.find (k : List Key) : ∀ {ws : List (List Key × V)} {kvs : List (List Key × D)}, RKV K ρ H ws kvs → (∀ d, findT kvs k = some d → ∃ v, valV ws k = some v ∧ Rep K ρ H v d) ∧ (findT kvs k = none → valV ws k = none)
  | _, _, .nil => ⟨fun d h => by simp [findT] at h, fun _ => rfl⟩
  | _, _, .cons (k := k') (v := v) (d := d) h r => by
    by_cases e : k' = k
    · subst e
      refine ⟨fun d' h' => ?_, fun h' => by simp [findT] at h'⟩
      simp [findT] at h'
      subst h'
      exact ⟨v, valV_pos rfl, h⟩
    · have e1 : ∀ ws : List (List Key × V), valV ((k', v) :: ws) k = valV ws k := fun ws => valV_neg (p := (k', v)) e
      have e2 : ∀ kvs : List (List Key × D), findT ((k', d) :: kvs) k = findT kvs k := fun kvs => by simp [findT, e]
      rw [e2]
      obtain ⟨a, b⟩ := r.find k
      exact ⟨fun d' h' => by rw [e1]; exact a d' h', fun h' => by rw [e1]; exact b h'⟩
theorem RKV.any (k : List Key) : ∀ {ws : List (List Key × V)} {kvs : List (List Key × D)}, RKV K ρ H ws kvs → (ws.any fun kv => decide (kv.1 = k)) = (kvs.any fun kv => decide (kv.1 = k))
  | _, _, .nil => rfl
  | _, _, .cons _ r => by rw [List.any_cons, List.any_cons, r.any k]
theorem RKV.app {ws ws' : List (List Key × V)} {kvs kvs' : List (List Key × D)} (s : RKV K ρ H ws' kvs') : RKV K ρ H ws kvs → RKV K ρ H (ws ++ ws') (kvs ++ kvs')
  | .nil => s
  | .cons h r => .cons h (RKV.app s r)
theorem RKV.repl (k : List Key) {v : V} {d : D} (h : Rep K ρ H v d) : ∀ {ws : List (List Key × V)} {kvs : List (List Key × D)}, RKV K ρ H ws kvs → RKV K ρ H (ws.map fun kv => if kv.1 = k then (kv.1, v) else kv) (kvs.map fun kv => if kv.1 = k then (kv.1, d) else kv)
  | _, _, .nil => .nil
  | _, _, .cons (k := k') h' r => by
    rw [List.map_cons, List.map_cons]
    by_cases e : k' = k
    · rw [if_pos e, if_pos e]; exact .cons h (r.repl k h)
    · rw [if_neg e, if_neg e]; exact .cons h' (r.repl k h)
theorem RKV.put (k : List Key) {v : V} {d : D} (h : Rep K ρ H v d) {ws : List (List Key × V)} {kvs : List (List Key × D)} (r : RKV K ρ H ws kvs) : RKV K ρ H (putK ws k v) (putT kvs k d) := by
  unfold putK putT
  rw [r.any k]
  split
  · exact r.repl k h
  · exact RKV.app (.cons h .nil) r
theorem RKV.drop (k : List Key) : ∀ {ws : List (List Key × V)} {kvs : List (List Key × D)}, RKV K ρ H ws kvs → RKV K ρ H (dropK ws k) (dropT kvs k)
  | _, _, .nil => .nil
  | _, _, .cons (k := k') h r => by
    unfold dropK dropT
    rw [List.filter_cons, List.filter_cons]
    by_cases e : k' = k
    · rw [if_neg (by simp [e]), if_neg (by simp [e])]; exact r.drop k
    · rw [if_pos (by simp [e]), if_pos (by simp [e])]; exact .cons h (r.drop k)
theorem RKV.kp {H' : Hp} {τ : List Addr} (k : Kp H H') : ∀ {ws : List (List Key × V)} {kvs : List (List Key × D)}, RKV K ρ H ws kvs → RKV K (ρ ++ τ) H' ws kvs
  | _, _, .nil => .nil
  | _, _, .cons h r => .cons (h.kp k) (r.kp k)
theorem WS.dt (w : WS K ρ S H) {l : Nat} {a : Addr} {lk : Bool} {kvs : List (List Key × D)} (h : ρ[l]? = some a) (e : S[l]? = some (.dt lk kvs)) : ∃ ws, DtAt H a ws lk ∧ RKV K ρ H ws kvs := by
  obtain ⟨ws, h1, h2, h3⟩ := w.ob l a _ h e
  exact ⟨ws, h1, rkv_of h2 h3⟩
theorem getT_wp {x : D} {v : V} {R : Bool × List (List Key × D) → Store → Prop} (w : WS K ρ S H) (r : Rep K ρ H v x) (h : wp (getT x) R S) : ∃ a lk ws kvs, v = .ref a ∧ DtAt H a ws lk ∧ RKV K ρ H ws kvs ∧ R (lk, kvs) S := by
  unfold getT at h
  split at h
  · obtain ⟨a, rfl, h1⟩ := r.ref_
    simp only [wp_bind, wp_getO] at h
    obtain ⟨o, e, h⟩ := h
    split at h
    · obtain ⟨ws, g1, g2⟩ := w.dt h1 e
      exact ⟨a, _, ws, _, rfl, g1, g2, h⟩
    · exact h.elim
  · exact h.elim
theorem kV_inl (ns : List Int) : (ns.map Sum.inl : List Key).map kV = ns.map V.int := by rw [List.map_map]; rfl
theorem keyI_rep {y : D} {u : V} {k : List Key} (r : Rep K ρ H u y) (e : keyI y = some k) : ∃ b, u = .ref b ∧ H b = some (.tup (k.map kV)) := by
  unfold keyI at e
  split at e
  · rename_i ds
    split at e
    · rename_i i is e1
      have hk : isKey ds = true := by
        unfold isKey keyI
        simp only [e1]
        rfl
      obtain ⟨a, xs, rfl, h1, h2⟩ := r.key_ hk
      rw [h2.ints e1] at h1
      cases e
      exact ⟨a, rfl, by rw [kV_inl]; exact h1⟩
    · cases e
  · cases e
theorem toKey_wp {y : D} {R : List Key → Store → Prop} (h : wp (toKey y) R S) : ∃ k, keyI y = some k ∧ R k S := by
  unfold toKey at h
  split at h
  · rename_i k e
    exact ⟨k, e, h⟩
  · exact h.elim
theorem dget_ok {x y : D} {v u : V} (w : WS K ρ S H) (rx : Rep K ρ H v x) (ry : Rep K ρ H u y) (h : wp (dgetD x y) (Post K ρ H Q) S) : ∃ a z, v = .ref a ∧ DGet H a u (some z) ∧ Q z H := by
  unfold dgetD at h
  rw [wp_bind] at h
  obtain ⟨a, lk, ws, kvs, rfl, g, rk, h⟩ := getT_wp w rx h
  rw [wp_bind] at h
  obtain ⟨k, ek, h⟩ := toKey_wp h
  obtain ⟨b, rfl, hb⟩ := keyI_rep ry ek
  dsimp only at h
  split at h
  · rename_i d ed
    obtain ⟨z, ez, rz⟩ := (rk.find k).1 d ed
    exact ⟨a, z, rfl, .inr ⟨ws, k, b, g.rd, rfl, hb, ez.symm⟩, Post.same w rz h⟩
  · exact h.elim
theorem din_ok {x y : D} {v u : V} {R : Bool → Store → Prop} (w : WS K ρ S H) (rx : Rep K ρ H v x) (ry : Rep K ρ H u y) (h : wp (dinD y x) R S) : ∃ a o, v = .ref a ∧ DGet H a u o ∧ R o.isSome S := by
  unfold dinD at h
  rw [wp_bind] at h
  obtain ⟨a, lk, ws, kvs, rfl, g, rk, h⟩ := getT_wp w rx h
  rw [wp_bind] at h
  obtain ⟨k, ek, h⟩ := toKey_wp h
  obtain ⟨b, rfl, hb⟩ := keyI_rep ry ek
  refine ⟨a, valV ws k, rfl, .inr ⟨ws, k, b, g.rd, rfl, hb, rfl⟩, ?_⟩
  have e : (valV ws k).isSome = (findT kvs k).isSome := by
    cases q : findT kvs k with
    | none => rw [(rk.find k).2 q]; rfl
    | some d =>
      obtain ⟨z, ez, _⟩ := (rk.find k).1 d q
      rw [ez]; rfl
  rw [e]
  exact h
theorem isT_wp {x : D} {v : V} {R : Unit → Store → Prop} (w : WS K ρ S H) (r : Rep K ρ H v x) (h : wp (isT x) R S) : (∃ a, v = .ref a ∧ IsD H a) ∧ R () S := by
  unfold isT at h
  rw [wp_bind] at h
  obtain ⟨a, lk, ws, kvs, rfl, g, rk, h⟩ := getT_wp w r h
  exact ⟨⟨a, rfl, .inr ⟨ws, g.rd⟩⟩, h⟩
theorem dget2_ok {x y z : D} {v u t : V} (w : WS K ρ S H) (rx : Rep K ρ H v x) (ry : Rep K ρ H u y) (rz : Rep K ρ H t z) (h : wp (dget2D x y z) (Post K ρ H Q) S) : ∃ a o, v = .ref a ∧ DGet H a u o ∧ Q (o.getD t) H := by
  unfold dget2D at h
  rw [wp_bind] at h
  obtain ⟨a, lk, ws, kvs, rfl, g, rk, h⟩ := getT_wp w rx h
  rw [wp_bind] at h
  obtain ⟨k, ek, h⟩ := toKey_wp h
  obtain ⟨b, rfl, hb⟩ := keyI_rep ry ek
  refine ⟨a, valV ws k, rfl, .inr ⟨ws, k, b, g.rd, rfl, hb, rfl⟩, ?_⟩
  simp only [wp_pure] at h
  cases q : findT kvs k with
  | none =>
    rw [(rk.find k).2 q]
    rw [q] at h
    exact Post.same w rz h
  | some d =>
    obtain ⟨z', ez, rz'⟩ := (rk.find k).1 d q
    rw [ez]
    rw [q] at h
    exact Post.same w rz' h
/-- a dict is changed -/
theorem dt_set {l : Nat} {a : Addr} {ws ws' : List (List Key × V)} {kvs' : List (List Key × D)} (w : WS K ρ S H) (h : ρ[l]? = some a) (h0 : H a = some (.dT ws)) (r : RKV K ρ H ws' kvs') :
    Step ρ H ρ (upd H a (.dT ws')) ∧ WS K ρ (S.set l (.dt false kvs')) (upd H a (.dT ws')) := by
  have st := Step.set w (u := .dT ws') h h0 (fun _ _ z => nomatch z)
  have r' : RKV K (ρ ++ []) (upd H a (.dT ws')) ws' kvs' := r.kp (st.kp w)
  rw [List.append_nil] at r'
  exact ⟨st, w.set h h0 (fun _ _ z => nomatch z) ⟨ws', upd_same, r'.keys, r'.vals⟩⟩
theorem dpop_ok {x y : D} {v u : V} (w : WS K ρ S H) (rx : Rep K ρ H v x) (ry : Rep K ρ H u y) (h : wp (dpopD x y) (Post K ρ H Q) S) :
    ∃ a ws k b z, v = .ref a ∧ H a = some (.dT ws) ∧ u = .ref b ∧ H b = some (.tup (k.map kV)) ∧ valV ws k = some z ∧ Q z (upd H a (.dT (dropK ws k))) := by
  unfold dpopD at h
  split at h
  · obtain ⟨a, rfl, h1⟩ := rx.ref_
    simp only [wp_bind, wp_getO] at h
    obtain ⟨o, e, h⟩ := h
    split at h
    · obtain ⟨ws, g, rk⟩ := w.dt h1 e
      have g : H a = some (.dT ws) := g
      rw [wp_bind] at h
      obtain ⟨k, ek, h⟩ := toKey_wp h
      obtain ⟨b, rfl, hb⟩ := keyI_rep ry ek
      split at h
      · rename_i d ed
        obtain ⟨z, ez, rz⟩ := (rk.find k).1 d ed
        simp only [wp_bind, wp_setO, wp_pure] at h
        obtain ⟨st, w'⟩ := dt_set w h1 g (rk.drop k)
        exact ⟨a, ws, k, b, z, rfl, g, rfl, hb, ez, h.2 ρ _ z st w' (rz.step w st)⟩
      · exact h.elim
    · exact h.elim
  · exact h.elim
theorem dput_ok {x y z : D} {v u t : V} {R : Unit → Store → Prop} (w : WS K ρ S H) (rx : Rep K ρ H v x) (ry : Rep K ρ H u y) (rz : Rep K ρ H t z) (h : wp (dputD x y z) R S) :
    ∃ a H' S', v = .ref a ∧ DPut H a u t H' ∧ Step ρ H ρ H' ∧ WS K ρ S' H' ∧ R () S' := by
  unfold dputD at h
  split at h
  · obtain ⟨a, rfl, h1⟩ := rx.ref_
    simp only [wp_bind, wp_getO] at h
    obtain ⟨o, e, h⟩ := h
    split at h
    · obtain ⟨ws, g, rk⟩ := w.dt h1 e
      have g : H a = some (.dT ws) := g
      rw [wp_bind] at h
      obtain ⟨k, ek, h⟩ := toKey_wp h
      obtain ⟨b, rfl, hb⟩ := keyI_rep ry ek
      simp only [wp_bind, wp_need, wp_setO] at h
      obtain ⟨hl, _, h⟩ := h
      have hl := dec hl
      rw [← rk.length] at hl
      obtain ⟨st, w'⟩ := dt_set w h1 g (rk.put k rz)
      exact ⟨a, _, _, rfl, .inr ⟨ws, k, b, g, rfl, hb, hl, rfl⟩, st, w', h⟩
    · exact h.elim
  · exact h.elim
/-! ### sorting -/
theorem sort_fst {α β : Type} (le : β → β → Bool) : ∀ (xs : List α) (ks : List β), ((xs.zip ks).mergeSort (fun p q => le p.2 q.2)).map (·.1) = ((xs.zip ks).mergeSort (fun p q => le p.2 q.2)).map (·.1) := fun _ _ => rfl
theorem reps_get {xs : List V} {ds : List D} (h : xs.length = ds.length) (k : ∀ p ∈ xs.zip ds, Rep K ρ H p.1 p.2) : Reps K ρ H xs ds := by
  induction xs generalizing ds with
  | nil => cases ds with
    | nil => exact .nil
    | cons _ _ => simp at h
  | cons x xs ih => cases ds with
    | nil => simp at h
    | cons d ds => exact .cons (k (x, d) (by simp)) (ih (by simpa using h) fun p hp => k p (by simp [hp]))
theorem Reps.zip_mem {xs : List V} {ds : List D} (r : Reps K ρ H xs ds) : ∀ p ∈ xs.zip ds, Rep K ρ H p.1 p.2 := by
  induction xs generalizing ds with
  | nil => intro p hp; simp at hp
  | cons x xs ih => cases r with
    | cons h r =>
      intro p hp
      rw [List.zip_cons_cons] at hp
      rcases List.mem_cons.mp hp with rfl | hp
      · exact h
      · exact ih r p hp
theorem reps_maps : ∀ {l : List ((V × D) × PyData)}, (∀ p ∈ l, Rep K ρ H p.1.1 p.1.2) → Reps K ρ H (l.map fun p => p.1.1) (l.map fun p => p.1.2)
  | [], _ => .nil
  | p :: l, h => .cons (h p List.mem_cons_self) (reps_maps fun q hq => h q (List.mem_cons_of_mem _ hq))
theorem zip3a {α β γ : Type} : ∀ (xs : List α) (ds : List β) (ks : List γ), xs.length = ds.length → (((xs.zip ds).zip ks).map fun p => (p.1.1, p.2)) = xs.zip ks
  | [], [], _, _ => by simp
  | [], _ :: _, _, h => by simp at h
  | _ :: _, [], _, h => by simp at h
  | _ :: _, _ :: _, [], _ => by simp
  | x :: xs, d :: ds, k :: ks, h => by
    simp only [List.zip_cons_cons, List.map_cons]
    rw [zip3a xs ds ks (by simpa using h)]
theorem zip3b {α β γ : Type} : ∀ (xs : List α) (ds : List β) (ks : List γ), xs.length = ds.length → (((xs.zip ds).zip ks).map fun p => (p.1.2, p.2)) = ds.zip ks
  | [], [], _, _ => by simp
  | [], _ :: _, _, h => by simp at h
  | _ :: _, [], _, h => by simp at h
  | _ :: _, _ :: _, [], _ => by simp
  | x :: xs, d :: ds, k :: ks, h => by
    simp only [List.zip_cons_cons, List.map_cons]
    rw [zip3b xs ds ks (by simpa using h)]
/-- the sorted values stand for the sorted data -/
theorem Reps.sort {xs : List V} {ds : List D} {ks : List PyData} (r : Reps K ρ H xs ds) (hk : ks.length = xs.length) : Reps K ρ H (((xs.zip ks).mergeSort (PySem.W.dataLe true (·.2))).map (·.1)) (sortBy ds ks) := by
  unfold sortBy
  have hl := r.length
  have e1 : (((xs.zip ds).zip ks).map fun p => (p.1.1, p.2)) = xs.zip ks := zip3a _ _ _ hl
  have e2 : (((xs.zip ds).zip ks).map fun p => (p.1.2, p.2)) = ds.zip ks := zip3b _ _ _ hl
  have m1 := PySem.W.sort_maps (r := PySem.W.dataLe true (fun p : (V × D) × PyData => p.2)) (s := PySem.W.dataLe true (fun p : V × PyData => p.2)) (l := (xs.zip ds).zip ks) (fun p => (p.1.1, p.2)) (fun _ _ _ _ => rfl)
  have m2 := PySem.W.sort_maps (r := PySem.W.dataLe true (fun p : (V × D) × PyData => p.2)) (s := PySem.W.dataLe true (fun p : D × PyData => p.2)) (l := (xs.zip ds).zip ks) (fun p => (p.1.2, p.2)) (fun _ _ _ _ => rfl)
  rw [e1] at m1
  rw [e2] at m2
  rw [← m1, ← m2, List.map_map, List.map_map]
  refine reps_maps fun p hp => ?_
  have hp' : p ∈ (xs.zip ds).zip ks := (List.mergeSort_perm _ _).mem_iff.mp hp
  exact r.zip_mem p.1 (List.of_mem_zip hp').1
theorem ints_dp {xs : List V} {ns : List Int} : xs = ns.map V.int → DpAll K H xs (ns.map .int) := by
  intro e
  subst e
  induction ns with
  | nil => exact .nil
  | cons n ns ih => exact .cons (.int n) ih
theorem encI_dp {ds : List D} {ns : List Int} {v : V} (r : Rep K ρ H v (.tup ds)) (e : intsOf ds = some ns) : Dp K H v (encI ns) := by
  obtain ⟨a, xs, rfl, h1, h2⟩ := r.tup_
  exact .tup h1 (ints_dp (h2.ints e))
theorem pairI_dp {d : D} {p : List Int × List Int} {v : V} (r : Rep K ρ H v d) (e : pairI d = some p) : Dp K H v (encP p) := by
  unfold pairI at e
  split at e
  · split at e
    · rename_i e1 e2
      cases e
      obtain ⟨a, xs, rfl, h1, h2⟩ := r.tup_
      obtain ⟨v, u, rfl, r1, r2⟩ := h2.two_
      exact .tup h1 (.cons (encI_dp r1 e1) (.cons (encI_dp r2 e2) .nil))
    · cases e
  · cases e
theorem pairsI_dp : ∀ {ds : List D} {ps : List (List Int × List Int)} {xs : List V}, Reps K ρ H xs ds → pairsI ds = some ps → DpAll K H xs (ps.map encP)
  | [], ps, xs, r, e => by cases r; simp only [pairsI, Option.some.injEq] at e; subst e; exact .nil
  | d :: ds, ps, xs, r, e => by
    cases r with
    | cons h r =>
      simp only [pairsI] at e
      split at e
      · rename_i e1 e2
        cases e
        exact .cons (pairI_dp h e1) (pairsI_dp r e2)
      · cases e
theorem encI_depth (ns : List Int) : (encI ns).depth ≤ 30 := by
  unfold encI
  simp only [PyData.depth]
  rw [PySem.W.depth_ints]
  omega
theorem encP_depth (p : List Int × List Int) : (encP p).depth ≤ 60 := by
  unfold encP
  simp only [PyData.depth, PyData.depthAll]
  have h1 := encI_depth p.1
  have h2 := encI_depth p.2
  omega
theorem encI_alike (a b : List Int) : PySem.W.alike (encI a) (encI b) = true := by
  unfold encI
  simp only [PySem.W.alike]
  exact PySem.W.alike_ints a b
theorem encP_alike (a b : List Int × List Int) : PySem.W.alike (encP a) (encP b) = true := by
  unfold encP
  simp only [PySem.W.alike, PySem.W.alikeAll, encI_alike, Bool.and_self]
theorem sortP_ok {x : D} {v : V} (w : WS K ρ S H) (r : Rep K ρ H v x) (h : wp (sortPD x) (Post K ρ H Q) S) : rSortD K [v] [.bl true] H Q := by
  unfold sortPD at h
  rw [wp_bind] at h
  obtain ⟨a, xs, ds, rfl, hs, rs, h⟩ := getL_wp w r h
  split at h
  · rename_i ps e
    refine ⟨a, xs, ps.map encP, rfl, rfl, hs, pairsI_dp rs e, PySem.W.AllAlike.of encP_alike, PySem.W.Sortable.tuples fun b => ⟨_, _, rfl⟩, fun p hp => ?_, fun p hp => ?_⟩
    · obtain ⟨b, _, rfl⟩ := List.mem_map.mp hp
      exact encP_depth b
    · have hl : (ps.map encP).length = xs.length := (DpAll.length (pairsI_dp rs e)).symm
      exact Post.lst w (rs.sort hl) h hp
  · exact h.elim
end
end Dl
end

section
set_option Elab.async false
set_option linter.all false
set_option maxRecDepth 100000
set_option maxHeartbeats 2000000
/-! Dl: raw rules: the greatest of a list, with a default; a dict made by a comprehension, its keys tuples -/
namespace Dl
open PySem PySem.Spec PyProof.Rows L2
section
variable {X : Cx}
theorem alike_nums (ns : List Int) : PySem.W.AlikeAll (ns.map PyData.int) := by
  refine ⟨fun x hx y hy => ?_, fun x hx => ?_⟩
  · obtain ⟨i, _, rfl⟩ := List.mem_map.mp hx
    obtain ⟨j, _, rfl⟩ := List.mem_map.mp hy
    rfl
  · obtain ⟨i, _, rfl⟩ := List.mem_map.mp hx
    exact fun z => nomatch z
def rMaxDf (K : PySem.W.Frag) : List V → List V → Hp → VK → Prop := fun vs zs H Q => ∃ (a : Addr) (ns : List Int) (z : V), vs = [V.ref a] ∧ zs = [z] ∧ SqL K H a (ns.map V.int) ∧ (ns = [] → Q z H) ∧ ∀ n ms, ns = n :: ms → Q (.int (maxI n ms)) H
theorem cr_maxDf (hc : X.calm = true) (hu : X.A.units + 65 < cLine) : CallRK X (.builtin "max") [Str.ofString "default"] (rMaxDf X.K) := by
  intro pins s σ H vs zs us ws Q I rv0 rz h
  obtain ⟨a, ns, z, rfl, rfl, hs, q0, q1⟩ := h
  obtain rfl := Vals.ref1 rv0
  obtain ⟨w1, rfl, e1⟩ := vals1 rz
  obtain ⟨its, rv, hl, _⟩ := I.list hs
  obtain ⟨as, hr⟩ := Dp.readsAll I (ns.map PyData.int) _ its (ints_dp rfl) rv
  refine PySem.W.max_list_default (I.ok.hd hc) hl.isList hr (alike_nums ns) (by rw [PySem.W.depth_ints]; omega) (fun h0 h' tk hk => ?_) fun y ys i v h' tk bs hx _ rd hk => ?_
  · exact ⟨z, H, I.kept hk, e1, q0 (by simpa using h0)⟩
  · cases ns with
    | nil => cases hx
    | cons n ms =>
      cases hx
      rw [PySem.W.maxD_ints] at rd
      cases rd
      exact ⟨.int (maxI n ms), H, I.kept hk, ⟨_, rfl⟩, q1 n ms rfl⟩
/-! ### {k: v for target in iter}, the keys tuples -/
/-- one member is put to the dict that is being made -/
theorem put_new {pn : List (Addr × Obj)} {σ : L2.St} {H : Hp} {st : Shared} {E : Value → Shared → Prop} {d b : Addr} {ws : List (List Key × V)} {k : List Key} {z : V} {r : Value} {Q : Unit → Shared → Prop} (hu : X.A.units + 1 < cLine)
    (I : Inv X pn σ H st) (e : H d = some (.dT ws)) (eb : H b = some (.tup (k.map kV))) (hl : ws.length < sizeLine) (rz : RelV z r) (h : ∀ st', Inv X pn σ (upd H d (.dT (putK ws k z))) st' → Q () st') :
    wpAny (model X.prog X.w) X.A (dictSet d (.ref b) r) Q E st := by
  obtain ⟨_, nm, ys, rel, dd⟩ := dt_of I.hok e
  have h1 : ys.length ≤ sizeLine := by rw [← Paired.length rel]; omega
  have h2 : (putK ws k z).length ≤ sizeLine := Nat.le_trans (length_putK ws k z) hl
  have room : (tupleKind (mixKind X.prog X.w)).room X.A := show X.A.units < cLine by omega
  refine wpAny_dictSet_heap (hsz := h1) room (key_of I.hok eb) dd fun hp dd' sb => h _ ?_
  · obtain ⟨q, es, ep, hq, g2, g3, g4, _, g5⟩ := dd'
    refine d_write I (by rw [e]; trivial) sb ⟨q, hq⟩ ⟨h2, nm, _, (rel.put k eb rz).keeps (fun c xs ec => ?_), q, es, ep, hq, g2, g3, g4, g5⟩
    rw [upd_ne (ne_of ec e (fun w => nomatch w))]
    exact ec
/-- what a turn does with the key y and the value z: D is the dict -/
def PutT (D : Addr) (Nx : Hp → Prop) (y z : V) (H : Hp) : Prop := ∃ ws k b, y = .ref b ∧ H D = some (.dT ws) ∧ H b = some (.tup (k.map kV)) ∧ ws.length < sizeLine ∧ Nx (upd H D (.dT (putK ws k z)))
/-- one turn, from the item x on -/
def TurnT (g : L2.TG) (tt : TT) (tk tv : TE) (vs : List Nat) (σ : L2.St) (D : Addr) (Nx : Hp → Prop) (x : V) (H : Hp) : Prop :=
  g x (wipe σ vs) H fun σ2 H2 => wipe σ2 vs = wipe σ vs ∧ tt σ2 H2 fun b H3 => if b = true then tk σ2 H3 fun y H4 => tv σ2 H4 fun z H5 => PutT D Nx y z H5 else Nx H3
/-- the turns: W i m is what holds ahead of the item i, m falls -/
def LoopT (J : It) (turn : (Hp → Prop) → V → Hp → Prop) (D : Addr) (Qd : Hp → Prop) (H1 : Hp) : Prop := ∃ W : Nat → Nat → Hp → Prop, (∃ m, W 0 m (upd H1 D (.dT []))) ∧
  ∀ i m H, W i m H → (J.stop i H ∧ Qd H) ∨ (J.go i H ∧ ∃ Nx : Hp → Prop, (∀ H', Nx H' → ∃ m', m' < m ∧ W (i + 1) m' H') ∧ ∀ x H', J.yld i H x H' → turn Nx x H')
def tDT (wi : TI) (g : L2.TG) (tt : TT) (tk tv : TE) (vs : List Nat) : TE := fun σ H Q => wi σ H fun J H1 => ∀ D, H1 D = none → LoopT J (TurnT g tt tk tv vs σ D) D (fun H' => Q (.ref D) H') H1
/-- the block of a comprehension over X -/
abbrev Blk (X : Cx) (st : Shared) (H : Hp) (scope : Scope) (cs : List (Str × Addr)) (C : Addr) (fp : List Addr) : Cx := X.blk st H scope (compEnvC scope cs C X.env) fp
theorem dt_core {pn : List (Addr × Obj)} {st : Shared} {σ : L2.St} {H : Hp} {Q : VK} {kx vx tg iter : Expr} {ifs : List Expr} {scope : Scope} {own : List (Str × Nat)} {p1 p2 : Pos} {wi : TI} {g : L2.TG} {tt : TT} {tk tv : TE} {use : Option (Value → Sem Unit)} {Qf : Value → Shared → Prop}
    (calm : X.calm = true) (nd : X.N.Nodup) (hu : X.A.units + 1 < cLine) (I : Inv X pn σ H st) (pi : PI X tg iter wi) (bo : BlkOk X.N X.env.scope scope own)
    (pg : ∀ st H C cs fp, PG (Blk X st H scope cs C fp) tg g) (pt : ∀ st H C cs fp, PTs (Blk X st H scope cs C fp) ifs tt) (pk : ∀ st H C cs fp, PE (Blk X st H scope cs C fp) kx tk) (pv : ∀ st H C cs fp, PE (Blk X st H scope cs C fp) vx tv)
    (fold : ∀ x, foldedSetIterable iter X.env x = pure x) (h : tDT wi g tt tk tv (own.map (·.2)) σ H Q)
    (out : ∀ D C st' m H', Inv X pn σ H' st' → Q (.ref D) H' → st'.heap.Ns C m → FpOk X pn H' C → compPost (model X.prog X.w) X.A X.xe use Qf (.ref D) C (.ok .next) st') :
    wpAny (model X.prog X.w) X.A (comprehension (.DictComp kx vx [⟨tg, iter, ifs, 0⟩] scope p1) scope X.env p2 newDict false (eval iter X.env) use) Qf X.xe st := by
  have free : ∀ y ∈ scope.names, y.2 = .free → ∃ c, X.env.cells.lookup y.1 = some c := by
    intro y hy e
    exact (bo.free y hy e).elim (fun k => I.ok.has _ (.inl k)) fun k => I.ok.has _ (.inr k)
  refine wpAny_comprehension_free (use := use) rfl fold (closure_ok free) bo.kind (fun y hy e => by rw [bo.uniq y hy, e]) ?_
  refine thn (pi.run pn st σ H _ I h) fun xv sa hx => thn hx fun itv sb hb => ?_
  obtain ⟨it, fp, tn, J, H2, rfl, I2, T, tn2, fp2, q⟩ := hb
  refine wpAny_newObj_type ?_
  refine newEnv_comp ?_
  generalize eD : sb.heap.objs.size = D
  obtain ⟨W, ⟨m0, W0⟩, turn⟩ := q D (I2.hok.fresh (Nat.le_of_eq eD))
  generalize ec : ({ sb with heap := sb.heap.push { cls := .type "dict", data := .dict #[] } } : Shared) = sc
  have hpc : sc.heap = sb.heap.push { cls := .type "dict", data := .dict #[] } := by rw [← ec]
  have I3 : Inv X pn σ (upd H2 D (.dT [])) sc := by
    subst ec eD
    exact I2.laid (t' := sb.toks) (fun b o e => Heap.get?_push_of_some _ e) (Nat.le_refl _) (dt_empty sb.heap I2.big)
  have fp3 : ∀ b ∈ fp, FpOk X pn (upd H2 D (.dT [])) b ∧ b < sc.heap.objs.size := by
    intro b hb
    obtain ⟨o, e, _⟩ := T.obj _ _ tn2 b hb
    have lt := Heap.lt_size e
    obtain ⟨f, g⟩ := fp2 b hb
    refine ⟨⟨?_, g⟩, by rw [hpc, Heap.size_push]; exact Nat.lt_succ_of_lt lt⟩
    rw [upd_ne (by rw [← eD]; exact Nat.ne_of_lt lt)]
    exact f
  have tn3 : tn 0 sc.heap := T.keep _ _ _ tn2 fun b _ o e => by rw [hpc]; exact Heap.get?_push_of_some _ e
  have I4 := block_start I3 bo nd fp3
  generalize ecs : cellsFrom (sc.heap.objs.size + 1) scope.names (cloFrom X.env.cells scope.names []) = cs at *
  have g1 := pg sc (upd H2 D (.dT [])) sc.heap.objs.size cs fp
  have g2 := pt sc (upd H2 D (.dT [])) sc.heap.objs.size cs fp
  have g3 := pk sc (upd H2 D (.dT [])) sc.heap.objs.size cs fp
  have g4 := pv sc (upd H2 D (.dT [])) sc.heap.objs.size cs fp
  unfold Blk at g1 g2 g3 g4
  have none_fp : ∀ b ∈ fp, upd H2 D (.dT []) b = none := fun b hb => (fp3 b hb).1.1
  show codeAny _ _ (.compStart (.DictComp kx vx [⟨tg, iter, ifs, 0⟩] scope p1) 0 (.ref it) (.ref D) (compEnvC scope cs sc.heap.objs.size X.env)) (compPost _ _ X.xe use Qf (.ref D) sc.heap.objs.size) { sc with heap := pushCells (sc.heap.push { cls := .type "dict", data := .dict #[] }) scope.names }
  have loc : (compEnvC scope cs sc.heap.objs.size X.env).locals = sc.heap.objs.size := rfl
  generalize compEnvC scope cs sc.heap.objs.size X.env = ce at I4 g1 g2 g3 g4 loc ⊢
  generalize upd H2 D (.dT []) = H3 at I3 I4 g1 g2 g3 g4 W0 none_fp fp3
  have tn4 : tn 0 (pushCells (sc.heap.push { cls := .type "dict", data := .dict #[] }) scope.names) := T.keep _ _ _ tn3 fun b _ o e => pushCells_keeps _ _ _ _ (Heap.get?_push_of_some _ e)
  generalize hse : ({ sc with heap := pushCells (sc.heap.push { cls := .type "dict", data := .dict #[] }) scope.names } : Shared) = se at I4 ⊢
  have tn5 : tn 0 se.heap := by rw [← hse]; exact tn4
  have still : ∀ {σ' : L2.St} {H' : Hp} {s' : Shared}, Inv (X.blk sc H3 scope ce fp) [] σ' H' s' → (∀ b ∈ fp, H' b = none) → ∀ b ∈ fp, FpOk (X.blk sc H3 scope ce fp) [] H' b := by
    intro σ' H' s' I' hn b hb
    obtain ⟨x1, x2⟩ := I'.ok.exf b hb
    exact ⟨hn b hb, x1, I'.ok.exfs b hb, .inl hb, fun x c e => x2 x c e, fun p hp => nomatch (show p ∈ ([] : List (Addr × Obj)) from hp)⟩
  have all : codeAny (model X.prog X.w) X.A (.compLoop (.DictComp kx vx [⟨tg, iter, ifs, 0⟩] scope p1) 0 (.ref it) (.ref D) ce) (compPost (model X.prog X.w) X.A X.xe use Qf (.ref D) sc.heap.objs.size) se := by
    refine compLoop_anyD (fun n s' => ∃ i H', Inv (X.blk sc H3 scope ce fp) [] (wipe σ (own.map (·.2))) H' s' ∧ tn i s'.heap ∧ (∀ b ∈ fp, H' b = none) ∧ W i n H') (fun n sf hI => ?_) m0 ⟨0, H3, I4, tn5, none_fp, W0⟩
    obtain ⟨i, H5, I5, tni, n5, w5⟩ := hI
    rcases turn i n H5 w5 with ⟨stop, fin⟩ | ⟨go, Nx, hNx, step⟩
    · refine thnF (T.done (X.blk sc H3 scope ce fp) rfl rfl rfl calm i [] sf _ H5 (fun _ _ => False) I5 (still I5 n5) tni stop) fun r sg hr => ?_
      obtain ⟨rfl, I6⟩ := hr
      have I7 : Inv X pn σ H5 sg := I3.call' (ch := fp) I6.os I6.base I6.hok I6.bare fun b hb => by
        obtain ⟨_, z1, z2, z3, z4, z5⟩ := (fp3 b hb).1
        exact ⟨z3, z1, z4, z5⟩
      have free5 : H5 sc.heap.objs.size = none := by
        rw [← loc]
        exact I6.free
      obtain ⟨mm, hm, _⟩ := I6.loc
      have hm : sg.heap.Ns ce.locals mm := hm
      rw [loc] at hm
      exact out D _ sg mm H5 I7 fin hm (I3.fpOk (Nat.le_refl _) free5)
    · refine thnF (T.item (X.blk sc H3 scope ce fp) rfl rfl rfl calm i [] sf _ H5 (fun _ _ => False) I5 (still I5 n5) tni go) fun r sg hr => ?_
      obtain ⟨u, rfl, h6⟩ := hr
      refine thnF h6 fun _ sh hh => ?_
      obtain ⟨x, H7, I7, rx, yl, tnj, n7⟩ := hh
      refine thnF (g1.run _ sh _ H7 x u _ (I7.pinned (still I7 n7) (T.obj _ _ tnj)) rx (step x H7 yl)) fun _ si ho => ?_
      obtain ⟨σ8, H8, I8, wi8, q8⟩ := ho
      refine thnF (g2.run _ si σ8 H8 _ I8 q8) fun b sj hj => ?_
      obtain ⟨H9, I9, turn9⟩ := hj
      have fin : ∀ {s' : Shared} {H' : Hp}, Inv (X.blk sc H3 scope ce fp) ([] ++ pinsAt fp sh.heap) σ8 H' s' → Nx H' → ∃ m, m < n ∧ ∃ i H', Inv (X.blk sc H3 scope ce fp) [] (wipe σ (own.map (·.2))) H' s' ∧ tn i s'.heap ∧ (∀ b ∈ fp, H' b = none) ∧ W i m H' := by
        intro s' H' I' nx
        obtain ⟨m', lt, w'⟩ := hNx H' nx
        have pinned : ∀ b ∈ fp, ∀ o, sh.heap.get? b = some o → s'.heap.get? b = some o ∧ H' b = none := by
          intro b hb o e
          have z := I'.pin (b, o) (List.mem_append_right _ (List.mem_append_right _ (mem_pinsAt hb e)))
          exact ⟨z.1, z.2.1⟩
        refine ⟨m', lt, i + 1, H', ?_, T.keep _ _ _ tnj fun b hb o e => (pinned b hb o e).1, fun b hb => ?_, w'⟩
        · refine (I'.unpinned (pins := [])).weak (by rw [← wi8, wipe_length]) fun j v e => ?_
          rw [← wi8] at e
          exact (wipe_some e).1
        · obtain ⟨o, e, _⟩ := T.obj _ _ tnj b hb
          exact (pinned b hb o e).2
      cases b with
      | false =>
        simp only [Bool.false_eq_true, if_false] at turn9 ⊢
        exact fin I9 turn9
      | true =>
        simp only [if_true] at turn9 ⊢
        refine thnF (g3.run _ sj σ8 H9 _ I9 turn9) fun ky sk hk => ?_
        obtain ⟨yk, H10, I10, r10, q10⟩ := hk
        refine thnF (g4.run _ sk σ8 H10 _ I10 q10) fun kz sl hl => ?_
        obtain ⟨yz, H11, I11, r11, ws, kk, b', rfl, eD', eb', lt', nx⟩ := hl
        obtain rfl : ky = Value.ref b' := r10
        exact put_new (X := X.blk sc H3 scope ce fp) hu I11 eD' eb' lt' r11 fun sm Im => fin Im nx
  exact codeAny_compStart_dict all (T.self X.A 0 _ _ _ tn5 all)
theorem pe_dT {kx vx tg iter : Expr} {ifs : List Expr} {scope : Scope} {own : List (Str × Nat)} {p1 : Pos} {wi : TI} {g : L2.TG} {tt : TT} {tk tv : TE} (calm : X.calm = true) (nd : X.N.Nodup) (hu : X.A.units + 1 < cLine) (pi : PI X tg iter wi) (bo : BlkOk X.N X.env.scope scope own)
    (pg : ∀ st H C cs fp, PG (Blk X st H scope cs C fp) tg g) (pt : ∀ st H C cs fp, PTs (Blk X st H scope cs C fp) ifs tt) (pk : ∀ st H C cs fp, PE (Blk X st H scope cs C fp) kx tk) (pv : ∀ st H C cs fp, PE (Blk X st H scope cs C fp) vx tv)
    (fold : ∀ x, foldedSetIterable iter X.env x = pure x) : PE X (.DictComp kx vx [⟨tg, iter, ifs, 0⟩] scope p1) (tDT wi g tt tk tv (own.map (·.2))) := by
  constructor
  intro pins st σ H Q I h
  rw [arm_eval_DictComp]
  refine dt_core calm nd hu I pi bo pg pt pk pv fold h fun D C st' m H' I' q ns f => ⟨m, ns, fun hq sb => ?_⟩
  obtain ⟨z0, z1, z2, z3, z4, z5⟩ := f
  exact ⟨.ref D, H', I'.turned (t' := st'.toks) (fun b o hb e => (sb.2 b hb).trans e) z0 z1 z3 z4 z5, rfl, q⟩
end
end Dl
end

section
set_option Elab.async false
set_option linter.all false
set_option maxRecDepth 100000
set_option maxHeartbeats 1000000
/-! Dl: the language's terms against the text, the checker -/
namespace Dl
open PySem PySem.Spec PyProof.Rows L2
/-- what a module's name is -/
inductive GI where
  | free | fn (i : Nat) | cst (g : Nat) | bt (id : String) | other
  deriving DecidableEq
/-- where one stands, statically -/
structure Cst where
  N : List Str
  sc : Scope
  fn : Str → Bool
  G : List (Str × GI)
  /-- may a lambda be made here; the frames that calls must leave -/
  lam : Bool
  rm : Nat
def Cst.look (c : Cst) (x : Str) : Option NameKind := c.sc.names.lookup x
def Cst.vis (c : Cst) (x : Str) : Bool := decide (c.look x = some .local) || (decide (c.look x = some .cell) || decide (c.look x = some .free))
def Cst.sto (c : Cst) (x : Str) : Bool := decide (c.look x = some .local) || (decide (c.look x = some .cell) && c.fn x)
def Cst.glo (c : Cst) (x : Str) : Bool := decide (c.look x = some .globalImplicit)
def Cst.slot (c : Cst) (i : Nat) (x : Str) : Bool := decide (c.N[i]? = some x)
def Cst.is (c : Cst) (x : Str) (g : GI) : Bool := c.glo x && decide (c.G.lookup x = some g)
def Cst.blk (c : Cst) (scope : Scope) : Cst := { c with sc := relS scope c.sc, fn := fun x => scope.names.lookup x == some .cell, lam := false }
def nmOk (x : Str) : Bool := (x == ("__debug__" : Str)) == false && ((x == ("__classdict__" : Str)) == false && decide (x ≠ "__name__"))
def plain : Expr → Bool | .Starred _ _ => false | _ => true
def noSet : Expr → Bool | .Set _ _ _ => false | _ => true
def noComp : Expr → Bool | .ListComp _ _ _ _ => false | .SetComp _ _ _ _ => false | .DictComp _ _ _ _ _ => false | _ => true
def noTup : Expr → Bool | .Tuple _ _ _ => false | _ => true
def noSuper : Expr → Bool | .Call _ _ _ _ => false | _ => true
def noSlice : Expr → Bool | .Slice _ _ _ _ => false | _ => true
/-- a test by its value's truth -/
def byTruth : Expr → Bool | .BoolOp _ _ _ => false | .UnaryOp _ _ _ => false | .Compare _ _ _ _ => false | .IfExp _ _ _ _ => false | .Constant _ _ _ => false | .NamedExpr _ _ _ => false | .Tuple _ _ _ => false | _ => true
def Bi.name : Bi → Str
  | .len => "len" | .sum => "sum" | .abs => "abs" | .int => "int" | .max => "max" | .min => "min"
  | .tuple => "tuple" | .list => "list" | .all => "all" | .any => "any" | .gcd => "gcd"
def Bi.gi : Bi → GI
  | .gcd => .bt "math.gcd" | _ => .free
def Me.name : Me → Str
  | .append => "append" | .pop => "pop" | .popAt => "pop" | .reverse => "reverse" | .remove => "remove"
def Ty.tx (t : Ty) : Str := Str.ofString t.name
def tysOk (c : Cst) : List Ty → List Expr → Bool
  | [], [] => true
  | t :: ts, .Name y _ :: es => decide (y = t.tx) && (c.is y .free && (nmOk y && tysOk c ts es))
  | _, _ => false
mutual
def TG.slots : TG → List Nat
  | .nm i => [i]
  | .tp ts => ts.slots
  | .ixs _ _ => []
def TGs.slots : TGs → List Nat
  | .nil => []
  | .cons t ts => t.slots ++ ts.slots
end
mutual
def TG.noIx : TG → Bool
  | .nm _ => true
  | .tp ts => ts.noIx
  | .ixs _ _ => false
def TGs.noIx : TGs → Bool
  | .nil => true
  | .cons t ts => t.noIx && ts.noIx
end
def ownP (c : Cst) (own : List Nat) : List (Str × Nat) := own.map fun i => (c.N.getD i "", i)
mutual
def chk (c : Cst) : IE → Expr → Bool
  | .var i, e => match e with | .Name x _ => c.slot i x && (c.vis x && nmOk x) | _ => false
  | .int z, e => match e with | .Constant (.int i) _ _ => decide (i = z) | _ => false
  | .bl b, e => match e with | .Constant (.bool b') _ _ => decide (b = b') | _ => false
  | .non, e => match e with | .Constant .none _ _ => true | _ => false
  | .str x, e => match e with | .Constant (.str y) _ _ => decide (x = y) | _ => false
  | .glo g, e => match e with | .Name x _ => c.is x (.cst g) && nmOk x | _ => false
  | .tup es, e => match e with | .Tuple l _ _ => chks c es l | _ => false
  | .lst es, e => match e with | .List l _ => chks c es l | _ => false
  | .op o a b, e => match e with | .BinOp e1 o' e2 _ => decide (o = o') && (chk c a e1 && chk c b e2) | _ => false
  | .neg a, e => match e with | .UnaryOp .USub e1 _ => chk c a e1 | _ => false
  | .not a, e => match e with | .UnaryOp .Not e1 _ => chk c a e1 | _ => false
  | .and a b, e => match e with
    | .BoolOp .And [e1, e2] _ => chk c a e1 && chk c b e2
    | .BoolOp .And (e1 :: e2 :: e3 :: r) p => chk c a e1 && chk c b (.BoolOp .And (e2 :: e3 :: r) p)
    | _ => false
  | .or a b, e => match e with
    | .BoolOp .Or [e1, e2] _ => chk c a e1 && chk c b e2
    | .BoolOp .Or (e1 :: e2 :: e3 :: r) p => chk c a e1 && chk c b (.BoolOp .Or (e2 :: e3 :: r) p)
    | _ => false
  | .cmp o a b, e => match e with | .Compare e1 [o'] [e2] _ => decide (o = o') && (!behindInMarks o e2 && (chk c a e1 && chk c b e2)) | _ => false
  | .chain o o2 a b d, e => match e with | .Compare e1 [o', o2'] [e2, e3] _ => decide (o = o') && (decide (o2 = o2') && (!lastMarks [o, o2] [e2, e3] && (chk c a e1 && (chk c b e2 && chk c d e3)))) | _ => false
  | .ite t a b, e => match e with | .IfExp e1 e2 e3 _ => chk c t e1 && (chk c a e2 && chk c b e3) | _ => false
  | .ix a b, e => match e with | .Subscript e1 e2 _ => noSlice e2 && (chk c a e1 && chk c b e2) | _ => false
  | .sl a lo hi, e => match e with | .Subscript e1 (.Slice l h none _) _ => chk c a e1 && (chko c lo l && chko c hi h) | _ => false
  | .rev a, e => match e with | .Subscript e1 (.Slice none none (some (.UnaryOp .USub (.Constant (.int 1) _ _) _)) _) _ => chk c a e1 | _ => false
  | .call f es, e => match e with | .Call (.Name x _) (e1 :: l) [] _ => c.is x (.fn f) && (nmOk x && chks c es (e1 :: l)) | _ => false
  | .bi b es, e => match e with | .Call (.Name x _) (e1 :: l) [] _ => decide (x = b.name) && (c.is x b.gi && chks c es (e1 :: l)) | _ => false
  | .me m o es, e => match e with | .Call (.Attribute e1 nm apos) l [] cpos => decide (nm = m.name) && ((apos.endLine == cpos.line) && (noSuper e1 && (decide (l.length < 29) && (chk c o e1 && chks c es l)))) | _ => false
  | .isi a t, e => match e with | .Call (.Name x _) [e1, .Name y _] [] _ => decide (x = "isinstance") && (c.is x .free && (decide (y = t.tx) && (c.is y .free && (plain e1 && chk c a e1)))) | _ => false
  | .isis a ts, e => match e with | .Call (.Name x _) [e1, .Tuple l _ _] [] _ => decide (x = "isinstance") && (c.is x .free && (tysOk c ts l && (decide (ts ≠ [] ∧ ts.length < 100) && (plain e1 && chk c a e1)))) | _ => false
  | .comp t own it cond elt, e => match e with
    | .ListComp e1 [⟨tg, iter, ifs, as⟩] scope _ => decide (as = 0) && (noSet iter && (blkC c.N c.sc scope (ownP c own) && (t.noIx && (t.slots.all (own.contains ·) && (chkI c tg it iter && (chkT (c.blk scope) t tg && (chkc (c.blk scope) cond ifs && chk (c.blk scope) elt e1)))))))
    | _ => false
  | .tupr a, e => match e with | .Call (.Name x _) [.Call (.Name y _) [e1] [] _] [] _ => decide (x = "tuple") && (c.is x .free && (decide (y = "range") && (c.is y .free && (plain e1 && chk c a e1)))) | _ => false
  | .lstr a, e => match e with | .Call (.Name x _) [.Call (.Name y _) [e1] [] _] [] _ => decide (x = "list") && (c.is x .free && (decide (y = "range") && (c.is y .free && (plain e1 && chk c a e1)))) | _ => false
  | .dnew, e => match e with | .Dict [] [] _ => true | _ => false
  | .dget a b, e => match e with | .Subscript e1 e2 _ => noSlice e2 && (chk c a e1 && chk c b e2) | _ => false
  | .din a b, e => match e with | .Compare e1 [.In] [e2] _ => !behindInMarks .In e2 && (chk c a e1 && chk c b e2) | _ => false
  | .dget2 a b d, e => match e with | .Call (.Attribute e1 nm apos) [e2, e3] [] cpos => decide (nm = "get") && ((apos.endLine == cpos.line) && (noSuper e1 && (plain e2 && (plain e3 && (chk c a e1 && (chk c b e2 && chk c d e3)))))) | _ => false
  | .dpop a b, e => match e with | .Call (.Attribute e1 nm apos) [e2] [] cpos => decide (nm = "pop") && ((apos.endLine == cpos.line) && (noSuper e1 && (plain e2 && (chk c a e1 && chk c b e2)))) | _ => false
  | .dcomp i t own cond elt, e => match e with
    | .ListComp e1 [⟨tg, .Name x px, ifs, as⟩] scope _ => decide (as = 0) && ((c.slot i x && (c.vis x && nmOk x)) && (blkC c.N c.sc scope (ownP c own) && (t.noIx && (t.slots.all (own.contains ·) && (chkT (c.blk scope) t tg && (chkc (c.blk scope) cond ifs && chk (c.blk scope) elt e1))))))
    | _ => false
  | .sortp a, e => match e with | .Call (.Name x _) [e1] [⟨some kn, .Constant (.bool true) _ _, _⟩] _ => decide (x = "sorted") && (c.is x .free && (decide (kn = "reverse") && (plain e1 && chk c a e1))) | _ => false
  | .maxl a, e => match e with | .Call (.Name x _) [e1] [] _ => decide (x = "max") && (c.is x .free && (plain e1 && chk c a e1)) | _ => false
  | .maxd a b, e => match e with | .Call (.Name x _) [e1] [⟨some kn, e2, _⟩] _ => decide (x = "max") && (c.is x .free && (decide (kn = "default") && (plain e1 && (chk c a e1 && chk c b e2)))) | _ => false
  | .dmk t own it k v, e => match e with
    | .DictComp e1 e2 [⟨tg, iter, [], as⟩] scope _ => decide (as = 0) && (noSet iter && (blkC c.N c.sc scope (ownP c own) && (t.noIx && (t.slots.all (own.contains ·) && (chkI c tg it iter && (chkT (c.blk scope) t tg && (chk (c.blk scope) k e1 && chk (c.blk scope) v e2)))))))
    | _ => false
def chks (c : Cst) : IEs → List Expr → Bool
  | .nil, l => match l with | [] => true | _ => false
  | .cons e es, l => match l with | e1 :: r => plain e1 && (chk c e e1 && chks c es r) | _ => false
def chko (c : Cst) : IO → Option Expr → Bool
  | .no, o => match o with | none => true | _ => false
  | .so e, o => match o with | some e1 => chk c e e1 | _ => false
def chkc (c : Cst) : IC → List Expr → Bool
  | .no, o => match o with | [] => true | _ => false
  | .so e, o => match o with | [e1] => chk c e e1 | _ => false
def chkI (c : Cst) (tg : Expr) : II → Expr → Bool
  | .seq e, e1 => noSet e1 && chk c e e1
  | .rng1 a, e => match e with | .Call (.Name x _) [e1] [] _ => decide (x = "range") && (c.is x .free && (plain e1 && chk c a e1)) | _ => false
  | .rng2 a b, e => match e with | .Call (.Name x _) [e1, e2] [] _ => decide (x = "range") && (c.is x .free && (plain e1 && (plain e2 && (chk c a e1 && chk c b e2)))) | _ => false
  | .zip a b, e => match e with | .Call (.Name x _) [e1, e2] [] _ => decide (x = "zip") && (c.is x .free && (plain e1 && (plain e2 && (!noTup tg && (chk c a e1 && chk c b e2))))) | _ => false
def chkT (c : Cst) : TG → Expr → Bool
  | .nm i, e => match e with | .Name x _ => c.slot i x && (c.sto x && nmOk x) | _ => false
  | .tp ts, e => match e with | .Tuple l _ _ => chkTs c ts l | _ => false
  | .ixs o i, e => match e with | .Subscript e1 e2 _ => noSlice e2 && (chk c o e1 && chk c i e2) | _ => false
def chkTs (c : Cst) : TGs → List Expr → Bool
  | .nil, l => match l with | [] => true | _ => false
  | .cons t ts, l => match l with | e1 :: r => plain e1 && (chkT c t e1 && chkTs c ts r) | _ => false
end
/-! ### where one stands -/
def spD (K : PySem.W.Frag) (m : List D → M D) : Sp := fun vs H Q _ => ∃ ρ S ds, WS K ρ S H ∧ Reps K ρ H vs ds ∧ wp (m ds) (Post K ρ H Q) S
def GOk (X : Cx) (gl : Nat → D) (cf : Nat → List D → M D) (rm : Nat) (x : Str) : GI → Prop
  | .free => X.mg x = none
  | .bt id => X.mg x = some (.builtin id)
  | .cst g => ∃ u v, X.mg x = some u ∧ RelV v u ∧ ∀ ρ H, Rep X.K ρ H v (gl g)
  | .fn i => ∃ f fd ps k, X.mg x = some (.ref f) ∧ PySem.W.keepIn X.K (.ref f) = true ∧ Binds X.K fd ps [] ∧ Room (k + rm) X.A ∧ FnOk X.prog X.w X.K X.mg X.base CX0 k f fd ps (spD X.K (cf i))
  | .other => True
structure Ok (gl : Nat → D) (cf : Nat → List D → M D) (c : Cst) (X : Cx) : Prop where
  N : X.N = c.N
  nd : X.N.Nodup
  sc : X.env.scope = c.sc
  fn : ∀ x, c.fn x = true → X.fn x = true
  calm : X.calm = true
  xe : X.xe = fun _ _ => False
  un : X.A.units + 65 < cLine
  G : ∀ x g, c.G.lookup x = some g → GOk X gl cf c.rm x g
  lam : c.lam = true → ∃ cc P, X.env.code = .ref cc ∧ tabAd X.K = some P ∧ LamX.TabB X.base X.mg cc P ∧ X.env.qual ++ "<lambda>" = lamQ ∧ Room 3 X.A
section
variable {gl : Nat → D} {cf : Nat → List D → M D} {c : Cst} {X : Cx}
theorem Ok.slot (ok : Ok gl cf c X) {i : Nat} {x : Str} (h : c.slot i x = true) : X.N[i]? = some x := by rw [ok.N]; exact of_decide_eq_true h
theorem Ok.vis (ok : Ok gl cf c X) {x : Str} (h : c.vis x = true) : Vis X.env.scope x := by
  unfold Vis
  rw [ok.sc]
  unfold Cst.vis at h
  rcases Bool.or_eq_true_iff.mp h with h | h
  · exact .inl (of_decide_eq_true h)
  · rcases Bool.or_eq_true_iff.mp h with h | h
    · exact .inr (.inl (of_decide_eq_true h))
    · exact .inr (.inr (of_decide_eq_true h))
theorem Ok.loc (ok : Ok gl cf c X) {x : Str} (h : c.sto x = true) : L2.Loc X.env.scope x ∧ (X.fn x = true ∨ X.env.scope.names.lookup x = some .local) := by
  unfold L2.Loc
  rw [ok.sc]
  unfold Cst.sto at h
  rcases Bool.or_eq_true_iff.mp h with h | h
  · exact ⟨.inl (of_decide_eq_true h), .inr (of_decide_eq_true h)⟩
  · obtain ⟨h1, h2⟩ := and2 h
    exact ⟨.inr (of_decide_eq_true h1), .inl (ok.fn x h2)⟩
theorem Ok.is_ (ok : Ok gl cf c X) {x : Str} {g : GI} (h : c.is x g = true) : Gl X x ∧ GOk X gl cf c.rm x g := by
  obtain ⟨h1, h2⟩ := and2 h
  refine ⟨?_, ok.G x g (of_decide_eq_true h2)⟩
  show X.env.scope.names.lookup x = some .globalImplicit
  rw [ok.sc]
  exact of_decide_eq_true h1
theorem nmOk_ {x : Str} (h : nmOk x = true) : (x == ("__debug__" : Str)) = false ∧ (x == ("__classdict__" : Str)) = false ∧ x ≠ "__name__" := by
  obtain ⟨h1, h2⟩ := and2 h
  obtain ⟨h2, h3⟩ := and2 h2
  exact ⟨eq_of_beq h1, eq_of_beq h2, of_decide_eq_true h3⟩
theorem Ok.blk (ok : Ok gl cf c X) (scope : Scope) (s : Shared) (H : Hp) (C : Addr) (cl : List (Str × Addr)) (fp : List Addr) : Ok gl cf (c.blk scope) (X.blk s H scope (compEnvC scope cl C X.env) fp) where
  N := ok.N
  nd := ok.nd
  sc := by
    show relS scope X.env.scope = relS scope c.sc
    rw [ok.sc]
  fn := fun x h => h
  calm := ok.calm
  xe := rfl
  un := ok.un
  G := fun x g h => by
    have := ok.G x g h
    cases g with
    | free => exact this
    | bt id => exact this
    | cst g => exact this
    | fn i => exact this
    | other => exact this
  lam := fun h => by cases h
end
/-! ### small facts of the text -/
section
theorem star_plain {e : Expr} {es : List Expr} {env : Env} (h : plain e = true) : starEach (e :: es) env = (false, eval e env) :: starEach es env := by
  cases e <;> first | rfl | cases h
theorem back_any {pos : Pos} {env : Env} : ∀ {es : List Expr}, es.all plain = true → (backTo pos (starEach es env)).any (·.1) = false
  | [], _ => rfl
  | e :: es, h => by
    rw [List.all_cons] at h
    obtain ⟨h1, h2⟩ := and2 h
    rw [star_plain h1]
    have := back_any (pos := pos) (env := env) h2
    unfold backTo at this ⊢
    rw [List.map_cons, List.any_cons, this]
    rfl
theorem back_all {pos : Pos} {env : Env} : ∀ {es : List Expr}, es.all plain = true → (backTo pos (starEach es env)).all (fun x => !x.1) = true
  | [], _ => rfl
  | e :: es, h => by
    rw [List.all_cons] at h
    obtain ⟨h1, h2⟩ := and2 h
    rw [star_plain h1]
    have := back_all (pos := pos) (env := env) h2
    unfold backTo at this ⊢
    rw [List.map_cons, List.all_cons, this]
    rfl
theorem few_ok {pos : Pos} {env : Env} {es : List Expr} (h : es.all plain = true) (hl : es.length < 29) : ((backTo pos (starEach es env)).all (fun x => !x.1) && (backToKw pos (keywordEach [] env)).all (fun x => x.1.isSome)
      && decide (es.length + ([] : List Keyword).length + (if ([] : List Keyword).isEmpty then 0 else 1) < 30)) = true := by
  rw [back_all h]
  show (true && true && decide (es.length + 0 + 0 < 30)) = true
  simp; omega
theorem asg_each {e : Expr} {es : List Expr} {env : Env} (h : plain e = true) : assignEach (e :: es) env = (false, assign e env) :: assignEach es env := by
  cases e <;> first | rfl | cases h
theorem asg_len {env : Env} : ∀ {es : List Expr}, es.all plain = true → (assignEach es env).length = es.length
  | [], _ => rfl
  | e :: es, h => by
    rw [List.all_cons] at h
    obtain ⟨h1, h2⟩ := and2 h
    rw [asg_each h1, List.length_cons, List.length_cons, asg_len h2]
theorem asg_find {env : Env} : ∀ {es : List Expr}, es.all plain = true → (assignEach es env).findIdx? (·.1) = none
  | [], _ => rfl
  | e :: es, h => by
    rw [List.all_cons] at h
    obtain ⟨h1, h2⟩ := and2 h
    rw [asg_each h1, List.findIdx?_cons, asg_find h2]
    rfl
theorem folded_ok {e : Expr} {env : Env} (h : noSet e = true) : ∀ x, foldedSetIterable e env x = pure x := by
  intro x
  cases e <;> first | rfl | cases h
theorem plainIx_ok {e : Expr} (h : noSlice e = true) : PlainIx e := by
  intro o i
  cases e <;> first | rfl | cases h
theorem super_ok {e : Expr} {m : Str} {env : Env} {w : Sem Value} (h : noSuper e = true) : attributeBase e m env w = w := by
  cases e <;> first | rfl | cases h
theorem truth_plain {e : Expr} {env : Env} (h : byTruth e = true) : ∀ whole, isTrue e env whole = (do let v ← whole; standAt e.pos; holding [v] (truthy v)) := by
  intro w
  cases e <;> first | rfl | cases h
theorem swap_none {e : Expr} {t : Option Expr} {l : Nat} {env : Env} (h : noComp e = true) : swapsWith e t l env = pure false := by
  cases e <;> first | rfl | cases h
theorem swapped_none {tg e : Expr} {env : Env} (h : noTup e = true ∨ noTup tg = true) (h2 : ∀ es p, tg ≠ .List es p) : swappedStores [tg] e env = pure none := by
  cases tg <;> cases e <;> first | exact absurd rfl (h2 _ _) | rfl | (rcases h with h | h <;> cases h)
end
end Dl
end

section
set_option Elab.async false
set_option linter.all false
set_option maxRecDepth 100000
set_option maxHeartbeats 1000000
/-! Dl: the meaning of the language is the machine's: rules for expressions -/
namespace Dl
open PySem PySem.Spec PyProof.Rows L2
section
variable {gl : Nat → D} {cf : Nat → List D → M D} {c : Cst} {X : Cx}
/-! ### readings for tests, arguments, targets, sources -/
/-- an assignment of a datum -/
def TGd (K : PySem.W.Frag) (sl : List Nat) (m : D → Sl → M Sl) : L2.TG := fun v σ H Q => ∃ ρ S env d, WS K ρ S H ∧ EnvR K ρ H σ env ∧ Rep K ρ H v d ∧
  wp (m d env) (fun env' S' => ∀ ρ' H' σ', Step ρ H ρ' H' → WS K ρ' S' H' → EnvR K ρ' H' σ' env' → (∀ own : List Nat, (∀ i ∈ sl, i ∈ own) → wipe σ' own = wipe σ own) → Q σ' H') S
def TGds (K : PySem.W.Frag) (sl : List Nat) (m : List D → Sl → M Sl) : L2.TGs := fun vs σ H Q => ∃ ρ S env ds, WS K ρ S H ∧ EnvR K ρ H σ env ∧ Reps K ρ H vs ds ∧
  wp (m ds env) (fun env' S' => ∀ ρ' H' σ', Step ρ H ρ' H' → WS K ρ' S' H' → EnvR K ρ' H' σ' env' → (∀ own : List Nat, (∀ i ∈ sl, i ∈ own) → wipe σ' own = wipe σ own) → Q σ' H') S
def GH (S : Store) : Option (Nat × List D) → Prop
  | none => True
  | some (l, ds) => S[l]? = some (.lst ds)
theorem grd1_wp {g : Option (Nat × List D)} {Q : Unit → Store → Prop} {S : Store} (h : wp (grd1 g) Q S) : GH S g ∧ Q () S := by
  unfold grd1 at h
  split at h
  · exact ⟨trivial, h⟩
  · rename_i l ds
    unfold wp at h
    by_cases e : S[l]? = some (.lst ds)
    · simp only [e, if_true] at h
      exact ⟨e, h⟩
    · simp only [e, if_false] at h
theorem grd_wp {s : Src} {Q : Unit → Store → Prop} {S : Store} (h : wp s.grd Q S) : (GH S s.guard ∧ GH S s.guard2) ∧ Q () S := by
  unfold Src.grd at h
  rw [wp_bind] at h
  obtain ⟨h1, h⟩ := grd1_wp h
  obtain ⟨h2, h⟩ := grd1_wp h
  exact ⟨⟨h1, h2⟩, h⟩
/-- the iterator J yields the items -/
def SrcOk (K : PySem.W.Frag) (ρ0 : List Addr) (H0 : Hp) (J : It) (s : Src) : Prop := ∀ (i : Nat) (ρ : List Addr) (S : Store) (H : Hp), Step ρ0 H0 ρ H → WS K ρ S H → GH S s.guard ∧ GH S s.guard2 →
  (∀ d, s.items[i]? = some d → J.go i H ∧ ∀ x H', J.yld i H x H' → Step ρ H ρ H' ∧ WS K ρ S H' ∧ Rep K ρ H' x d) ∧ (s.items.length ≤ i → J.stop i H)
def TIs (K : PySem.W.Frag) (m : Sl → M Src) : TI := fun σ H R => ∃ ρ S env, WS K ρ S H ∧ EnvR K ρ H σ env ∧
  wp (m env) (fun s S' => ∀ ρ' H' J, Step ρ H ρ' H' → WS K ρ' S' H' → SrcOk K ρ' H' J s → R J H') S

/-! ### names, constants -/
theorem r_var (ok : Ok gl cf c X) {i : Nat} {x : Str} {pos : Pos} (h : (c.slot i x && (c.vis x && nmOk x)) = true) : PE X (.Name x pos) (TD X.K (ev gl cf (.var i))) := by
  obtain ⟨h1, h2⟩ := and2 h
  obtain ⟨h2, h3⟩ := and2 h2
  obtain ⟨n1, n2, n3⟩ := nmOk_ h3
  refine PE.of (pe_var (ok.slot h1) (ok.vis h2) n1 n2) fun σ H Q ⟨ρ, S, env, w, e, q⟩ => ?_
  simp only [ev] at q
  split at q
  · rename_i d hd
    obtain ⟨v, e1, r⟩ := e.at_ i d hd
    exact ⟨v, e1, Post.same w r q⟩
  · exact q.elim
theorem r_glo (ok : Ok gl cf c X) {g : Nat} {x : Str} {pos : Pos} (h : (c.is x (.cst g) && nmOk x) = true) : PE X (.Name x pos) (TD X.K (ev gl cf (.glo g))) := by
  obtain ⟨h1, h3⟩ := and2 h
  obtain ⟨n1, n2, n3⟩ := nmOk_ h3
  obtain ⟨hg, u, v, hm, r, rep⟩ := ok.is_ h1
  refine PE.of (pe_glob hg hm r n1) fun σ H Q ⟨ρ, S, env, w, e, q⟩ => ?_
  simp only [ev] at q
  exact Post.same w (rep ρ H) q
theorem r_int {z : Int} {k : Nat} {pos : Pos} : PE X (.Constant (.int z) k pos) (TD X.K (ev gl cf (.int z))) :=
  PE.of pe_int fun σ H Q ⟨ρ, S, env, w, e, q⟩ => Post.int w q
theorem r_bl {z : Bool} {k : Nat} {pos : Pos} : PE X (.Constant (.bool z) k pos) (TD X.K (ev gl cf (.bl z))) :=
  PE.of pe_bl fun σ H Q ⟨ρ, S, env, w, e, q⟩ => Post.bl w q
theorem r_non {k : Nat} {pos : Pos} : PE X (.Constant .none k pos) (TD X.K (ev gl cf .non)) :=
  PE.of pe_non fun σ H Q ⟨ρ, S, env, w, e, q⟩ => Post.non w q
theorem r_str {z : Str} {k : Nat} {pos : Pos} : PE X (.Constant (.str z) k pos) (TD X.K (ev gl cf (.str z))) :=
  PE.of pe_str fun σ H Q ⟨ρ, S, env, w, e, q⟩ => Post.str w q
/-! ### arguments -/
theorem r_nil : PA X [] (TDs X.K (evs gl cf .nil)) := PA.of pa_nil fun σ H Q ⟨ρ, S, env, w, e, q⟩ => q ρ H [] .refl w .nil
theorem r_cons {e : IE} {es : IEs} {e1 : Expr} {r : List Expr} (hp : plain e1 = true) (h1 : PE X e1 (TD X.K (ev gl cf e))) (h2 : PA X r (TDs X.K (evs gl cf es))) : PA X (e1 :: r) (TDs X.K (evs gl cf (.cons e es))) := by
  refine PA.of (pa_cons h1 h2 (star_plain hp)) fun σ H Q h => ?_
  have h : TDs X.K (fun env => do let d ← ev gl cf e env; let ds ← evs gl cf es env; pure (d :: ds)) σ H Q := h
  refine TD.thenS h fun ρ S env d v H' w en rd q => ?_
  rw [wp_bind] at q
  refine ⟨ρ, S, env, w, en, wp_mono q fun ds S' p ρ' H'' vs st w' rs => ?_⟩
  exact p ρ' H'' _ st w' (.cons (rd.step w st) rs)
theorem r_tup {es : IEs} {l : List Expr} {k : Nat} {pos : Pos} (h : PA X l (TDs X.K (evs gl cf es))) : PE X (.Tuple l k pos) (TD X.K (ev gl cf (.tup es))) := by
  refine PE.of (pe_tup h) fun σ H Q h => ?_
  have h : TD X.K (fun env => do let ds ← evs gl cf es env; do need (lens ds.length); pure (D.tup ds)) σ H Q := h
  refine TDs.then_ h fun ρ S env d v H' w en rd q => ?_
  simp only [wp_bind, wp_need, wp_pure] at q
  exact ⟨by rw [rd.length]; exact of_decide_eq_true q.1, fun p hp => Post.tup w rd q.2 hp⟩
theorem r_lst {es : IEs} {l : List Expr} {pos : Pos} (h : PA X l (TDs X.K (evs gl cf es))) : PE X (.List l pos) (TD X.K (ev gl cf (.lst es))) := by
  refine PE.of (pe_lst h) fun σ H Q h => ?_
  have h : TD X.K (fun env => do let ds ← evs gl cf es env; do need (lens ds.length); newO (.lst ds)) σ H Q := h
  refine TDs.then_ h fun ρ S env d v H' w en rd q => ?_
  simp only [wp_bind, wp_need, wp_newO] at q
  exact ⟨by rw [rd.length]; exact of_decide_eq_true q.1, fun p hp => Post.lst w rd q.2 hp⟩
/-! ### operators -/
section
variable {a b : IE} {e1 e2 : Expr} {pos : Pos}
theorem r_op {o : Operator} (h1 : PE X e1 (TD X.K (ev gl cf a))) (h2 : PE X e2 (TD X.K (ev gl cf b))) : PE X (.BinOp e1 o e2 pos) (TD X.K (ev gl cf (.op o a b))) :=
  PE.of (pe_op (bop_ok o) h1 h2) fun σ H Q h => TD.op h
theorem r_neg (h1 : PE X e1 (TD X.K (ev gl cf a))) : PE X (.UnaryOp .USub e1 pos) (TD X.K (ev gl cf (.neg a))) := by
  refine PE.of (pe_un un_neg h1) fun σ H Q h => ?_
  have h : TD X.K (fun env => do let x ← ev gl cf a env; (match x with | .int i => pure (D.int (-i)) | _ => fail)) σ H Q := h
  refine TD.then_ (m := ev gl cf a) (f := fun x _ => (match x with | .int i => pure (D.int (-i)) | _ => fail)) h fun ρ S env d v H' w en rd q => ?_
  split at q
  · cases rd.int_
    exact ⟨_, rfl, Post.int w q⟩
  · exact q.elim
theorem r_cmp (ok : Ok gl cf c X) {o : CmpOp} (hb : (!behindInMarks o e2) = true) (h1 : PE X e1 (TD X.K (ev gl cf a))) (h2 : PE X e2 (TD X.K (ev gl cf b))) : PE X (.Compare e1 [o] [e2] pos) (TD X.K (ev gl cf (.cmp o a b))) :=
  PE.of (pe_cmpR (cop_ok (by have := ok.un; omega) o) h1 h2 (by simpa using hb)) fun σ H Q h => TD.op (f := fun x y => do let r ← cop o x y; pure (.bl r)) h
theorem t_cmp (ok : Ok gl cf c X) {o : CmpOp} (hb : (!behindInMarks o e2) = true) (h1 : PE X e1 (TD X.K (ev gl cf a))) (h2 : PE X e2 (TD X.K (ev gl cf b))) : PT X (.Compare e1 [o] [e2] pos) (TB X.K (tst gl cf (.cmp o a b))) := by
  refine PT.of (pt_cmpR (cop_ok (by have := ok.un; omega) o) h1 h2 (by simpa using hb)) fun σ H Q h => ?_
  obtain ⟨ρ, S, env, w, e, h⟩ := h
  refine TD.op (f := fun x y => do let r ← cop o x y; pure (.bl r)) ⟨ρ, S, env, w, e, ?_⟩
  simp only [tst, wp_bind, wp_pure] at h ⊢
  refine wp_mono h fun x S1 h => wp_mono h fun y S2 h => wp_mono h fun r S3 h => ?_
  intro ρ' H' v st w' rv
  exact ⟨r, rv.bl_, h ρ' H' st w'⟩
theorem chain_step (ok : Ok gl cf c X) {o : CmpOp} {x y : D} {v u : V} {ρ : List Addr} {S : Store} {H : Hp} (w : WS X.K ρ S H) (rx : Rep X.K ρ H v x) (ry : Rep X.K ρ H u y) {R : Bool → Store → Prop} (h : wp (cop o x y) R S)
    {Q : VK} (k : ∀ r S' ρ' H', Step ρ H ρ' H' → WS X.K ρ' S' H' → R r S' → Q (.bl r) H') : rC X.K o v u H Q := by
  refine ⟨ρ, S, x, y, w, rx, ry, ?_⟩
  simp only [wp_bind, wp_pure]
  refine wp_mono h fun r S' h ρ' H' v st w' rv => ?_
  cases rv.bl_
  exact k r S' ρ' H' st w' h
theorem r_chain (ok : Ok gl cf c X) {o o2 : CmpOp} {d : IE} {e3 : Expr} (hb : (!lastMarks [o, o2] [e2, e3]) = true) (h1 : PE X e1 (TD X.K (ev gl cf a))) (h2 : PE X e2 (TD X.K (ev gl cf b))) (h3 : PE X e3 (TD X.K (ev gl cf d))) :
    PE X (.Compare e1 [o, o2] [e2, e3] pos) (TD X.K (ev gl cf (.chain o o2 a b d))) := by
  refine PE.of (pe_chain (cop_ok (by have := ok.un; omega) o) (cop_ok (by have := ok.un; omega) o2) h1 h2 h3 (by simpa using hb)) fun σ H Q h => ?_
  obtain ⟨ρ, S, env, w, e, h⟩ := h
  simp only [ev, wp_bind] at h
  refine ⟨ρ, S, env, w, e, wp_mono h fun x S1 h ρ1 H1 v st1 w1 rv => ⟨ρ1, S1, env, w1, e.step w st1, wp_mono h fun y S2 h ρ2 H2 u st2 w2 ru => ?_⟩⟩
  refine chain_step ok w2 (rv.step w1 st2) ru h fun r S3 ρ3 H3 st3 w3 h => ⟨r, rfl, ?_⟩
  have e3 := ((e.step w st1).step w1 st2).step w2 st3
  cases r with
  | true =>
    simp only [if_true, wp_bind] at h ⊢
    refine ⟨ρ3, S3, env, w3, e3, wp_mono h fun z S4 h ρ4 H4 u' st4 w4 rz => ?_⟩
    exact ⟨ρ4, S4, y, z, w4, (ru.step w2 st3).step w3 st4, rz, by
      rw [wp_bind]
      exact wp_mono h fun r' S5 p => p.step (((st1.trans st2).trans st3).trans st4)⟩
  | false =>
    rw [if_neg Bool.false_ne_true]
    exact h ρ3 H3 _ ((st1.trans st2).trans st3) w3 (.bl _)
theorem t_chain (ok : Ok gl cf c X) {o o2 : CmpOp} {d : IE} {e3 : Expr} (hb : (!lastMarks [o, o2] [e2, e3]) = true) (h1 : PE X e1 (TD X.K (ev gl cf a))) (h2 : PE X e2 (TD X.K (ev gl cf b))) (h3 : PE X e3 (TD X.K (ev gl cf d))) :
    PT X (.Compare e1 [o, o2] [e2, e3] pos) (TB X.K (tst gl cf (.chain o o2 a b d))) := by
  refine PT.of (pt_chain (cop_ok (by have := ok.un; omega) o) (cop_ok (by have := ok.un; omega) o2) h1 h2 h3 (by simpa using hb)) fun σ H Q h => ?_
  obtain ⟨ρ, S, env, w, e, h⟩ := h
  simp only [tst, wp_bind] at h
  refine ⟨ρ, S, env, w, e, wp_mono h fun x S1 h ρ1 H1 v st1 w1 rv => ⟨ρ1, S1, env, w1, e.step w st1, wp_mono h fun y S2 h ρ2 H2 u st2 w2 ru => ?_⟩⟩
  refine chain_step ok w2 (rv.step w1 st2) ru h fun r S3 ρ3 H3 st3 w3 h => ⟨r, rfl, ?_⟩
  have e3 := ((e.step w st1).step w1 st2).step w2 st3
  cases r with
  | true =>
    simp only [if_true, wp_bind] at h ⊢
    refine ⟨ρ3, S3, env, w3, e3, wp_mono h fun z S4 h ρ4 H4 u' st4 w4 rz => ?_⟩
    refine chain_step ok w4 ((ru.step w2 st3).step w3 st4) rz h fun r' S5 ρ5 H5 st5 w5 h => ⟨r', rfl, ?_⟩
    exact h ρ5 H5 ((((st1.trans st2).trans st3).trans st4).trans st5) w5
  | false =>
    rw [if_neg Bool.false_ne_true]
    exact ⟨_, rfl, h ρ3 H3 ((st1.trans st2).trans st3) w3⟩
/-! ### truth, and, or, not -/
theorem t_truth {m : Sl → M D} {e : Expr} (hb : byTruth e = true) (h : PE X e (TD X.K m)) : PT X e (TB X.K fun env => do let d ← m env; truth d) := by
  refine PT.of (pt_truth h (truth_plain hb)) fun σ H Q h => ?_
  refine TD.thenB (m := m) (f := fun d _ => truth d) h fun ρ S env d v H' w en rd q => ?_
  obtain ⟨k, t, q⟩ := truth_ok w rd q
  exact ⟨k, t, q ρ H' .refl w⟩
theorem r_not (h1 : PE X e1 (TD X.K (ev gl cf a))) : PE X (.UnaryOp .Not e1 pos) (TD X.K (ev gl cf (.not a))) := by
  refine PE.of (pe_notT h1) fun σ H Q h => ?_
  have h : TD X.K (fun env => do let x ← ev gl cf a env; do let b ← truth x; pure (D.bl (!b))) σ H Q := h
  refine TD.then_ (m := ev gl cf a) (f := fun x _ => do let b ← truth x; pure (D.bl (!b))) h fun ρ S env d v H' w en rd q => ?_
  rw [wp_bind] at q
  obtain ⟨k, t, q⟩ := truth_ok w rd q
  exact ⟨k, t, Post.bl w q⟩
theorem t_not (h : PT X e1 (TB X.K (tst gl cf a))) : PT X (.UnaryOp .Not e1 pos) (TB X.K (tst gl cf (.not a))) := by
  refine PT.of (pt_not h) fun σ H Q h => ?_
  have h : TB X.K (fun env => do let b ← tst gl cf a env; pure (!b)) σ H Q := h
  exact TB.thenB (m := tst gl cf a) (f := fun b _ => pure (!b)) h fun ρ S env d H' w en q => q ρ H' .refl w
theorem t_and (h1 : PT X e1 (TB X.K (tst gl cf a))) {r : List Expr} (h2 : PW X (.BoolOp .And (e2 :: r) pos) (TB X.K (tst gl cf b))) : PW X (.BoolOp .And (e1 :: e2 :: r) pos) (TB X.K (tst gl cf (.and a b))) := by
  refine PW.of (pw_and h1 h2) fun σ H Q h => ?_
  have h : TB X.K (fun env => do let x ← tst gl cf a env; (if x = true then tst gl cf b env else pure false)) σ H Q := h
  refine TB.thenB (m := tst gl cf a) (f := fun x env => (if x = true then tst gl cf b env else pure false)) h fun ρ S env d H' w en q => ?_
  cases d with
  | true => rw [if_pos rfl] at q ⊢; exact ⟨ρ, S, env, w, en, q⟩
  | false => rw [if_neg Bool.false_ne_true] at q ⊢; exact q ρ H' .refl w
theorem t_or (h1 : PT X e1 (TB X.K (tst gl cf a))) {r : List Expr} (h2 : PW X (.BoolOp .Or (e2 :: r) pos) (TB X.K (tst gl cf b))) : PW X (.BoolOp .Or (e1 :: e2 :: r) pos) (TB X.K (tst gl cf (.or a b))) := by
  refine PW.of (pw_or h1 h2) fun σ H Q h => ?_
  have h : TB X.K (fun env => do let x ← tst gl cf a env; (if x = true then pure true else tst gl cf b env)) σ H Q := h
  refine TB.thenB (m := tst gl cf a) (f := fun x env => (if x = true then pure true else tst gl cf b env)) h fun ρ S env d H' w en q => ?_
  cases d with
  | true => rw [if_pos rfl] at q ⊢; exact q ρ H' .refl w
  | false => rw [if_neg Bool.false_ne_true] at q ⊢; exact ⟨ρ, S, env, w, en, q⟩
theorem r_and (h1 : PE X e1 (TD X.K (ev gl cf a))) {r : List Expr} (h2 : PE X (.BoolOp .And (e2 :: r) pos) (TD X.K (ev gl cf b))) : PE X (.BoolOp .And (e1 :: e2 :: r) pos) (TD X.K (ev gl cf (.and a b))) := by
  refine PE.of (pe_andT h1 h2) fun σ H Q h => ?_
  have h : TD X.K (fun env => do let x ← ev gl cf a env; do let k ← truth x; (if k = true then ev gl cf b env else pure x)) σ H Q := h
  refine TD.then_ (m := ev gl cf a) (f := fun x env => do let k ← truth x; (if k = true then ev gl cf b env else pure x)) h fun ρ S env d v H' w en rd q => ?_
  rw [wp_bind] at q
  obtain ⟨k, t, q⟩ := truth_ok w rd q
  refine ⟨k, t, ?_⟩
  cases k with
  | true => rw [if_pos rfl] at q ⊢; exact ⟨ρ, S, env, w, en, q⟩
  | false => rw [if_neg Bool.false_ne_true] at q ⊢; exact Post.same w rd q
theorem r_or (h1 : PE X e1 (TD X.K (ev gl cf a))) {r : List Expr} (h2 : PE X (.BoolOp .Or (e2 :: r) pos) (TD X.K (ev gl cf b))) : PE X (.BoolOp .Or (e1 :: e2 :: r) pos) (TD X.K (ev gl cf (.or a b))) := by
  refine PE.of (pe_orT h1 h2) fun σ H Q h => ?_
  have h : TD X.K (fun env => do let x ← ev gl cf a env; do let k ← truth x; (if k = true then pure x else ev gl cf b env)) σ H Q := h
  refine TD.then_ (m := ev gl cf a) (f := fun x env => do let k ← truth x; (if k = true then pure x else ev gl cf b env)) h fun ρ S env d v H' w en rd q => ?_
  rw [wp_bind] at q
  obtain ⟨k, t, q⟩ := truth_ok w rd q
  refine ⟨k, t, ?_⟩
  cases k with
  | true => rw [if_pos rfl] at q ⊢; exact Post.same w rd q
  | false => rw [if_neg Bool.false_ne_true] at q ⊢; exact ⟨ρ, S, env, w, en, q⟩
end

/-! ### conditional, subscripts -/
section
variable {a b d : IE} {e1 e2 e3 : Expr} {pos : Pos}
theorem r_ite (h1 : PT X e1 (TB X.K (tst gl cf d))) (h2 : PE X e2 (TD X.K (ev gl cf a))) (h3 : PE X e3 (TD X.K (ev gl cf b))) : PE X (.IfExp e1 e2 e3 pos) (TD X.K (ev gl cf (.ite d a b))) := by
  refine PE.of (pe_ifExp h1 h2 h3) fun σ H Q h => ?_
  have h : TD X.K (fun env => do let x ← tst gl cf d env; (if x = true then ev gl cf a env else ev gl cf b env)) σ H Q := h
  refine TB.then_ (m := tst gl cf d) (f := fun x env => (if x = true then ev gl cf a env else ev gl cf b env)) h fun ρ S env d H' w en q => ?_
  cases d with
  | true => rw [if_pos rfl] at q ⊢; exact ⟨ρ, S, env, w, en, q⟩
  | false => rw [if_neg Bool.false_ne_true] at q ⊢; exact ⟨ρ, S, env, w, en, q⟩
theorem r_ix (hs : noSlice e2 = true) (h1 : PE X e1 (TD X.K (ev gl cf a))) (h2 : PE X e2 (TD X.K (ev gl cf b))) : PE X (.Subscript e1 e2 pos) (TD X.K (ev gl cf (.ix a b))) :=
  PE.of (pe_ix ixD_ok h1 h2 (plainIx_ok hs)) fun σ H Q h => TD.op h
def TOd (K : PySem.W.Frag) (m : Sl → M (Option Int)) : TO := fun σ H Q => ∃ ρ S env, WS K ρ S H ∧ EnvR K ρ H σ env ∧ wp (m env) (fun o S' => ∀ ρ' H', Step ρ H ρ' H' → WS K ρ' S' H' → Q o H') S
theorem PO.of {e : Option Expr} {t t' : TO} (h : PO X e t) (k : ∀ σ H Q, t' σ H Q → t σ H Q) : PO X e t' := ⟨fun pins s σ H Q I hw => h.run pins s σ H Q I (k σ H Q hw)⟩
theorem r_no : PO X none (TOd X.K (evo gl cf .no)) := PO.of po_none fun σ H Q ⟨ρ, S, env, w, en, h⟩ => h ρ H .refl w
theorem r_so (h1 : PE X e1 (TD X.K (ev gl cf a))) : PO X (some e1) (TOd X.K (evo gl cf (.so a))) := by
  refine PO.of (po_some h1) fun σ H Q ⟨ρ, S, env, w, en, h⟩ => ⟨ρ, S, env, w, en, ?_⟩
  simp only [evo, wp_bind] at h
  refine wp_mono h fun d S' q ρ' H' v st w' rv => ?_
  unfold asInt at q
  split at q
  · cases rv.int_
    exact ⟨_, rfl, q ρ' H' st w'⟩
  · exact q.elim
theorem r_sl {lo hi : IO} {l h : Option Expr} {p2 : Pos} (h1 : PE X e1 (TD X.K (ev gl cf a))) (h2 : PO X l (TOd X.K (evo gl cf lo))) (h3 : PO X h (TOd X.K (evo gl cf hi))) : PE X (.Subscript e1 (.Slice l h none p2) pos) (TD X.K (ev gl cf (.sl a lo hi))) := by
  refine PE.of (pe_slice slD_ok h1 h2 h3) fun σ H Q ⟨ρ, S, env, w, en, h⟩ => ?_
  simp only [ev, wp_bind] at h
  refine ⟨ρ, S, env, w, en, wp_mono h fun d S1 h ρ1 H1 v st1 w1 rv => ⟨ρ1, S1, env, w1, en.step w st1, wp_mono h fun l' S2 h ρ2 H2 st2 w2 => ⟨ρ2, S2, env, w2, (en.step w st1).step w1 st2, wp_mono h fun h' S3 h ρ3 H3 st3 w3 => ?_⟩⟩⟩
  exact ⟨ρ3, S3, d, w3, (rv.step w1 st2).step w2 st3, wp_mono h fun d' S4 p => p.step ((st1.trans st2).trans st3)⟩
theorem r_rev {k : Nat} {p1 p2 p3 : Pos} (h1 : PE X e1 (TD X.K (ev gl cf a))) : PE X (.Subscript e1 (.Slice none none (some (.UnaryOp .USub (.Constant (.int 1) k p1) p2)) p3) pos) (TD X.K (ev gl cf (.rev a))) :=
  PE.of (rev_ok h1) fun σ H Q h => TD.un (f := revD) h
end
/-! ### calls -/
section
variable {es : IEs} {e1 : Expr} {l : List Expr} {x : Str} {p pos : Pos}
theorem r_call (ok : Ok gl cf c X) {f : Nat} (h : (c.is x (.fn f) && nmOk x) = true) (hp : (e1 :: l).all plain = true) (ha : PA X (e1 :: l) (TDs X.K (evs gl cf es))) : PE X (.Call (.Name x p) (e1 :: l) [] pos) (TD X.K (ev gl cf (.call f es))) := by
  obtain ⟨h1, h3⟩ := and2 h
  obtain ⟨n1, n2, n3⟩ := nmOk_ h3
  obtain ⟨hg, fa, fd, ps, k, hm, hk, hb, hr, F⟩ := ok.is_ h1
  rw [List.all_cons] at hp
  obtain ⟨p1, p2⟩ := and2 hp
  refine PE.of (pe_call (E := E0) F (hr.mono (Nat.le_add_right _ _)) hg hm hk hb .nil pass0 ha n1 (star_plain p1) (back_any p2)) fun σ H Q h => ?_
  have h : TD X.K (fun env => do let ds ← evs gl cf es env; cf f ds) σ H Q := h
  refine TDs.then_ (m := evs gl cf es) (f := fun ds _ => cf f ds) h fun ρ S env d v H' w en rd q => ?_
  show spD X.K (cf f) (v ++ []) H' Q E0
  rw [List.append_nil]
  exact ⟨ρ, S, d, w, rd, q⟩
theorem bi_boot (b : Bi) (h : b ≠ .gcd) : bootBuiltins b.name = some b.val := by cases b <;> first | exact absurd rfl h | decide +kernel
theorem bi_nm (b : Bi) : b.name ≠ "__name__" ∧ (b.name == ("__debug__" : Str)) = false := by cases b <;> exact ⟨by decide +kernel, by decide +kernel⟩
theorem r_bi (ok : Ok gl cf c X) {b : Bi} (h : c.is b.name b.gi = true) (hp : (e1 :: l).all plain = true) (ha : PA X (e1 :: l) (TDs X.K (evs gl cf es))) : PE X (.Call (.Name b.name p) (e1 :: l) [] pos) (TD X.K (ev gl cf (.bi b es))) := by
  obtain ⟨hg, hm⟩ := ok.is_ h
  rw [List.all_cons] at hp
  obtain ⟨p1, p2⟩ := and2 hp
  obtain ⟨n1, n2⟩ := bi_nm b
  have hc := bi_ok ok.calm b
  have main : PE X (.Call (.Name b.name p) (e1 :: l) [] pos) (tCB (rDs X.K (biRun b)) (TDs X.K (evs gl cf es))) := by
    cases b with
    | gcd => exact pe_callBfun hc hg hm ha n2 (star_plain p1) (back_any p2)
    | len => exact pe_callB hc hg hm (bi_boot .len (by decide)) ha n1 n2 (star_plain p1) (back_any p2)
    | sum => exact pe_callB hc hg hm (bi_boot .sum (by decide)) ha n1 n2 (star_plain p1) (back_any p2)
    | abs => exact pe_callB hc hg hm (bi_boot .abs (by decide)) ha n1 n2 (star_plain p1) (back_any p2)
    | max => exact pe_callB hc hg hm (bi_boot .max (by decide)) ha n1 n2 (star_plain p1) (back_any p2)
    | min => exact pe_callB hc hg hm (bi_boot .min (by decide)) ha n1 n2 (star_plain p1) (back_any p2)
    | all => exact pe_callB hc hg hm (bi_boot .all (by decide)) ha n1 n2 (star_plain p1) (back_any p2)
    | any => exact pe_callB hc hg hm (bi_boot .any (by decide)) ha n1 n2 (star_plain p1) (back_any p2)
    | int => exact pe_callTy hc hg hm (bi_boot .int (by decide)) ha n1 n2 (star_plain p1) (back_any p2)
    | tuple => exact pe_callTy hc hg hm (bi_boot .tuple (by decide)) ha n1 n2 (star_plain p1) (back_any p2)
    | list => exact pe_callTy hc hg hm (bi_boot .list (by decide)) ha n1 n2 (star_plain p1) (back_any p2)
  exact PE.of main fun σ H Q h => TDs.cb (f := biRun b) h
/-! ### methods of lists -/
theorem isL_wp {K : PySem.W.Frag} {ρ : List Addr} {S : Store} {H : Hp} {d : D} {v : V} {R : Unit → Store → Prop} (w : WS K ρ S H) (r : Rep K ρ H v d) (h : wp (isL d) R S) : tyV K "list" v H ∧ R () S := by
  unfold isL at h
  split at h
  · obtain ⟨a, rfl, h1⟩ := r.ref_
    simp only [wp_bind, wp_getO] at h
    obtain ⟨o1, e1, h⟩ := h
    split at h
    · obtain ⟨xs, g1, r1⟩ := w.lst h1 e1
      exact ⟨.inl ⟨rfl, xs, SqL.of g1⟩, h⟩
    · exact h.elim
  · exact h.elim
theorem me_core {o : IE} {m : Me} {σ : L2.St} {H : Hp} {Q : VK} (h : TD X.K (ev gl cf (.me m o es)) σ H Q) : tBM X.K "list" (rDm X.K (meRun m)) (TD X.K (ev gl cf o)) (TDs X.K (evs gl cf es)) σ H Q := by
  have h : TD X.K (fun env => do let x ← ev gl cf o env; (do isL x; let ds ← evs gl cf es env; meRun m x ds)) σ H Q := h
  refine TD.then_ (m := ev gl cf o) (f := fun x env => do isL x; let ds ← evs gl cf es env; meRun m x ds) h fun ρ S env d v H' w en rd q => ?_
  rw [wp_bind] at q
  obtain ⟨ty, q⟩ := isL_wp w rd q
  rw [wp_bind] at q
  refine ⟨ty, ρ, S, env, w, en, wp_mono q fun ds S1 q ρ1 H1 vs st1 w1 rs => ?_⟩
  exact ⟨ρ1, S1, d, ds, w1, rd.step w st1, rs, wp_mono q fun d' S2 p => p.step st1⟩
theorem r_me0 (hu : X.A.units + 65 < cLine) {o : IE} {m : Me} {e : Expr} {apos : Pos} (hl : (apos.endLine == pos.line) = true) (hs : noSuper e = true) (h1 : PE X e (TD X.K (ev gl cf o))) (he : PA X [] (TDs X.K (evs gl cf es))) (hm : (m = .pop ∨ m = .reverse)) :
    PE X (.Call (.Attribute e m.name apos) [] [] pos) (TD X.K (ev gl cf (.me m o .nil))) := by
  have core : PE X (.Call (.Attribute e m.name apos) [] [] pos) (tBM0 X.K "list" (rDm X.K (meRun m)) (TD X.K (ev gl cf o))) := by
    rcases hm with rfl | rfl
    · exact pe_bm0 PySem.F.plainAttrs_list PySem.F.slot_list_pop PySem.F.type_list_pop (me_ok hu .pop) h1 (super_ok hs) hl
    · exact pe_bm0 PySem.F.plainAttrs_list PySem.F.slot_list_reverse PySem.F.type_list_reverse (me_ok hu .reverse) h1 (super_ok hs) hl
  refine PE.of core fun σ H Q h => ?_
  have h : TD X.K (fun env => do let x ← ev gl cf o env; (do isL x; let ds ← evs gl cf .nil env; meRun m x ds)) σ H Q := h
  refine TD.then_ (m := ev gl cf o) (f := fun x env => do isL x; let ds ← evs gl cf .nil env; meRun m x ds) h fun ρ S env d v H' w en rd q => ?_
  rw [wp_bind] at q
  obtain ⟨ty, q⟩ := isL_wp w rd q
  exact ⟨ty, ρ, S, d, [], w, rd, .nil, q⟩
theorem r_me (hu : X.A.units + 65 < cLine) {o : IE} {m : Me} {e : Expr} {apos : Pos} (hl : (apos.endLine == pos.line) = true) (hs : noSuper e = true) (hf : (e1 :: l).length < 29) (hp : (e1 :: l).all plain = true) (h1 : PE X e (TD X.K (ev gl cf o))) (ha : PA X (e1 :: l) (TDs X.K (evs gl cf es)))
    (hm : (m = .append ∨ m = .popAt ∨ m = .remove)) : PE X (.Call (.Attribute e m.name apos) (e1 :: l) [] pos) (TD X.K (ev gl cf (.me m o es))) := by
  rw [List.all_cons] at hp
  have hp' : (e1 :: l).all plain = true := by rw [List.all_cons]; exact hp
  obtain ⟨p1, p2⟩ := and2 hp
  have core : PE X (.Call (.Attribute e m.name apos) (e1 :: l) [] pos) (tBM X.K "list" (rDm X.K (meRun m)) (TD X.K (ev gl cf o)) (TDs X.K (evs gl cf es))) := by
    rcases hm with rfl | rfl | rfl
    · exact pe_bm PySem.F.plainAttrs_list PySem.F.slot_list_append PySem.F.type_list_append (me_ok hu .append) h1 ha (super_ok hs) (few_ok hp' hf) hl (star_plain p1) (back_any p2)
    · exact pe_bm PySem.F.plainAttrs_list PySem.F.slot_list_pop PySem.F.type_list_pop (me_ok hu .popAt) h1 ha (super_ok hs) (few_ok hp' hf) hl (star_plain p1) (back_any p2)
    · exact pe_bm PySem.F.plainAttrs_list PySem.F.slot_list_remove PySem.F.type_list_remove (me_ok hu .remove) h1 ha (super_ok hs) (few_ok hp' hf) hl (star_plain p1) (back_any p2)
  exact PE.of core fun σ H Q h => me_core h
/-! ### isinstance -/
theorem ty_boot (t : Ty) : bootBuiltins t.tx = some (.type t.name) ∧ t.tx ≠ "__name__" ∧ (t.tx == ("__debug__" : Str)) = false := by cases t <;> exact ⟨by decide +kernel, by decide +kernel, by decide +kernel⟩
theorem r_ty (ok : Ok gl cf c X) {t : Ty} (h : c.is t.tx .free = true) : PE X (.Name t.tx p) (tC (.ty t.name)) := by
  obtain ⟨hg, hm⟩ := ok.is_ h
  obtain ⟨b1, b2, b3⟩ := ty_boot t
  exact pe_bltn hg hm b1 rfl b2 b3
theorem r_isi (ok : Ok gl cf c X) {a : IE} {t : Ty} {p2 : Pos} (h : c.is "isinstance" .free = true) (ht : c.is t.tx .free = true) (hp : plain e1 = true) (h1 : PE X e1 (TD X.K (ev gl cf a))) :
    PE X (.Call (.Name "isinstance" p) [e1, .Name t.tx p2] [] pos) (TD X.K (ev gl cf (.isi a t))) := by
  obtain ⟨hg, hm⟩ := ok.is_ h
  refine PE.of (pe_callB (isi1_ok t) hg hm (by decide +kernel) (pa_cons h1 (pa_cons (r_ty ok ht) pa_nil rfl) (star_plain hp)) (by decide +kernel) (by decide +kernel) (star_plain hp) rfl) fun σ H Q h => ?_
  have h : TD X.K (fun env => do let x ← ev gl cf a env; isiRun x [t]) σ H Q := h
  exact TD.then_ (m := ev gl cf a) (f := fun x _ => isiRun x [t]) h fun ρ S env d v H' w en rd q => ⟨v, ρ, S, d, rfl, w, rd, q⟩
theorem r_tys (ok : Ok gl cf c X) : ∀ {ts : List Ty} {l : List Expr}, tysOk c ts l = true → l.all plain = true ∧ ∃ t, PA X l t ∧ ∀ σ H Q, Q (ts.map fun t => V.ty t.name) H → t σ H Q
  | [], [], _ => ⟨rfl, _, pa_nil, fun σ H Q q => q⟩
  | [], _ :: _, h => by cases h
  | _ :: _, [], h => by cases h
  | t :: ts, e :: es, h => by
    cases e with
    | Name y py =>
      simp only [tysOk] at h
      obtain ⟨h1, h2⟩ := and2 h
      obtain ⟨h2, h3⟩ := and2 h2
      obtain ⟨h3, h4⟩ := and2 h3
      have e1 := of_decide_eq_true h1
      subst e1
      obtain ⟨p1, t', a1, k⟩ := r_tys ok h4
      exact ⟨by rw [List.all_cons, p1]; rfl, _, pa_cons (r_ty ok h2) a1 rfl, fun σ H Q q => k σ H _ q⟩
    | _ => cases h
theorem r_isis (ok : Ok gl cf c X) {a : IE} {ts : List Ty} {p2 : Pos} {k : Nat} (h : c.is "isinstance" .free = true) (ht : tysOk c ts l = true) (hne : ts ≠ [] ∧ ts.length < 100) (hp : plain e1 = true) (h1 : PE X e1 (TD X.K (ev gl cf a))) :
    PE X (.Call (.Name "isinstance" p) [e1, .Tuple l k p2] [] pos) (TD X.K (ev gl cf (.isis a ts))) := by
  obtain ⟨hg, hm⟩ := ok.is_ h
  obtain ⟨p1, t', a1, kk⟩ := r_tys ok ht
  refine PE.of (pe_callB (isiN_ok ts hne.1) hg hm (by decide +kernel) (pa_cons h1 (pa_cons (pe_tup a1) pa_nil rfl) (star_plain hp)) (by decide +kernel) (by decide +kernel) (star_plain hp) rfl) fun σ H Q h => ?_
  have h : TD X.K (fun env => do let x ← ev gl cf a env; isiRun x ts) σ H Q := h
  refine TD.then_ (m := ev gl cf a) (f := fun x _ => isiRun x ts) h fun ρ S env d v H' w en rd q => ?_
  refine kk σ H' _ ⟨?_, fun tp htp => ?_⟩
  · rw [List.length_map, sizeLine_eq]
    have := hne.2
    omega
  · exact ⟨v, tp, ρ, S, d, rfl, upd_same, w.tup htp, by have := rd.step w (Step.tup (u := .tup (ts.map fun t => V.ty t.name)) htp); exact this, wp_mono q fun d' S' p => p.step (Step.tup htp)⟩
theorem rgR {K : PySem.W.Frag} {ρ : List Addr} {H : Hp} (b : Int) : Reps K ρ H (rgV 0 b) (rngItems 0 b) := by
  unfold rgV rngItems
  generalize (b - 0).toNat = n
  have : ∀ l : List Nat, Reps K ρ H (l.map fun i => V.int (0 + (i : Nat))) (l.map fun (k : Nat) => D.int (0 + k)) := fun l => by
    induction l with
    | nil => exact .nil
    | cons a l ih => exact .cons (.int _) ih
  exact this _
theorem rngOk_ {i : Int} (h : rngOk i = true) : RgOk 0 i := by
  obtain ⟨h1, h2⟩ := and2 h
  obtain ⟨a, b⟩ := and2 h1
  have a := dec a; have b := dec b; have h2 := dec h2
  exact ⟨by decide, by decide, a, b, by omega⟩
theorem r_tupr (ok : Ok gl cf c X) {a : IE} {p2 p3 : Pos} (h : c.is "tuple" .free = true) (h' : c.is "range" .free = true) (hp : plain e1 = true) (h1 : PE X e1 (TD X.K (ev gl cf a))) :
    PE X (.Call (.Name "tuple" p) [.Call (.Name "range" p2) [e1] [] p3] [] pos) (TD X.K (ev gl cf (.tupr a))) := by
  obtain ⟨hg, hm⟩ := ok.is_ h
  obtain ⟨hg2, hm2⟩ := ok.is_ h'
  refine PE.of (pe_tupRg ok.calm hg hm (prg_1 hg2 hm2 h1 (star_plain hp)) rfl) fun σ H Q h => ?_
  have h : TD X.K (fun env => do let x ← ev gl cf a env; (match x with | .int i => (do need (rngOk i); pure (.tup (rngItems 0 i))) | _ => fail)) σ H Q := h
  refine TD.then_ (m := ev gl cf a) (f := fun x _ => (match x with | .int i => (do need (rngOk i); pure (.tup (rngItems 0 i))) | _ => fail)) h fun ρ S env d v H' w en rd q => ?_
  split at q
  · cases rd.int_
    simp only [wp_bind, wp_need, wp_pure] at q
    exact ⟨_, rfl, rngOk_ q.1, fun p hp => Post.tup w (rgR _) q.2 hp⟩
  · exact q.elim
theorem r_lstr (ok : Ok gl cf c X) {a : IE} {p2 p3 : Pos} (h : c.is "list" .free = true) (h' : c.is "range" .free = true) (hp : plain e1 = true) (h1 : PE X e1 (TD X.K (ev gl cf a))) :
    PE X (.Call (.Name "list" p) [.Call (.Name "range" p2) [e1] [] p3] [] pos) (TD X.K (ev gl cf (.lstr a))) := by
  obtain ⟨hg, hm⟩ := ok.is_ h
  obtain ⟨hg2, hm2⟩ := ok.is_ h'
  refine PE.of (pe_listRg ok.calm hg hm (prg_1 hg2 hm2 h1 (star_plain hp)) rfl) fun σ H Q h => ?_
  have h : TD X.K (fun env => do let x ← ev gl cf a env; (match x with | .int i => (do need (rngOk i); newO (.lst (rngItems 0 i))) | _ => fail)) σ H Q := h
  refine TD.then_ (m := ev gl cf a) (f := fun x _ => (match x with | .int i => (do need (rngOk i); newO (.lst (rngItems 0 i))) | _ => fail)) h fun ρ S env d v H' w en rd q => ?_
  split at q
  · cases rd.int_
    simp only [wp_bind, wp_need, wp_newO] at q
    exact ⟨_, rfl, rngOk_ q.1, fun p hp => Post.lst w (rgR _) q.2 hp⟩
  · exact q.elim
end
end
end Dl
end

section
set_option Elab.async false
set_option linter.all false
set_option maxRecDepth 100000
set_option maxHeartbeats 1000000
/-! Dl: targets and sources -/
namespace Dl
open PySem PySem.Spec PyProof.Rows L2
section
variable {gl : Nat → D} {cf : Nat → List D → M D} {c : Cst} {X : Cx}
/-! ### targets -/
theorem wipe_set_out {σ : L2.St} {i : Nat} {x : Option V} : ∀ {vs : List Nat}, i ∉ vs → wipe (σ.set i x) vs = (wipe σ vs).set i x
  | [], _ => rfl
  | v :: vs, h => by
    simp only [List.mem_cons, not_or] at h
    unfold L2.wipe
    rw [wipe_set_out h.2, List.set_comm _ _ h.1]
theorem wipe_set {σ : L2.St} {i : Nat} {x : Option V} : ∀ {vs : List Nat}, i ∈ vs → wipe (σ.set i x) vs = wipe σ vs
  | v :: vs, h => by
    unfold L2.wipe
    by_cases hm : i ∈ vs
    · rw [wipe_set hm]
    · have e : i = v := by
        rcases List.mem_cons.mp h with e | h
        · exact e
        · exact absurd h hm
      subst e
      rw [wipe_set_out hm, List.set_set]
theorem wipe_wipe_mem {σ : L2.St} : ∀ (us vs : List Nat), (∀ i ∈ us, i ∈ vs) → wipe (wipe σ us) vs = wipe σ vs
  | [], _, _ => rfl
  | u :: us, vs, h => by
    show wipe ((wipe σ us).set u none) vs = wipe σ vs
    rw [wipe_set (h u List.mem_cons_self), wipe_wipe_mem us vs fun i hi => h i (List.mem_cons_of_mem _ hi)]
theorem wipe_wipe {σ : L2.St} (vs : List Nat) : wipe (wipe σ vs) vs = wipe σ vs := wipe_wipe_mem vs vs fun _ h => h
theorem g_nm (ok : Ok gl cf c X) {i : Nat} {x : Str} {pos : Pos} (h : (c.slot i x && (c.sto x && nmOk x)) = true) : PG X (.Name x pos) (TGd X.K [i] (asg gl cf (.nm i))) := by
  obtain ⟨h1, h2⟩ := and2 h
  obtain ⟨h2, h3⟩ := and2 h2
  obtain ⟨l1, l2⟩ := ok.loc h2
  have g := pg_name (pos := pos) ok.nd (ok.slot h1) l1 l2
  refine ⟨fun pins s σ H v u Q I r hw => g.run pins s σ H v u Q I r ?_⟩
  obtain ⟨ρ, S, env, d, w, en, rd, q⟩ := hw
  simp only [asg, wp_bind, wp_need, wp_pure] at q
  exact q.2 ρ H _ .refl w (en.set rd) fun own ho => wipe_set (ho i (by simp))
theorem g_nil : PGs X [] (TGds X.K [] (asgs gl cf .nil)) := by
  refine ⟨fun pins s σ H vs us Q I r hw => pgs_nil.run pins s σ H vs us Q I r ?_⟩
  obtain ⟨ρ, S, env, ds, w, en, rd, q⟩ := hw
  cases rd with
  | nil =>
    simp only [asgs, wp_pure] at q
    exact ⟨rfl, q ρ H σ .refl w en fun _ _ => rfl⟩
  | cons _ _ => simp only [asgs, wp_fail] at q
theorem g_cons {t : TG} {ts : TGs} {s1 s2 : List Nat} {e : Expr} {es : List Expr} (hp : plain e = true) (h1 : PG X e (TGd X.K s1 (asg gl cf t))) (h2 : PGs X es (TGds X.K s2 (asgs gl cf ts))) : PGs X (e :: es) (TGds X.K (s1 ++ s2) (asgs gl cf (.cons t ts))) := by
  have g := pgs_cons h1 h2 (by rw [asg_each hp]; rfl)
  refine ⟨fun pins s σ H vs us Q I r hw => g.run pins s σ H vs us Q I r ?_⟩
  obtain ⟨ρ, S, env, ds, w, en, rd, q⟩ := hw
  cases rd with
  | nil => simp only [asgs, wp_fail] at q
  | cons r1 r2 =>
    simp only [asgs, wp_bind] at q
    refine ⟨_, _, rfl, ρ, S, env, _, w, en, r1, wp_mono q fun env1 S1 q ρ1 H1 σ1 st1 w1 en1 k1 => ?_⟩
    refine ⟨ρ1, S1, env1, _, w1, en1, r2.step w st1, wp_mono q fun env2 S2 q ρ2 H2 σ2 st2 w2 en2 k2 => ?_⟩
    exact q ρ2 H2 σ2 (st1.trans st2) w2 en2 fun own ho => (k2 own fun i hi => ho i (List.mem_append_right _ hi)).trans (k1 own fun i hi => ho i (List.mem_append_left _ hi))
theorem g_tp (ok : Ok gl cf c X) {ts : TGs} {sl : List Nat} {l : List Expr} {k : Nat} {pos : Pos} (hp : l.all plain = true) (hl : l.length = ts.len) (h : PGs X l (TGds X.K sl (asgs gl cf ts))) : PG X (.Tuple l k pos) (TGd X.K sl (asg gl cf (.tp ts))) := by
  refine ⟨fun pins s σ H v u Q I r hw => ?_⟩
  obtain ⟨ρ, S, env, d, w, en, rd, q⟩ := hw
  simp only [asg, wp_bind, unpk] at q
  obtain ⟨a, xs, ds, rfl, hq, rs, q⟩ := getS_wp w rd q
  simp only [wp_bind, wp_need, wp_pure] at q
  obtain ⟨hn, q⟩ := q
  have hn := dec hn
  have hlen : xs.length = l.length := by rw [rs.length, hn, hl]
  rcases hq with hq | hq
  · exact (pg_lst (pos := pos) ok.calm h (asg_len hp) (asg_find hp)).run pins s σ H _ u Q I r ⟨a, xs, rfl, hq, hlen, ρ, S, env, ds, w, en, rs, q⟩
  · exact (pg_tup (pos := pos) ok.calm h (asg_len hp) (asg_find hp)).run pins s σ H _ u Q I r ⟨a, xs, rfl, hq, hlen, ρ, S, env, ds, w, en, rs, q⟩
theorem sub_assign {e1 e2 : Expr} {pos : Pos} {env : Env} (hs : noSlice e2 = true) : ∀ v, assign (.Subscript e1 e2 pos) env v = (do
      let ov ← holding [v] (eval e1 env)
      let iv ← holding [v, ov] (eval e2 env)
      standAt pos
      holding [v, ov, iv] (setItem ov iv v)
      release [v, ov, iv] []) := by
  intro v
  cases e2 <;> first | rfl | cases hs
theorem g_ixs {o i : IE} {e1 e2 : Expr} {pos : Pos} (hs : noSlice e2 = true) (h1 : PE X e1 (TD X.K (ev gl cf o))) (h2 : PE X e2 (TD X.K (ev gl cf i))) : PG X (.Subscript e1 e2 pos) (TGd X.K [] (asg gl cf (.ixs o i))) := by
  have g := pg_sub (pos := pos) h1 h2 set_ok (sub_assign hs)
  refine ⟨fun pins s σ H v u Q I r hw => g.run pins s σ H v u Q I r ?_⟩
  obtain ⟨ρ, S, env, d, w, en, rd, q⟩ := hw
  simp only [asg, wp_bind, wp_pure] at q
  refine ⟨ρ, S, env, w, en, wp_mono q fun x S1 q ρ1 H1 v1 st1 w1 r1 => ⟨ρ1, S1, env, w1, en.step w st1, wp_mono q fun y S2 q ρ2 H2 v2 st2 w2 r2 => ?_⟩⟩
  refine ⟨ρ2, S2, x, y, d, w2, r1.step w1 st2, r2, (rd.step w st1).step w1 st2, wp_mono q fun _ S3 q ρ3 H3 st3 w3 => ?_⟩
  exact q ρ3 H3 σ ((st1.trans st2).trans st3) w3 (((en.step w st1).step w1 st2).step w2 st3) fun _ _ => rfl
/-! ### sources -/
theorem Step.slot {ρ ρ' : List Addr} {H H' : Hp} (st : Step ρ H ρ' H') {l : Nat} {a : Addr} (h : ρ[l]? = some a) : ρ'[l]? = some a := by
  obtain ⟨τ, rfl⟩ := st.pre
  rw [List.getElem?_append_left (List.getElem?_eq_some_iff.mp h).1]
  exact h
section
variable {K : PySem.W.Frag} {ρ0 : List Addr} {S0 : Store} {H0 : Hp}
theorem src_tup (w0 : WS K ρ0 S0 H0) {a : Addr} {xs : List V} {ds : List D} (h : SqT K H0 a xs) (r : Reps K ρ0 H0 xs ds) : SrcOk K ρ0 H0 (Itt K a) ⟨ds, none, none⟩ := by
  intro i ρ S H st w _
  have sq := (st.kp w0).sqt h
  have rs := r.step w0 st
  refine ⟨fun d hd => ?_, fun hi => ⟨xs, sq, by rw [rs.length]; exact hi⟩⟩
  obtain ⟨v, e1, r1⟩ := rs.get hd
  refine ⟨⟨xs, v, sq, e1⟩, fun x H' y => ?_⟩
  obtain ⟨rfl, y⟩ := y
  have := y xs sq
  rw [e1] at this; cases this
  exact ⟨.refl, w, r1⟩
theorem src_ro (w0 : WS K ρ0 S0 H0) {a : Addr} {xs : List V} {ds : List D} (h : SqF K H0 a xs) (r : Reps K ρ0 H0 xs ds) : SrcOk K ρ0 H0 (Itl K a) ⟨ds, none, none⟩ := by
  intro i ρ S H st w _
  have sq := ((st.kp w0).sqf h).sql
  have rs := r.step w0 st
  refine ⟨fun d hd => ?_, fun hi => ⟨xs, sq, by rw [rs.length]; exact hi⟩⟩
  obtain ⟨v, e1, r1⟩ := rs.get hd
  refine ⟨⟨xs, v, sq, e1⟩, fun x H' y => ?_⟩
  obtain ⟨rfl, y⟩ := y
  have := y xs sq
  rw [e1] at this; cases this
  exact ⟨.refl, w, r1⟩
theorem src_lst {l : Nat} {a : Addr} {ds : List D} (h : ρ0[l]? = some a) : SrcOk K ρ0 H0 (Itl K a) ⟨ds, some (l, ds), none⟩ := by
  intro i ρ S H st w g
  obtain ⟨xs, hx, rs⟩ := w.lst (st.slot h) g.1
  have sq : SqL K H a xs := SqL.of hx
  refine ⟨fun d hd => ?_, fun hi => ⟨xs, sq, by rw [rs.length]; exact hi⟩⟩
  obtain ⟨v, e1, r1⟩ := rs.get hd
  refine ⟨⟨xs, v, sq, e1⟩, fun x H' y => ?_⟩
  obtain ⟨rfl, y⟩ := y
  have := y xs sq
  rw [e1] at this; cases this
  exact ⟨.refl, w, r1⟩
theorem src_rng {lo hi : Int} : SrcOk K ρ0 H0 (Itr lo (hi - lo).toNat) ⟨rngItems lo hi, none, none⟩ := by
  intro i ρ S H st w g
  refine ⟨fun d hd => ?_, fun h => ?_⟩
  · unfold rngItems at hd
    rw [List.getElem?_map] at hd
    cases e : (List.range (hi - lo).toNat)[i]? with
    | none => rw [e] at hd; cases hd
    | some k =>
      rw [e] at hd
      cases hd
      obtain ⟨h1, h2⟩ := List.getElem?_eq_some_iff.mp e
      rw [List.length_range] at h1
      rw [List.getElem_range] at h2
      subst h2
      refine ⟨h1, fun x H' y => ?_⟩
      obtain ⟨rfl, rfl⟩ := y
      exact ⟨.refl, w, .int _⟩
  · unfold rngItems at h
    rw [List.length_map, List.length_range] at h
    exact h
/-- what one side of a zip is -/
inductive Side (K : PySem.W.Frag) (ρ0 : List Addr) (S0 : Store) (H0 : Hp) (v : V) (s : Src) : Prop where
  | t {a : Addr} {xs : List V} {ds : List D} (e : v = .ref a) (hs : s = ⟨ds, none, none⟩) (h : SqT K H0 a xs) (r : Reps K ρ0 H0 xs ds)
  | f {a : Addr} {xs : List V} {ds : List D} (e : v = .ref a) (hs : s = ⟨ds, none, none⟩) (h : SqF K H0 a xs) (r : Reps K ρ0 H0 xs ds)
  | l {a : Addr} {l : Nat} {ds : List D} (e : v = .ref a) (hs : s = ⟨ds, some (l, ds), none⟩) (h : ρ0[l]? = some a) (h2 : S0[l]? = some (.lst ds))
theorem seqSrc_wp (w : WS K ρ0 S0 H0) {d : D} {v : V} (r : Rep K ρ0 H0 v d) {R : Src → Store → Prop} (h : wp (seqSrc d) R S0) : ∃ s, Side K ρ0 S0 H0 v s ∧ R s S0 := by
  unfold seqSrc at h
  split at h
  · obtain ⟨a, xs, rfl, hx, r1⟩ := r.tup_
    exact ⟨_, .t rfl rfl hx r1, h⟩
  · obtain ⟨a, xs, rfl, hx, r1⟩ := r.ro_
    exact ⟨_, .f rfl rfl hx r1, h⟩
  · obtain ⟨a, rfl, h1⟩ := r.ref_
    simp only [wp_bind, wp_getO] at h
    obtain ⟨o, e, h⟩ := h
    split at h
    · exact ⟨_, .l rfl rfl h1 e, h⟩
    · exact h.elim
  · exact h.elim
end
theorem i_seq {a : IE} {tg e : Expr} (h1 : PE X e (TD X.K (ev gl cf a))) : PI X tg e (TIs X.K (evi gl cf (.seq a))) := by
  refine ⟨fun pins s σ H R I h => ?_⟩
  obtain ⟨ρ, S, env, w, en, h⟩ := h
  simp only [evi, wp_bind] at h
  have hd : TD X.K (ev gl cf a) σ H (fun v H' => ∃ ρ' S' J, WS X.K ρ' S' H' ∧ R J H' ∧ ∃ a, v = .ref a ∧ ((J = Itt X.K a ∧ ∃ xs, SqT X.K H' a xs) ∨ (J = Itl X.K a ∧ ∃ xs, SqL X.K H' a xs))) := by
    refine ⟨ρ, S, env, w, en, wp_mono h fun d S1 h ρ1 H1 v st1 w1 rv => ?_⟩
    obtain ⟨sr, sd, q⟩ := seqSrc_wp w1 rv h
    cases sd with
    | t e hs hx r =>
      subst e hs
      exact ⟨ρ1, S1, _, w1, q ρ1 H1 _ st1 w1 (src_tup w1 hx r), _, rfl, .inl ⟨rfl, _, hx⟩⟩
    | f e hs hx r =>
      subst e hs
      exact ⟨ρ1, S1, _, w1, q ρ1 H1 _ st1 w1 (src_ro w1 hx r), _, rfl, .inr ⟨rfl, _, hx.sql⟩⟩
    | l e hs hx h2 =>
      subst e hs
      obtain ⟨xs, hx2, _⟩ := w1.lst hx h2
      exact ⟨ρ1, S1, _, w1, q ρ1 H1 _ st1 w1 (src_lst hx), _, rfl, .inr ⟨rfl, xs, SqL.of hx2⟩⟩
  refine thn (h1.run pins s σ H _ I hd) fun v s1 ⟨x, H1, I1, r1, q1⟩ => ?_
  obtain ⟨ρ1, S1, J, w1, q, a, rfl, hJ⟩ := q1
  cases r1
  have fp : ∀ b ∈ [s1.heap.objs.size], FpOk X pins H1 b := fun b hb => by
    have e : b = s1.heap.objs.size := by simpa using hb
    subst e
    exact I1.fpOk (Nat.le_refl _) (I1.hok.fresh (Nat.le_refl _))
  rcases hJ with ⟨rfl, xs, hq⟩ | ⟨rfl, xs, hq⟩
  · obtain ⟨its, rv, p, hz⟩ := I1.tuple hq
    refine wpAny_pyIter_tuple (show s1.heap.IsTuple a its.toArray from p) ?_
    exact ⟨s1.heap.objs.size, [s1.heap.objs.size], _, _, H1, rfl, I1.kept (t' := s1.toks) fun b o e => Heap.get?_push_of_some _ e, turn_tuple a _, ⟨_, Heap.get?_push_size _ rfl, rfl, rfl⟩, fp, q⟩
  · obtain ⟨its, rv, p, hz⟩ := I1.list hq
    refine wpAny_pyIter_list p.isList ?_
    exact ⟨s1.heap.objs.size, [s1.heap.objs.size], _, _, H1, rfl, I1.kept (t' := s1.toks) fun b o e => Heap.get?_push_of_some _ e, turn_list a _, ⟨_, Heap.get?_push_size _ rfl, rfl, rfl⟩, fp, q⟩
theorem small62_ {i : Int} (h : small62 i = true) : -(2 ^ 62) ≤ i ∧ i < 2 ^ 62 := by
  obtain ⟨a, b⟩ := and2 h
  exact ⟨dec a, dec b⟩
theorem i_rng1 (ok : Ok gl cf c X) {a : IE} {tg e1 : Expr} {p pos : Pos} (h : c.is "range" .free = true) (hp : plain e1 = true) (h1 : PE X e1 (TD X.K (ev gl cf a))) : PI X tg (.Call (.Name "range" p) [e1] [] pos) (TIs X.K (evi gl cf (.rng1 a))) := by
  obtain ⟨hg, hm⟩ := ok.is_ h
  have g := pi_range1 (tg := tg) (p := p) (pos := pos) hg hm (pa_cons h1 pa_nil (star_plain hp)) (by rw [star_plain hp]; rfl)
  refine ⟨fun pins s σ H R I h => g.run pins s σ H R I ?_⟩
  obtain ⟨ρ, S, env, w, en, h⟩ := h
  simp only [evi, wp_bind] at h
  refine ⟨ρ, S, env, w, en, wp_mono h fun d S1 h ρ1 H1 v st1 w1 rv => ?_⟩
  cases d with
  | int j =>
    cases rv.int_
    simp only [rngSrc, wp_bind, wp_need, wp_pure] at h
    obtain ⟨hb, h⟩ := h
    obtain ⟨b1, b2⟩ := and2 hb
    obtain ⟨c1, c2⟩ := small62_ b2
    refine ⟨j, rfl, c1, c2, ?_⟩
    have := h ρ1 H1 _ st1 w1 src_rng
    rw [Int.sub_zero] at this
    exact this
  | _ => exact h.elim
theorem i_rng2 (ok : Ok gl cf c X) {a b : IE} {tg e1 e2 : Expr} {p pos : Pos} (h : c.is "range" .free = true) (hp : plain e1 = true) (hp2 : plain e2 = true) (h1 : PE X e1 (TD X.K (ev gl cf a))) (h2 : PE X e2 (TD X.K (ev gl cf b))) :
    PI X tg (.Call (.Name "range" p) [e1, e2] [] pos) (TIs X.K (evi gl cf (.rng2 a b))) := by
  obtain ⟨hg, hm⟩ := ok.is_ h
  have s2 : starEach [e2] X.env = [(false, eval e2 X.env)] := by rw [star_plain hp2]; rfl
  have g := pi_range2 (tg := tg) (p := p) (pos := pos) hg hm (pa_cons h1 (pa_cons h2 pa_nil (star_plain hp2)) (star_plain hp)) (by rw [star_plain hp, s2]) s2
  refine ⟨fun pins s σ H R I h => g.run pins s σ H R I ?_⟩
  obtain ⟨ρ, S, env, w, en, h⟩ := h
  simp only [evi, wp_bind] at h
  refine ⟨ρ, S, env, w, en, wp_mono h fun d S1 h ρ1 H1 v st1 w1 rv => ⟨ρ1, S1, env, w1, en.step w st1, wp_mono h fun d2 S2 h ρ2 H2 v2 st2 w2 rv2 => ?_⟩⟩
  unfold rngSrc at h
  split at h
  · cases rv.int_
    cases rv2.int_
    simp only [wp_bind, wp_need, wp_pure] at h
    obtain ⟨hb, h⟩ := h
    obtain ⟨b1, b2⟩ := and2 hb
    obtain ⟨c1, c2⟩ := small62_ b1
    obtain ⟨c3, c4⟩ := small62_ b2
    exact ⟨_, _, rfl, ⟨c1, c2, c3, c4⟩, h ρ2 H2 _ (st1.trans st2) w2 src_rng⟩
  · exact h.elim

/-! ### zip -/
section
variable {K : PySem.W.Frag} {ρ0 : List Addr} {S0 : Store} {H0 : Hp}
theorem seqSrc_wp2 (w : WS K ρ0 S0 H0) {d : D} {v : V} (r : Rep K ρ0 H0 v d) {R : Src → Store → Prop} (h : wp (seqSrc d) R S0) :
    ∃ a s, v = .ref a ∧ s.guard2 = none ∧ R s S0 ∧ ((isTup d = true ∧ s.guard = none ∧ ∃ xs, SqT K H0 a xs ∧ Reps K ρ0 H0 xs s.items) ∨
      (isTup d = false ∧ (∃ xs, SqL K H0 a xs) ∧ ∀ ρ S H, Step ρ0 H0 ρ H → WS K ρ S H → GH S s.guard → ∃ xs, SqL K H a xs ∧ Reps K ρ H xs s.items)) := by
  unfold seqSrc at h
  split at h
  · obtain ⟨a, xs, rfl, hx, r1⟩ := r.tup_
    exact ⟨a, _, rfl, rfl, h, .inl ⟨rfl, rfl, xs, hx, r1⟩⟩
  · obtain ⟨a, xs, rfl, hx, r1⟩ := r.ro_
    exact ⟨a, _, rfl, rfl, h, .inr ⟨rfl, ⟨xs, hx.sql⟩, fun ρ S H st w' _ => ⟨xs, ((st.kp w).sqf hx).sql, r1.step w st⟩⟩⟩
  · obtain ⟨a, rfl, h1⟩ := r.ref_
    simp only [wp_bind, wp_getO] at h
    obtain ⟨o, e, h⟩ := h
    split at h
    · obtain ⟨xs, hx, _⟩ := w.lst h1 e
      refine ⟨a, _, rfl, rfl, h, .inr ⟨rfl, ⟨xs, SqL.of hx⟩, fun ρ S H st w' g => ?_⟩⟩
      obtain ⟨ys, hy, ry⟩ := w'.lst (st.slot h1) g
      exact ⟨ys, SqL.of hy, ry⟩
    · exact h.elim
  · exact h.elim
theorem zip_get {α β γ : Type} {xs : List α} {ys : List β} {f : α × β → γ} {i : Nat} {z : γ} (h : ((xs.zip ys).map f)[i]? = some z) : ∃ x y, xs[i]? = some x ∧ ys[i]? = some y ∧ z = f (x, y) := by
  rw [List.getElem?_map] at h
  cases e : (xs.zip ys)[i]? with
  | none => rw [e] at h; cases h
  | some p =>
    rw [e] at h
    cases h
    obtain ⟨x, y⟩ := p
    obtain ⟨h1, h2⟩ := List.getElem?_zip_eq_some.mp e
    exact ⟨x, y, h1, h2, rfl⟩
end
theorem i_zip (ok : Ok gl cf c X) {a b : IE} {elts : List Expr} {kk : Nat} {tpos : Pos} {e1 e2 : Expr} {p pos : Pos} (h : c.is "zip" .free = true) (hp : plain e1 = true) (hp2 : plain e2 = true) (h1 : PE X e1 (TD X.K (ev gl cf a))) (h2 : PE X e2 (TD X.K (ev gl cf b))) :
    PI X (.Tuple elts kk tpos) (.Call (.Name "zip" p) [e1, e2] [] pos) (TIs X.K (evi gl cf (.zip a b))) := by
  obtain ⟨hg, hm⟩ := ok.is_ h
  have g := RZ.pi_zipA (p := p) (pos := pos) (tpos := tpos) (elts := elts) (kk := kk) hg hm (pa_cons h1 (pa_cons h2 pa_nil (star_plain hp2)) (star_plain hp)) (star_plain hp) (back_any (by simp [hp2]))
  refine ⟨fun pins s σ H R I h => g.run pins s σ H R I ?_⟩
  obtain ⟨ρ, S, env, w, en, h⟩ := h
  simp only [evi, wp_bind] at h
  refine ⟨ρ, S, env, w, en, wp_mono h fun d S1 h ρ1 H1 v st1 w1 rv => ⟨ρ1, S1, env, w1, en.step w st1, wp_mono h fun d2 S2 h ρ2 H2 v2 st2 w2 rv2 => ?_⟩⟩
  unfold zipSrc at h
  simp only [wp_bind, wp_need] at h
  obtain ⟨ht, h⟩ := h
  have ht : isTup d = isTup d2 := by simpa using ht
  obtain ⟨a1, s1, rfl, g1, h, k1⟩ := seqSrc_wp2 w2 (rv.step w1 st2) h
  obtain ⟨a2, s2, rfl, g2, h, k2⟩ := seqSrc_wp2 w2 rv2 h
  simp only [wp_pure] at h
  have st := st1.trans st2
  rcases k1 with ⟨t1, q1, xs, hx, rx⟩ | ⟨t1, ⟨xs, hx⟩, k1⟩
  · rcases k2 with ⟨t2, q2, ys, hy, ry⟩ | ⟨t2, k2⟩
    · refine ⟨a1, a2, xs, ys, rfl, .inr ⟨hx, hy, h ρ2 H2 _ st w2 ?_⟩⟩
      intro i ρ3 S3 H3 st3 w3 _
      have sx := (st3.kp w2).sqt hx
      have sy := (st3.kp w2).sqt hy
      have rx3 := rx.step w2 st3
      have ry3 := ry.step w2 st3
      refine ⟨fun z hz => ?_, fun hi => ⟨xs, ys, sx, sy, ?_⟩⟩
      · obtain ⟨x, y, ex, ey, rfl⟩ := zip_get hz
        obtain ⟨vx, fx, qx⟩ := rx3.get ex
        obtain ⟨vy, fy, qy⟩ := ry3.get ey
        refine ⟨⟨xs, ys, vx, vy, sx, sy, fx, fy⟩, fun u H' yl => ?_⟩
        obtain ⟨T, x', y', rfl, nT, rfl, fx', fy'⟩ := yl
        have ex' := fx' xs sx
        have ey' := fy' ys sy
        rw [fx] at ex'; cases ex'
        rw [fy] at ey'; cases ey'
        have stT : Step ρ3 H3 ρ3 (upd H3 T (.tup [vx, vy])) := .tup nT
        exact ⟨stT, w3.tup nT, .tup (SqT.of upd_same) (fun _ => upd_same) (.cons (qx.step w3 stT) (.cons (qy.step w3 stT) .nil))⟩
      · rw [List.length_map, List.length_zip] at hi
        rw [rx3.length, ry3.length]
        omega
    · rw [t1, t2] at ht; cases ht
  · rcases k2 with ⟨t2, q2, ys, hy, ry⟩ | ⟨t2, ⟨ys, hy⟩, k2⟩
    · rw [t1, t2] at ht; cases ht
    · refine ⟨a1, a2, xs, ys, rfl, .inl ⟨hx, hy, h ρ2 H2 _ st w2 ?_⟩⟩
      intro i ρ3 S3 H3 st3 w3 gd
      obtain ⟨xs3, sx, rx3⟩ := k1 ρ3 S3 H3 st3 w3 gd.1
      obtain ⟨ys3, sy, ry3⟩ := k2 ρ3 S3 H3 st3 w3 gd.2
      refine ⟨fun z hz => ?_, fun hi => ⟨xs3, ys3, sx, sy, ?_⟩⟩
      · obtain ⟨x, y, ex, ey, rfl⟩ := zip_get hz
        obtain ⟨vx, fx, qx⟩ := rx3.get ex
        obtain ⟨vy, fy, qy⟩ := ry3.get ey
        refine ⟨⟨xs3, ys3, vx, vy, sx, sy, fx, fy⟩, fun u H' yl => ?_⟩
        obtain ⟨T, x', y', rfl, nT, rfl, fx', fy'⟩ := yl
        have ex' := fx' xs3 sx
        have ey' := fy' ys3 sy
        rw [fx] at ex'; cases ex'
        rw [fy] at ey'; cases ey'
        have stT : Step ρ3 H3 ρ3 (upd H3 T (.tup [vx, vy])) := .tup nT
        exact ⟨stT, w3.tup nT, .tup (SqT.of upd_same) (fun _ => upd_same) (.cons (qx.step w3 stT) (.cons (qy.step w3 stT) .nil))⟩
      · rw [List.length_map, List.length_zip] at hi
        rw [rx3.length, ry3.length]
        omega
/-! ### comprehensions -/
theorem WS.adopt {K : PySem.W.Frag} {ρ : List Addr} {S : Store} {H : Hp} (w : WS K ρ S H) {p : Addr} {xs : List V} {ds : List D} (hp : H p = some (.lst xs)) (hn : p ∉ ρ) (r : Reps K ρ H xs ds) : WS K (ρ ++ [p]) (S ++ [.lst ds]) H := by
  refine ⟨List.nodup_append.mpr ⟨w.nd, List.nodup_cons.mpr ⟨by simp, List.nodup_nil⟩, fun a ha b hb e => ?_⟩, by rw [List.length_append, List.length_append, w.len]; rfl, fun i a o' h1 h2 => ?_, w.tab⟩
  · rw [List.mem_singleton.mp hb] at e
    subst e
    exact hn ha
  · by_cases hi : i < ρ.length
    · rw [List.getElem?_append_left hi] at h1
      rw [List.getElem?_append_left (by rw [← w.len]; exact hi)] at h2
      exact (w.ob i a o' h1 h2).kp Kp.refl rfl
    · have e1 : i = ρ.length := by
        have := (List.getElem?_eq_some_iff.mp h1).1
        rw [List.length_append, List.length_singleton] at this
        omega
      subst e1
      rw [List.getElem?_append_right (Nat.le_refl _), Nat.sub_self] at h1
      rw [w.len, List.getElem?_append_right (Nat.le_refl _), Nat.sub_self] at h2
      simp at h1 h2
      subst h1 h2
      exact ⟨xs, hp, r.kp Kp.refl⟩
def TCs (K : PySem.W.Frag) (m : Sl → M Bool) : TT := TB K m
theorem c_no : PTs X [] (TB X.K (evc gl cf .no)) := ⟨fun pins s σ H Q I hw => by
  obtain ⟨ρ, S, env, w, en, q⟩ := hw
  exact pts_nil.run pins s σ H Q I (q ρ H .refl w)⟩
theorem c_so {a : IE} {e1 : Expr} (h1 : PT X e1 (TB X.K (tst gl cf a))) : PTs X [e1] (TB X.K (evc gl cf (.so a))) := pts_one h1
theorem drop_cons {α : Type} {l : List α} {i : Nat} {d : α} {r : List α} (h : l.drop i = d :: r) : l[i]? = some d ∧ l.drop (i + 1) = r := by
  have e : l[i]? = some d := by rw [← List.head?_drop, h]; rfl
  refine ⟨e, ?_⟩
  rw [← List.tail_drop, h]
  rfl
theorem comp_core {t : TG} {own : List Nat} {cond : IC} {elt : IE} {sl : List Nat} (hsl : ∀ i ∈ sl, i ∈ own) {σ : L2.St} {env : Sl} {s : Src} {ρ1 : List Addr} {S1 : Store} {H1 : Hp} {J : It} {R : List Dl.D → Store → Prop} {D : Addr} {Qd : Hp → Prop}
    (w1 : WS X.K ρ1 S1 H1) (en1 : EnvR X.K ρ1 H1 σ env) (src : SrcOk X.K ρ1 H1 J s) (hD : H1 D = none)
    (h : wp (compL s (fun d => do
      let env1 ← asg gl cf t d (wipeE env own)
      if ← evc gl cf cond env1 then
        let y ← ev gl cf elt env1
        pure (some y)
      else pure none) s.items []) R S1)
    (fin : ∀ ρ2 S2 H2 xs acc, WS X.K ρ2 S2 H2 → Step ρ1 H1 ρ2 H2 → D ∉ ρ2 → H2 D = some (.lst xs) → Reps X.K ρ2 H2 xs acc → R acc S2 → Qd H2) :
    ∃ W : Nat → Nat → Hp → Prop, (∃ m, W 0 m (upd H1 D (.lst []))) ∧ ∀ i m H, W i m H →
      (J.stop i H ∧ Qd H) ∨ (J.go i H ∧ ∃ Nx : Hp → Prop, (∀ H', Nx H' → ∃ m', m' < m ∧ W (i + 1) m' H') ∧ ∀ x H', J.yld i H x H' → TGd X.K sl (asg gl cf t) x (wipe σ own) H' fun σ2 H2 => wipe σ2 own = wipe σ own ∧ TB X.K (evc gl cf cond) σ2 H2 fun b H3 =>
        if b = true then TD X.K (ev gl cf elt) σ2 H3 fun y H4 => ∃ acc, H4 D = some (.lst acc) ∧ acc.length < sizeLine ∧ Nx (upd H4 D (.lst (acc ++ [y]))) else Nx H3) := by
  have hDρ : D ∉ ρ1 := w1.fresh hD
  have stD : Step ρ1 H1 ρ1 (upd H1 D (.lst [])) := .tup hD
  refine ⟨fun i m H' => ∃ ρ' S' xs acc, WS X.K ρ' S' H' ∧ Step ρ1 H1 ρ' H' ∧ D ∉ ρ' ∧ H' D = some (.lst xs) ∧ Reps X.K ρ' H' xs acc ∧ m = s.items.length - i ∧
    wp (compL s (fun d => do
      let env1 ← asg gl cf t d (wipeE env own)
      if ← evc gl cf cond env1 then
        let y ← ev gl cf elt env1
        pure (some y)
      else pure none) (s.items.drop i) acc) R S', ⟨_, ρ1, S1, [], [], w1.tup hD, stD, hDρ, upd_same, .nil, rfl, ?_⟩, ?_⟩
  · rw [List.drop_zero]
    exact h
  rintro i m H2 ⟨ρ2, S2, xs, acc, w2, st2, hn2, hx2, r2, rfl, h⟩
  cases hd : s.items.drop i with
  | nil =>
    rw [hd] at h
    simp only [compL, wp_bind, wp_pure] at h
    obtain ⟨gd, h⟩ := grd_wp h
    exact .inl ⟨(src i ρ2 S2 H2 st2 w2 gd).2 (List.drop_eq_nil_iff.mp hd), fin ρ2 S2 H2 xs acc w2 st2 hn2 hx2 r2 h⟩
  | cons d ds =>
    rw [hd] at h
    obtain ⟨hid, hdr⟩ := drop_cons hd
    have hil : i < s.items.length := (List.getElem?_eq_some_iff.mp hid).1
    simp only [compL, wp_bind] at h
    obtain ⟨gd, h⟩ := grd_wp h
    obtain ⟨go, yl⟩ := (src i ρ2 S2 H2 st2 w2 gd).1 d hid
    refine .inr ⟨go, fun H' => ∃ ρ' S' xs acc, WS X.K ρ' S' H' ∧ Step ρ1 H1 ρ' H' ∧ D ∉ ρ' ∧ H' D = some (.lst xs) ∧ Reps X.K ρ' H' xs acc ∧
      wp (compL s (fun d => do
        let env1 ← asg gl cf t d (wipeE env own)
        if ← evc gl cf cond env1 then
          let y ← ev gl cf elt env1
          pure (some y)
        else pure none) (s.items.drop (i + 1)) acc) R S', fun H' hN => ?_, fun x H3 hy => ?_⟩
    · obtain ⟨ρ', S', xs', acc', a1, a2, a3, a4, a5, a6⟩ := hN
      exact ⟨s.items.length - (i + 1), by omega, ρ', S', xs', acc', a1, a2, a3, a4, a5, rfl, a6⟩
    · rw [hdr]
      obtain ⟨sty, wy, rx⟩ := yl x H3 hy
      have hD3 : H3 D = some (.lst xs) := sty.lst hn2 hx2
      refine ⟨ρ2, S2, wipeE env own, d, wy, ((en1.step w1 st2).step w2 sty).wipe own, rx, wp_mono h fun env1 S3 h ρ3 H4 σ3 st4 w4 en4 wp4 => ?_⟩
      have k4 : Step ρ1 H1 ρ3 H4 := (st2.trans sty).trans st4
      have hn4 : D ∉ ρ3 := fun hm => by
        rcases st4.new D hm with h' | h'
        · exact hn2 h'
        · rw [hD3] at h'; cases h'
      have hD4 : H4 D = some (.lst xs) := st4.lst hn2 hD3
      have wi : wipe σ3 own = wipe σ own := by
        rw [wp4 own hsl]
        exact wipe_wipe own
      refine ⟨wi, ρ3, S3, env1, w4, en4, wp_mono h fun b S4 h ρ4 H5 st5 w5 => ?_⟩
      have hD5 : H5 D = some (.lst xs) := st5.lst hn4 hD4
      have hn5 : D ∉ ρ4 := fun hm => by
        rcases st5.new D hm with h' | h'
        · exact hn4 h'
        · rw [hD4] at h'; cases h'
      have r5 : Reps X.K ρ4 H5 xs acc := ((r2.step w2 sty).step wy st4).step w4 st5
      cases b with
      | true =>
        simp only [if_true, wp_bind, wp_pure] at h ⊢
        refine ⟨ρ4, S4, env1, w5, en4.step w4 st5, wp_mono h fun y S5 h ρ5 H6 v st6 w6 ry => ?_⟩
        have hD6 : H6 D = some (.lst xs) := st6.lst hn5 hD5
        have hn6 : D ∉ ρ5 := fun hm => by
          rcases st6.new D hm with h' | h'
          · exact hn5 h'
          · rw [hD5] at h'; cases h'
        have r6 : Reps X.K ρ5 H6 xs acc := r5.step w5 st6
        simp only [wp_bind, wp_need] at h
        obtain ⟨hl, h⟩ := h
        have hl := dec hl
        rw [← r6.length] at hl
        refine ⟨xs, hD6, hl, ρ5, S5, xs ++ [v], acc ++ [y], ?_, ?_, hn6, upd_same, ?_, h⟩
        · refine ⟨w6.nd, w6.len, fun j a o h1 h2 => ?_, fun P hP => tabM (w6.tab P hP) hD6 trivial⟩
          have hne : a ≠ D := fun e => hn6 (by rw [← e]; exact List.mem_of_getElem? h1)
          have kp : Kp H6 (upd H6 D (.lst (xs ++ [v]))) := ⟨fun a' xs' e => by rw [upd_ne (fun z => by rw [z, hD6] at e; cases e)]; exact e, fun a' o' u' _ e => by rw [upd_ne (fun z => by rw [z, hD6] at e; cases e)]; exact e⟩
          have q := (w6.ob j a o h1 h2).kp (τ := []) kp (upd_ne hne)
          rw [List.append_nil] at q
          exact q
        · have k6 := (k4.trans st5).trans st6
          refine ⟨k6.pre, k6.new, fun a o ha e n => ?_, fun a o u e => ?_, fun a ps e => ?_⟩
          · rw [upd_ne (fun z => by rw [z, hD] at e; cases e)]
            exact k6.keep a o ha e n
          · rw [upd_ne (fun z => by rw [z, hD] at e; cases e)]
            exact k6.fz a o u e
          · rw [upd_ne (fun z => by rw [z, hD] at e; cases e)]
            exact k6.tb a ps e
        · have kp : Kp H6 (upd H6 D (.lst (xs ++ [v]))) := ⟨fun a' xs' e => by rw [upd_ne (fun z => by rw [z, hD6] at e; cases e)]; exact e, fun a' o' u' _ e => by rw [upd_ne (fun z => by rw [z, hD6] at e; cases e)]; exact e⟩
          have q := (r6.append (.cons ry .nil)).kp (τ := []) kp
          rw [List.append_nil] at q
          exact q
      | false =>
        simp only [Bool.false_eq_true, if_false, wp_pure] at h ⊢
        exact ⟨ρ4, S4, xs, acc, w5, k4.trans st5, hn5, hD5, r5, h⟩
/-- the list that stands there at the end is the store's newest -/
theorem Step.adopt {ρ ρ1 ρ2 : List Addr} {H H1 H2 : Hp} {D : Addr} (st1 : Step ρ H ρ1 H1) (st2 : Step ρ1 H1 ρ2 H2) (hD : H1 D = none) (hDρ : D ∉ ρ1) : Step ρ H (ρ2 ++ [D]) H2 := by
  have st := st1.trans st2
  obtain ⟨τ, e⟩ := st.pre
  refine ⟨⟨τ ++ [D], by rw [e, List.append_assoc]⟩, fun a ha => ?_, st.keep, st.fz, st.tb⟩
  rcases List.mem_append.mp ha with ha | ha
  · exact st.new a ha
  · rw [List.mem_singleton.mp ha]
    refine .inr ?_
    cases q : H D with
    | none => rfl
    | some u =>
      have hDr : D ∉ ρ := fun hm => hDρ (by obtain ⟨τ1, e1⟩ := st1.pre; rw [e1]; exact List.mem_append_left _ hm)
      obtain ⟨u', hu⟩ := st1.stays hDr q
      rw [hu] at hD
      cases hD
theorem r_comp (ok : Ok gl cf c X) {t : TG} {own : List Nat} {it : II} {cond : IC} {elt : IE} {tg iter : Expr} {ownp : List (Str × Nat)} {sl : List Nat} (ho : ownp.map (·.2) = own) (hsl : ∀ i ∈ sl, i ∈ own) (hi : PI X tg iter (TIs X.K (evi gl cf it)))
    {σ : L2.St} {H : Hp} {Q : VK} (h : TD X.K (ev gl cf (.comp t own it cond elt)) σ H Q) :
    tLc (TIs X.K (evi gl cf it)) (TGd X.K sl (asg gl cf t)) (TB X.K (evc gl cf cond)) (TD X.K (ev gl cf elt)) (ownp.map (·.2)) σ H Q := by
  rw [ho]
  obtain ⟨ρ, S, env, w, en, h⟩ := h
  simp only [ev, wp_bind, wp_newO] at h
  refine ⟨ρ, S, env, w, en, wp_mono h fun s S1 h ρ1 H1 J st1 w1 src => fun D hD => ?_⟩
  have hDρ : D ∉ ρ1 := w1.fresh hD
  exact comp_core hsl w1 (en.step w st1) src hD h fun ρ2 S2 H2 xs acc w2 st2 hn2 hx2 r2 q => q _ H2 _ (Step.adopt st1 st2 hD hDρ) (w2.adopt hx2 hn2 r2) (Rep.new w2)
end
end Dl
end

section
set_option Elab.async false
set_option linter.all false
set_option maxRecDepth 100000
set_option maxHeartbeats 1000000
/-! Dl: the meaning of the language is the machine's: rules for dicts and sorting -/
namespace Dl
open PySem PySem.Spec PyProof.Rows L2
section
variable {K : PySem.W.Frag} {σ : L2.St} {H : Hp}
theorem TD.two {ma mb : Sl → M D} {f : D → D → M D} {Q : VK} {R : V → V → Hp → Prop} (h : TD K (fun env => do let x ← ma env; let y ← mb env; f x y) σ H Q)
    (k : ∀ ρ S x y v u H', WS K ρ S H' → Rep K ρ H' v x → Rep K ρ H' u y → wp (f x y) (Post K ρ H' Q) S → R v u H') : TD K ma σ H fun v H1 => TD K mb σ H1 fun u H2 => R v u H2 := by
  refine TD.then_ (m := ma) (f := fun x env => do let y ← mb env; f x y) h fun ρ S env x v H' w e r h => ?_
  rw [wp_bind] at h
  refine ⟨ρ, S, env, w, e, wp_mono h fun y S' q ρ' H'' u st w' r' => ?_⟩
  exact k ρ' S' x y v u H'' w' (r.step w st) r' (wp_mono q fun d' S'' p => p.step st)
theorem TB.two {ma mb : Sl → M D} {f : D → D → M Bool} {Q : Bool → Hp → Prop} {R : V → V → Hp → Prop} (h : TB K (fun env => do let x ← ma env; let y ← mb env; f x y) σ H Q)
    (k : ∀ ρ S x y v u H', WS K ρ S H' → Rep K ρ H' v x → Rep K ρ H' u y → wp (f x y) (PostB K ρ H' Q) S → R v u H') : TD K ma σ H fun v H1 => TD K mb σ H1 fun u H2 => R v u H2 := by
  refine TD.thenB (m := ma) (f := fun x env => do let y ← mb env; f x y) h fun ρ S env x v H' w e r h => ?_
  rw [wp_bind] at h
  refine ⟨ρ, S, env, w, e, wp_mono h fun y S' q ρ' H'' u st w' r' => ?_⟩
  exact k ρ' S' x y v u H'' w' (r.step w st) r' (wp_mono q fun d' S'' p => p.step st)
end
section
variable {gl : Nat → D} {cf : Nat → List D → M D} {c : Cst} {X : Cx} {a b d : IE} {e1 e2 e3 : Expr} {pos apos cpos : Pos}
theorem r_dnew : PE X (.Dict [] [] pos) (TD X.K (ev gl cf .dnew)) := by
  refine PE.of pe_dnewT fun σ H Q ⟨ρ, S, env, w, en, q⟩ p hp => ?_
  simp only [ev, wp_newO] at q
  exact q _ _ _ (.alloc hp) (w.alloc hp ⟨[], (show upd H p (.dT []) p = some (.dT []) from upd_same), rfl, .nil⟩) (Rep.new w)
theorem r_dget (ok : Ok gl cf c X) (hs : noSlice e2 = true) (h1 : PE X e1 (TD X.K (ev gl cf a))) (h2 : PE X e2 (TD X.K (ev gl cf b))) : PE X (.Subscript e1 e2 pos) (TD X.K (ev gl cf (.dget a b))) := by
  refine PE.of (pe_dget (by have := ok.un; omega) h1 h2 (plainIx_ok hs)) fun σ H Q h => ?_
  exact TD.two (f := dgetD) h fun ρ S x y v u H' w rx ry q => dget_ok w rx ry q
theorem r_din (ok : Ok gl cf c X) (hb : (!behindInMarks .In e2) = true) (h1 : PE X e1 (TD X.K (ev gl cf a))) (h2 : PE X e2 (TD X.K (ev gl cf b))) : PE X (.Compare e1 [.In] [e2] pos) (TD X.K (ev gl cf (.din a b))) := by
  refine PE.of (pe_cmp (pc_din (by have := ok.un; omega) h1 h2) (by simpa using hb)) fun σ H Q h => ?_
  refine TD.two (f := fun y x => do let r ← dinD y x; pure (.bl r)) h fun ρ S y x u v H' w ry rx q => ?_
  rw [wp_bind] at q
  obtain ⟨a, o, e, g, q⟩ := din_ok w rx ry q
  exact ⟨a, o, e, g, Post.bl w q⟩
theorem t_din (ok : Ok gl cf c X) (hb : (!behindInMarks .In e2) = true) (h1 : PE X e1 (TD X.K (ev gl cf a))) (h2 : PE X e2 (TD X.K (ev gl cf b))) : PT X (.Compare e1 [.In] [e2] pos) (TB X.K (tst gl cf (.din a b))) := by
  refine PT.of (pt_cmp (pc_din (by have := ok.un; omega) h1 h2) (by simpa using hb)) fun σ H Q h => ?_
  have h : TB X.K (fun env => do let y ← ev gl cf a env; let x ← ev gl cf b env; dinD y x) σ H Q := by
    obtain ⟨ρ, S, env, w, en, q⟩ := h
    simp only [tst] at q
    exact ⟨ρ, S, env, w, en, q⟩
  refine TB.two (f := fun y x => dinD y x) h fun ρ S y x u v H' w ry rx q => ?_
  obtain ⟨a, o, e, g, q⟩ := din_ok w rx ry q
  exact ⟨a, o, e, g, _, rfl, q ρ H' .refl w⟩
theorem r_dget2 (ok : Ok gl cf c X) (hl : (apos.endLine == cpos.line) = true) (hs : noSuper e1 = true) (p2 : plain e2 = true) (p3 : plain e3 = true) (h1 : PE X e1 (TD X.K (ev gl cf a))) (h2 : PE X e2 (TD X.K (ev gl cf b))) (h3 : PE X e3 (TD X.K (ev gl cf d))) :
    PE X (.Call (.Attribute e1 "get" apos) [e2, e3] [] cpos) (TD X.K (ev gl cf (.dget2 a b d))) := by
  have hp : [e2, e3].all plain = true := by simp [p2, p3]
  have m : M2 X e1 "get" apos e2 e3 cpos := ⟨super_ok hs, few_ok hp (by simp), hl, by rw [star_plain p2, star_plain p3]; rfl⟩
  refine PE.of (pe_dget2 (by have := ok.un; omega) h1 h2 h3 m) fun σ H Q h => ?_
  have h : TD X.K (fun env => do let x ← ev gl cf a env; (do isT x; let y ← ev gl cf b env; let z ← ev gl cf d env; dget2D x y z)) σ H Q := h
  refine TD.then_ (m := ev gl cf a) (f := fun x env => do isT x; let y ← ev gl cf b env; let z ← ev gl cf d env; dget2D x y z) h fun ρ S env x v H' w en rx q => ?_
  rw [wp_bind] at q
  obtain ⟨⟨a1, rfl, isd⟩, q⟩ := isT_wp w rx q
  simp only [wp_bind] at q
  refine ⟨a1, rfl, isd, ρ, S, env, w, en, wp_mono q fun y S1 q ρ1 H1 u st1 w1 ry => ⟨ρ1, S1, env, w1, en.step w st1, wp_mono q fun z S2 q ρ2 H2 t st2 w2 rz => ?_⟩⟩
  have st := st1.trans st2
  obtain ⟨a2, o, e, g, q⟩ := dget2_ok (Q := Q) w2 (rx.step w st) (ry.step w1 st2) rz (wp_mono q fun d' S' p => p.step st)
  cases e
  exact ⟨o, g, q⟩
theorem r_dpop (ok : Ok gl cf c X) (hl : (apos.endLine == cpos.line) = true) (hs : noSuper e1 = true) (p2 : plain e2 = true) (h1 : PE X e1 (TD X.K (ev gl cf a))) (h2 : PE X e2 (TD X.K (ev gl cf b))) :
    PE X (.Call (.Attribute e1 "pop" apos) [e2] [] cpos) (TD X.K (ev gl cf (.dpop a b))) := by
  have hp : [e2].all plain = true := by simp [p2]
  have m : M1 X e1 "pop" apos e2 cpos := ⟨super_ok hs, few_ok hp (by simp), hl, by rw [star_plain p2]; rfl⟩
  refine PE.of (pe_dpopT (by have := ok.un; omega) h1 h2 m) fun σ H Q h => ?_
  have h : TD X.K (fun env => do let x ← ev gl cf a env; (do isT x; let y ← ev gl cf b env; dpopD x y)) σ H Q := h
  refine TD.then_ (m := ev gl cf a) (f := fun x env => do isT x; let y ← ev gl cf b env; dpopD x y) h fun ρ S env x v H' w en rx q => ?_
  rw [wp_bind] at q
  obtain ⟨⟨a1, rfl, isd⟩, q⟩ := isT_wp w rx q
  simp only [wp_bind] at q
  refine ⟨a1, rfl, isd, ρ, S, env, w, en, wp_mono q fun y S1 q ρ1 H1 u st1 w1 ry => ?_⟩
  obtain ⟨a2, ws, k, b', z, e, g, eu, hb, ez, q⟩ := dpop_ok (Q := Q) w1 (rx.step w st1) ry (wp_mono q fun d' S' p => p.step st1)
  cases e
  exact ⟨ws, k, b', z, g, eu, hb, ez, q⟩
/-! ### sorted(xs, reverse=True) -/
theorem r_sortp (ok : Ok gl cf c X) {p cp kp : Pos} {k0 : Nat} (h : c.is "sorted" .free = true) (hp : plain e1 = true) (h1 : PE X e1 (TD X.K (ev gl cf a))) :
    PE X (.Call (.Name "sorted" p) [e1] [⟨some "reverse", .Constant (.bool true) k0 cp, kp⟩] pos) (TD X.K (ev gl cf (.sortp a))) := by
  obtain ⟨hg, hm⟩ := ok.is_ h
  have hks : (backToKw pos (keywordEach [(⟨some "reverse", .Constant (.bool true) k0 cp, kp⟩ : Keyword)] X.env)).filterMap (·.1) = [Str.ofString "reverse"] := by rfl
  refine PE.of (pe_callBK (x := "sorted") (cr_sortD ok.un) hg hm (by decide +kernel) (pa_cons h1 pa_nil (star_plain hp)) (pk_cons (pe_bl (b := true)) pk_nil) (by decide +kernel) (by decide +kernel) (by rw [star_plain hp]; rfl) (by rw [star_plain hp]; rfl) rfl rfl hks) fun σ H Q h => ?_
  have h : TD X.K (fun env => do let x ← ev gl cf a env; sortPD x) σ H Q := h
  exact TD.then_ (m := ev gl cf a) (f := fun x _ => sortPD x) h fun ρ S env x v H' w en rx q => sortP_ok w rx q
/-! ### the greatest -/
theorem fold_max : ∀ (ns : List Int) (n : Int), (n ≤ ns.foldl max n ∧ ∀ y ∈ ns, y ≤ ns.foldl max n) ∧ (ns.foldl max n = n ∨ ns.foldl max n ∈ ns)
  | [], n => ⟨⟨Int.le_refl _, fun y hy => by cases hy⟩, .inl rfl⟩
  | m :: ns, n => by
    obtain ⟨⟨h1, h2⟩, h3⟩ := fold_max ns (max n m)
    refine ⟨⟨by rw [List.foldl_cons]; omega, fun y hy => ?_⟩, ?_⟩
    · rw [List.foldl_cons]
      rcases List.mem_cons.mp hy with rfl | hy
      · omega
      · exact h2 y hy
    · rw [List.foldl_cons]
      rcases h3 with h3 | h3
      · rw [h3]
        by_cases c : n ≤ m
        · rw [Int.max_eq_right c]; exact .inr (by simp)
        · rw [Int.max_eq_left (by omega)]; exact .inl rfl
      · exact .inr (List.mem_cons_of_mem _ h3)
theorem maxI_is {n m : Int} {ns : List Int} (h1 : m ∈ n :: ns) (h2 : ∀ y ∈ n :: ns, y ≤ m) : m = maxI n ns := by
  obtain ⟨⟨a, b⟩, c⟩ := fold_max ns n
  unfold maxI
  have le1 : m ≤ ns.foldl max n := by
    rcases List.mem_cons.mp h1 with rfl | h1
    · exact a
    · exact b m h1
  have le2 : ns.foldl max n ≤ m := by
    rcases c with c | c
    · rw [c]; exact h2 n (by simp)
    · exact h2 _ (List.mem_cons_of_mem _ c)
  omega
theorem maxL_ok {K : PySem.W.Frag} {ρ : List Addr} {S : Store} {H : Hp} {Q : VK} {x : D} {v : V} (w : WS K ρ S H) (r : Rep K ρ H v x) (h : wp (maxLD x) (Post K ρ H Q) S) : rMax K [v] H Q := by
  unfold maxLD at h
  rw [wp_bind] at h
  obtain ⟨a, xs, ds, rfl, hs, rs, h⟩ := getL_wp w r h
  split at h
  · rename_i n ns e
    have e2 := rs.ints e
    subst e2
    refine ⟨a, n :: ns, rfl, hs, by simp, fun m h1 h2 => ?_⟩
    rw [maxI_is h1 h2]
    simp only [wp_pure] at h
    exact Post.same w (.int _) h
  · exact h.elim
theorem maxD_ok {K : PySem.W.Frag} {ρ : List Addr} {S : Store} {H : Hp} {Q : VK} {x y : D} {v u : V} (w : WS K ρ S H) (r : Rep K ρ H v x) (ru : Rep K ρ H u y) (h : wp (maxDD x y) (Post K ρ H Q) S) : rMaxDf K [v] [u] H Q := by
  unfold maxDD at h
  rw [wp_bind] at h
  obtain ⟨a, xs, ds, rfl, hs, rs, h⟩ := getL_wp w r h
  split at h
  · rename_i e
    have e2 := rs.ints e
    subst e2
    refine ⟨a, [], u, rfl, rfl, hs, fun _ => ?_, fun n ms z => by cases z⟩
    simp only [wp_pure] at h
    exact Post.same w ru h
  · rename_i n ns e
    have e2 := rs.ints e
    subst e2
    refine ⟨a, n :: ns, u, rfl, rfl, hs, (fun z => by cases z), fun n' ms z => ?_⟩
    cases z
    simp only [wp_pure] at h
    exact Post.same w (.int _) h
  · exact h.elim
theorem r_maxl (ok : Ok gl cf c X) {p : Pos} (h : c.is "max" .free = true) (hp : plain e1 = true) (h1 : PE X e1 (TD X.K (ev gl cf a))) :
    PE X (.Call (.Name "max" p) [e1] [] pos) (TD X.K (ev gl cf (.maxl a))) := by
  obtain ⟨hg, hm⟩ := ok.is_ h
  refine PE.of (pe_callB (x := "max") (cr_max ok.calm) hg hm (by decide +kernel) (pa_cons h1 pa_nil (star_plain hp)) (by decide +kernel) (by decide +kernel) (star_plain hp) (back_any rfl)) fun σ H Q h => ?_
  have h : TD X.K (fun env => do let x ← ev gl cf a env; maxLD x) σ H Q := h
  exact TD.then_ (m := ev gl cf a) (f := fun x _ => maxLD x) h fun ρ S env x v H' w en rx q => maxL_ok w rx q
theorem r_maxd (ok : Ok gl cf c X) {p kp : Pos} (h : c.is "max" .free = true) (hp : plain e1 = true) (h1 : PE X e1 (TD X.K (ev gl cf a))) (h2 : PE X e2 (TD X.K (ev gl cf b))) :
    PE X (.Call (.Name "max" p) [e1] [⟨some "default", e2, kp⟩] pos) (TD X.K (ev gl cf (.maxd a b))) := by
  obtain ⟨hg, hm⟩ := ok.is_ h
  have hks : (backToKw pos (keywordEach [(⟨some "default", e2, kp⟩ : Keyword)] X.env)).filterMap (·.1) = [Str.ofString "default"] := by rfl
  refine PE.of (pe_callBK (x := "max") (cr_maxDf ok.calm ok.un) hg hm (by decide +kernel) (pa_cons h1 pa_nil (star_plain hp)) (pk_cons h2 pk_nil) (by decide +kernel) (by decide +kernel) (by rw [star_plain hp]; rfl) (by rw [star_plain hp]; rfl) rfl rfl hks) fun σ H Q h => ?_
  have h : TD X.K (fun env => do let x ← ev gl cf a env; let y ← ev gl cf b env; maxDD x y) σ H Q := h
  exact TD.two h fun ρ S x y v u H' w rx ry q => maxD_ok w rx ry q
/-! ### a dict made by a comprehension -/
theorem RKV.step {K : PySem.W.Frag} {ρ ρ' : List Addr} {S : Store} {H H' : Hp} {ws : List (List Key × V)} {kvs : List (List Key × D)} (r : RKV K ρ H ws kvs) (w : WS K ρ S H) (st : Step ρ H ρ' H') : RKV K ρ' H' ws kvs := rkv_of r.keys (r.vals.step w st)
theorem WS.adoptT {K : PySem.W.Frag} {ρ : List Addr} {S : Store} {H : Hp} (w : WS K ρ S H) {p : Addr} {ws : List (List Key × V)} {kvs : List (List Key × D)} (hp : H p = some (.dT ws)) (hn : p ∉ ρ) (r : RKV K ρ H ws kvs) : WS K (ρ ++ [p]) (S ++ [.dt false kvs]) H := by
  refine ⟨List.nodup_append.mpr ⟨w.nd, List.nodup_cons.mpr ⟨by simp, List.nodup_nil⟩, fun a ha b hb e => ?_⟩, by rw [List.length_append, List.length_append, w.len]; rfl, fun i a o' h1 h2 => ?_, w.tab⟩
  · rw [List.mem_singleton.mp hb] at e
    subst e
    exact hn ha
  · by_cases hi : i < ρ.length
    · rw [List.getElem?_append_left hi] at h1
      rw [List.getElem?_append_left (by rw [← w.len]; exact hi)] at h2
      exact (w.ob i a o' h1 h2).kp Kp.refl rfl
    · have e1 : i = ρ.length := by
        have := (List.getElem?_eq_some_iff.mp h1).1
        rw [List.length_append, List.length_singleton] at this
        omega
      subst e1
      rw [List.getElem?_append_right (Nat.le_refl _), Nat.sub_self] at h1
      rw [w.len, List.getElem?_append_right (Nat.le_refl _), Nat.sub_self] at h2
      simp at h1 h2
      subst h1 h2
      have r' : RKV K (ρ ++ [p]) H ws kvs := r.kp Kp.refl
      exact ⟨ws, hp, r'.keys, r'.vals⟩
theorem dmk_core {t : TG} {own : List Nat} {kx vx : IE} {sl : List Nat} (hsl : ∀ i ∈ sl, i ∈ own) {σ : L2.St} {env : Sl} {s : Src} {ρ1 : List Addr} {S1 : Store} {H1 : Hp} {J : It} {R : List (List Key × D) → Store → Prop} {D : Addr} {Qd : Hp → Prop}
    (w1 : WS X.K ρ1 S1 H1) (en1 : EnvR X.K ρ1 H1 σ env) (src : SrcOk X.K ρ1 H1 J s) (hD : H1 D = none)
    (h : wp (dcL s (fun d => do
      let env1 ← asg gl cf t d (wipeE env own)
      let y ← ev gl cf kx env1
      let z ← ev gl cf vx env1
      pure (y, z)) s.items []) R S1)
    (fin : ∀ ρ2 S2 H2 ws acc, WS X.K ρ2 S2 H2 → Step ρ1 H1 ρ2 H2 → D ∉ ρ2 → H2 D = some (.dT ws) → RKV X.K ρ2 H2 ws acc → R acc S2 → Qd H2) :
    LoopT J (TurnT (TGd X.K sl (asg gl cf t)) (TB X.K (evc gl cf .no)) (TD X.K (ev gl cf kx)) (TD X.K (ev gl cf vx)) own σ D) D Qd H1 := by
  have hDρ : D ∉ ρ1 := w1.fresh hD
  have stD : Step ρ1 H1 ρ1 (upd H1 D (.dT [])) := .tup hD
  refine ⟨fun i m H' => ∃ ρ' S' ws acc, WS X.K ρ' S' H' ∧ Step ρ1 H1 ρ' H' ∧ D ∉ ρ' ∧ H' D = some (.dT ws) ∧ RKV X.K ρ' H' ws acc ∧ m = s.items.length - i ∧
    wp (dcL s (fun d => do
      let env1 ← asg gl cf t d (wipeE env own)
      let y ← ev gl cf kx env1
      let z ← ev gl cf vx env1
      pure (y, z)) (s.items.drop i) acc) R S', ⟨_, ρ1, S1, [], [], w1.tup hD, stD, hDρ, upd_same, .nil, rfl, ?_⟩, ?_⟩
  · rw [List.drop_zero]
    exact h
  rintro i m H2 ⟨ρ2, S2, ws, acc, w2, st2, hn2, hx2, r2, rfl, h⟩
  cases hd : s.items.drop i with
  | nil =>
    rw [hd] at h
    simp only [dcL, wp_bind, wp_pure] at h
    obtain ⟨gd, h⟩ := grd_wp h
    exact .inl ⟨(src i ρ2 S2 H2 st2 w2 gd).2 (List.drop_eq_nil_iff.mp hd), fin ρ2 S2 H2 ws acc w2 st2 hn2 hx2 r2 h⟩
  | cons d ds =>
    rw [hd] at h
    obtain ⟨hid, hdr⟩ := drop_cons hd
    have hil : i < s.items.length := (List.getElem?_eq_some_iff.mp hid).1
    simp only [dcL, wp_bind] at h
    obtain ⟨gd, h⟩ := grd_wp h
    obtain ⟨go, yl⟩ := (src i ρ2 S2 H2 st2 w2 gd).1 d hid
    refine .inr ⟨go, fun H' => ∃ ρ' S' ws acc, WS X.K ρ' S' H' ∧ Step ρ1 H1 ρ' H' ∧ D ∉ ρ' ∧ H' D = some (.dT ws) ∧ RKV X.K ρ' H' ws acc ∧
      wp (dcL s (fun d => do
        let env1 ← asg gl cf t d (wipeE env own)
        let y ← ev gl cf kx env1
        let z ← ev gl cf vx env1
        pure (y, z)) (s.items.drop (i + 1)) acc) R S', fun H' hN => ?_, fun x H3 hy => ?_⟩
    · obtain ⟨ρ', S', xs', acc', a1, a2, a3, a4, a5, a6⟩ := hN
      exact ⟨s.items.length - (i + 1), by omega, ρ', S', xs', acc', a1, a2, a3, a4, a5, rfl, a6⟩
    · rw [hdr]
      obtain ⟨sty, wy, rx⟩ := yl x H3 hy
      have hD3 : H3 D = some (.dT ws) := sty.keep D _ hn2 hx2 (fun _ z => nomatch z)
      refine ⟨ρ2, S2, wipeE env own, d, wy, ((en1.step w1 st2).step w2 sty).wipe own, rx, wp_mono h fun env1 S3 h ρ3 H4 σ3 st4 w4 en4 wp4 => ?_⟩
      have k4 : Step ρ1 H1 ρ3 H4 := (st2.trans sty).trans st4
      have hn4 : D ∉ ρ3 := fun hm => by
        rcases st4.new D hm with h' | h'
        · exact hn2 h'
        · rw [hD3] at h'; cases h'
      have hD4 : H4 D = some (.dT ws) := st4.keep D _ hn2 hD3 (fun _ z => nomatch z)
      have wi : wipe σ3 own = wipe σ own := by
        rw [wp4 own hsl]
        exact wipe_wipe own
      refine ⟨wi, ρ3, S3, env1, w4, en4, ?_⟩
      rw [show evc gl cf .no env1 = pure true from rfl, wp_pure]
      intro ρ4 H5 st5 w5
      have hD5 : H5 D = some (.dT ws) := st5.keep D _ hn4 hD4 (fun _ z => nomatch z)
      have hn5 : D ∉ ρ4 := fun hm => by
        rcases st5.new D hm with h' | h'
        · exact hn4 h'
        · rw [hD4] at h'; cases h'
      simp only [if_true]
      refine ⟨ρ4, S3, env1, w5, en4.step w4 st5, wp_mono h fun y S5 h ρ5 H6 v st6 w6 ry => ?_⟩
      have hD6 : H6 D = some (.dT ws) := st6.keep D _ hn5 hD5 (fun _ z => nomatch z)
      have hn6 : D ∉ ρ5 := fun hm => by
        rcases st6.new D hm with h' | h'
        · exact hn5 h'
        · rw [hD5] at h'; cases h'
      refine ⟨ρ5, S5, env1, w6, (en4.step w4 st5).step w5 st6, wp_mono h fun z S6 h ρ6 H7 u st7 w7 rz => ?_⟩
      have hD7 : H7 D = some (.dT ws) := st7.keep D _ hn6 hD6 (fun _ z => nomatch z)
      have hn7 : D ∉ ρ6 := fun hm => by
        rcases st7.new D hm with h' | h'
        · exact hn6 h'
        · rw [hD6] at h'; cases h'
      have r7 : RKV X.K ρ6 H7 ws acc := (((r2.step w2 sty).step wy st4).step w4 st5).step w5 st6 |>.step w6 st7
      simp only [wp_bind, wp_pure] at h
      obtain ⟨k, ek, h⟩ := toKey_wp h
      obtain ⟨b, rfl, hb⟩ := keyI_rep (ry.step w6 st7) ek
      simp only [wp_bind, wp_need] at h
      obtain ⟨hl, h⟩ := h
      have hl := dec hl
      rw [← r7.length] at hl
      have kp : Kp H7 (upd H7 D (.dT (putK ws k u))) := ⟨fun a' xs' e => by rw [upd_ne (fun z => by rw [z, hD7] at e; cases e)]; exact e, fun a' o' u' _ e => by rw [upd_ne (fun z => by rw [z, hD7] at e; cases e)]; exact e⟩
      refine ⟨ws, k, b, rfl, hD7, hb, hl, ρ6, S6, putK ws k u, putT acc k z, ?_, ?_, hn7, upd_same, ?_, h⟩
      · refine ⟨w7.nd, w7.len, fun j a o h1 h2 => ?_, fun P hP => tabM (w7.tab P hP) hD7 trivial⟩
        have hne : a ≠ D := fun e => hn7 (by rw [← e]; exact List.mem_of_getElem? h1)
        have q := (w7.ob j a o h1 h2).kp (τ := []) kp (upd_ne hne)
        rw [List.append_nil] at q
        exact q
      · have k7 := ((k4.trans st5).trans st6).trans st7
        refine ⟨k7.pre, k7.new, fun a o ha e n => ?_, fun a o u e => ?_, fun a ps e => ?_⟩
        · rw [upd_ne (fun z => by rw [z, hD] at e; cases e)]
          exact k7.keep a o ha e n
        · rw [upd_ne (fun z => by rw [z, hD] at e; cases e)]
          exact k7.fz a o u e
        · rw [upd_ne (fun z => by rw [z, hD] at e; cases e)]
          exact k7.tb a ps e
      · have q := (r7.put k rz).kp (τ := []) kp
        rw [List.append_nil] at q
        exact q
theorem Step.adoptT {ρ ρ1 ρ2 : List Addr} {H H1 H2 : Hp} {D : Addr} (st1 : Step ρ H ρ1 H1) (st2 : Step ρ1 H1 ρ2 H2) (hD : H1 D = none) (hDρ : D ∉ ρ1) : Step ρ H (ρ2 ++ [D]) H2 := Step.adopt st1 st2 hD hDρ
theorem r_dmk (ok : Ok gl cf c X) {t : TG} {own : List Nat} {it : II} {kx vx : IE} {ownp : List (Str × Nat)} {sl : List Nat} (ho : ownp.map (·.2) = own) (hsl : ∀ i ∈ sl, i ∈ own)
    {σ : L2.St} {H : Hp} {Q : VK} (h : TD X.K (ev gl cf (.dmk t own it kx vx)) σ H Q) :
    tDT (TIs X.K (evi gl cf it)) (TGd X.K sl (asg gl cf t)) (TB X.K (evc gl cf .no)) (TD X.K (ev gl cf kx)) (TD X.K (ev gl cf vx)) (ownp.map (·.2)) σ H Q := by
  rw [ho]
  obtain ⟨ρ, S, env, w, en, h⟩ := h
  simp only [ev, wp_bind, wp_newO] at h
  refine ⟨ρ, S, env, w, en, wp_mono h fun s S1 h ρ1 H1 J st1 w1 src => fun D hD => ?_⟩
  have hDρ : D ∉ ρ1 := w1.fresh hD
  exact dmk_core hsl w1 (en.step w st1) src hD h fun ρ2 S2 H2 ws acc w2 st2 hn2 hx2 r2 q => q _ H2 _ (Step.adopt st1 st2 hD hDρ) (w2.adoptT hx2 hn2 r2) (Rep.new w2)
/-! ### comprehensions over a dict -/
theorem unkey_rep {K : PySem.W.Frag} {ρ : List Addr} {H : Hp} : ∀ (k : List Key), Reps K ρ H (k.map kV) (k.map fun x => match x with | .inl i => D.int i | .inr x => D.str x)
  | [] => .nil
  | .inl i :: k => .cons (.int i) (unkey_rep k)
  | .inr x :: k => .cons (.str x) (unkey_rep k)
theorem src_keys {K : PySem.W.Frag} {ρ : List Addr} {H : Hp} {a : Addr} {od : Obj} {ws : List (List Key × V)} {kvs : List (List Key × D)} (hH : H a = some (.frz od (.dT ws))) (hk : ws.map (·.1) = kvs.map (·.1)) : SrcOk K ρ H (Itkt a od ws) ⟨kvs.map fun kv => unkey kv.1, none, none⟩ := by
  have hl : ws.length = kvs.length := by simpa using congrArg List.length hk
  intro i ρ' S' H' st w' _
  have hH' := st.fz _ _ _ hH
  refine ⟨fun d hd => ?_, fun hi => ⟨hH', by rw [hl]; simpa using hi⟩⟩
  have hi : i < kvs.length := by simpa using (List.getElem?_eq_some_iff.mp hd).1
  refine ⟨⟨hH', by omega⟩, fun x H'' yl => ?_⟩
  obtain ⟨rfl, k, v, q, e1, rfl, e2⟩ := yl
  have e3 : (kvs.map (·.1))[i]? = some k := by rw [← hk, List.getElem?_map, e1]; rfl
  rw [List.getElem?_map] at e3 hd
  cases e4 : kvs[i]? with
  | none => rw [e4] at e3; cases e3
  | some kv =>
    rw [e4] at e3 hd
    cases e3
    cases hd
    exact ⟨.refl, w', .tup (SqT.of e2) (fun _ => e2) (unkey_rep _)⟩
theorem dcomp_core {i : Nat} {t : TG} {own sl : List Nat} {cond : IC} {elt : IE} (hsl : ∀ i ∈ sl, i ∈ own) {σ : L2.St} {H : Hp} {Q : VK} (h : TD X.K (ev gl cf (.dcomp i t own cond elt)) σ H Q) :
    ∃ d u, H d = some u ∧ Mut (some u) ∧ ∀ od, tLc (iKeys (tVar i)) (TGd X.K sl (asg gl cf t)) (TB X.K (evc gl cf cond)) (TD X.K (ev gl cf elt)) own σ (upd H d (.frz od u)) fun v H' => H' d = some (.frz od u) ∧ Q v (upd H' d u) := by
  obtain ⟨ρ, S, env, w, en, h⟩ := h
  simp only [ev] at h
  split at h
  · rename_i l hi
    simp only [wp_bind, wp_getO] at h
    obtain ⟨o, e, h⟩ := h
    split at h
    · rename_i kvs
      obtain ⟨v, hv, rv⟩ := en.at_ i _ hi
      obtain ⟨a, rfl, h1⟩ := rv.ref_
      obtain ⟨ws, g, rk⟩ := w.dt h1 e
      have g : H a = some (.dT ws) := g
      simp only [wp_bind, wp_setO] at h
      obtain ⟨hl, h⟩ := h
      refine ⟨a, .dT ws, g, trivial, fun od => ?_⟩
      have st1 : Step ρ H ρ (upd H a (.frz od (.dT ws))) := Step.set w h1 g (fun _ _ z => nomatch z)
      have rk1 : RKV X.K (ρ ++ []) (upd H a (.frz od (.dT ws))) ws kvs := rk.kp (st1.kp w)
      rw [List.append_nil] at rk1
      have w1 : WS X.K ρ (S.set l (.dt true kvs)) (upd H a (.frz od (.dT ws))) := w.set h1 g (fun _ _ z => nomatch z) ⟨ws, ⟨od, upd_same⟩, rk1.keys, rk1.vals⟩
      refine ⟨.ref a, hv, a, od, rfl, .inr ⟨ws, upd_same, fun D hD => ?_⟩⟩
      have hDρ : D ∉ ρ := w1.fresh hD
      refine comp_core hsl w1 (en.step w st1) (src_keys upd_same rk.keys) hD h fun ρ2 S2 H2 xs acc w2 st2 hn2 hx2 r2 q => ?_
      have hz := st2.fz _ _ _ (show upd H a (.frz od (.dT ws)) a = some (.frz od (.dT ws)) from upd_same)
      refine ⟨hz, ?_⟩
      simp only [wp_bind, wp_getO] at q
      obtain ⟨o2, e2, q⟩ := q
      split at q
      · rename_i kvs2
        simp only [wp_bind, wp_setO, wp_newO] at q
        obtain ⟨_, q⟩ := q
        have h2 : ρ2[l]? = some a := by
          obtain ⟨τ, eτ⟩ := st2.pre
          rw [eτ, List.getElem?_append_left (List.getElem?_eq_some_iff.mp h1).1]
          exact h1
        obtain ⟨ws2, ⟨od2, g2⟩, rk2⟩ := w2.dt h2 e2
        rw [hz] at g2
        cases g2
        have hDa : D ≠ a := fun z => by rw [z, hz] at hx2; cases hx2
        have kp : Kp H2 (upd H2 a (.dT ws)) := ⟨fun b xs' e' => by rw [upd_ne (fun z => by rw [z, hz] at e'; cases e')]; exact e', fun b o' u' n e' => by rw [upd_ne (fun z => by rw [z, hz] at e'; cases e'; exact n _ rfl)]; exact e'⟩
        have rk3 : RKV X.K (ρ2 ++ []) (upd H2 a (.dT ws)) ws kvs2 := rk2.kp kp
        rw [List.append_nil] at rk3
        have w3 : WS X.K ρ2 (S2.set l (.dt false kvs2)) (upd H2 a (.dT ws)) := w2.setK h2 kp ⟨ws, (show upd H2 a (.dT ws) a = some (.dT ws) from upd_same), rk3.keys, rk3.vals⟩
        have ha : a ∈ ρ := List.mem_of_getElem? h1
        have st3 : Step ρ H ρ2 (upd H2 a (.dT ws)) := by
          have k1 := st1.trans st2
          refine ⟨k1.pre, k1.new, fun b o b1 b2 b3 => ?_, fun b o u b1 => ?_, fun b ps b1 => ?_⟩
          · rw [upd_ne (fun z => b1 (by rw [z]; exact ha))]
            exact k1.keep b o b1 b2 b3
          · rw [upd_ne (fun z => by rw [z, g] at b1; cases b1)]
            exact k1.fz b o u b1
          · rw [upd_ne (fun z => by rw [z, g] at b1; cases b1)]
            exact k1.tb b ps b1
        have r3 : Reps X.K (ρ2 ++ []) (upd H2 a (.dT ws)) xs acc := r2.kp kp
        rw [List.append_nil] at r3
        have hx3 : upd H2 a (.dT ws) D = some (.lst xs) := by rw [upd_ne hDa]; exact hx2
        have w4 := w3.adopt hx3 hn2 r3
        have nDH : H D = none := by
          rw [upd_ne (fun z => by rw [z, upd_same] at hD; cases hD)] at hD
          exact hD
        have st4 : Step ρ H (ρ2 ++ [D]) (upd H2 a (.dT ws)) := by
          obtain ⟨τ, eτ⟩ := st3.pre
          refine ⟨⟨τ ++ [D], by rw [eτ, List.append_assoc]⟩, fun b hb => ?_, st3.keep, st3.fz, st3.tb⟩
          rcases List.mem_append.mp hb with hb | hb
          · exact st3.new b hb
          · rw [List.mem_singleton.mp hb]
            exact .inr nDH
        exact q _ _ _ st4 w4 (Rep.new w3)
      · exact q.elim
    · exact h.elim
  · exact h.elim
/-! ### d[k] = v -/
end
end Dl
end

section
set_option Elab.async false
set_option linter.all false
set_option maxRecDepth 100000
set_option maxHeartbeats 2000000
/-! Dl: soundness of the checker, expressions and statements -/
namespace Dl
open PySem PySem.Spec PyProof.Rows L2
theorem bnd_assoc {α β γ : Type} (m : M α) (f : α → M β) (g : β → M γ) : (m >>= f) >>= g = m >>= fun a => f a >>= g := by
  funext S
  show M.bnd (M.bnd m f) g S = M.bnd m (fun a => M.bnd (f a) g) S
  unfold M.bnd
  cases m S <;> rfl
def isBO : Expr → Bool | .BoolOp _ _ _ => true | _ => false
section
variable {gl : Nat → D} {cf : Nat → List D → M D}
theorem tst_var (i : Nat) : tst gl cf (.var i) = fun env => (do let d ← ev gl cf (.var i) env; truth d) := by
  funext env
  simp only [tst, ev]
  cases env[i]? with
  | none => rfl
  | some o => cases o <;> rfl
theorem tst_call (f : Nat) (es : IEs) : tst gl cf (.call f es) = fun env => (do let d ← ev gl cf (.call f es) env; truth d) := by
  funext env
  simp only [tst, ev, bnd_assoc]
theorem tst_bi (f : Bi) (es : IEs) : tst gl cf (.bi f es) = fun env => (do let d ← ev gl cf (.bi f es) env; truth d) := by
  funext env
  simp only [tst, ev, bnd_assoc]
theorem tst_isi (f : IE) (t : Ty) : tst gl cf (.isi f t) = fun env => (do let d ← ev gl cf (.isi f t) env; truth d) := by
  funext env
  simp only [tst, ev, bnd_assoc]
theorem tst_isis (f : IE) (t : List Ty) : tst gl cf (.isis f t) = fun env => (do let d ← ev gl cf (.isis f t) env; truth d) := by
  funext env
  simp only [tst, ev, bnd_assoc]
theorem pt_fail {X : Cx} {e : Expr} {K : PySem.W.Frag} (h : ∀ env, tst gl cf ir env = fail) : PT X e (TB K (tst gl cf ir)) := ⟨fun pins s σ H Q I hw => by
  obtain ⟨ρ, S, env, w, en, q⟩ := hw
  rw [h] at q
  exact q.elim⟩
theorem pw_fail {X : Cx} {e : Expr} {K : PySem.W.Frag} (h : ∀ env, tst gl cf ir env = fail) : PW X e (TB K (tst gl cf ir)) := ⟨fun wh pins s σ H Q I hw => by
  obtain ⟨ρ, S, env, w, en, q⟩ := hw
  rw [h] at q
  exact q.elim⟩
theorem t_bl {X : Cx} {b : Bool} {k : Nat} {pos : Pos} : PT X (.Constant (.bool b) k pos) (TB X.K (tst gl cf (.bl b))) :=
  PT.of (pt_val pe_bl) fun σ H Q ⟨ρ, S, env, w, en, q⟩ => ⟨b, rfl, q ρ H .refl w⟩
/-- what the soundness says of a test -/
def TOk (gl : Nat → D) (cf : Nat → List D → M D) (X : Cx) (e : Expr) (ir : IE) : Prop := PT X e (TB X.K (tst gl cf ir)) ∧ (isBO e = true → PW X e (TB X.K (tst gl cf ir)))
theorem TOk.fail {X : Cx} {e : Expr} {ir : IE} (h : ∀ env, tst gl cf ir env = Dl.fail) : TOk gl cf X e ir := ⟨pt_fail h, fun _ => pw_fail h⟩
theorem TOk.pt {X : Cx} {e : Expr} {ir : IE} (h : PT X e (TB X.K (tst gl cf ir))) (hb : isBO e = false) : TOk gl cf X e ir := ⟨h, fun z => by rw [hb] at z; cases z⟩
theorem TOk.pw {X : Cx} {e : Expr} {ir : IE} (h : PW X e (TB X.K (tst gl cf ir))) : TOk gl cf X e ir := ⟨h.pt, fun _ => h⟩
theorem slots_in {own : List Nat} {sl : List Nat} (h : sl.all (own.contains ·) = true) : ∀ i ∈ sl, i ∈ own := fun i hi => by
  have := List.all_eq_true.mp h i hi
  simpa using this
theorem ownP_snd (c : Cst) (own : List Nat) : (ownP c own).map (·.2) = own := by
  unfold ownP
  rw [List.map_map]
  exact List.map_id _
theorem r_meX {c : Cst} {X : Cx} (hu : X.A.units + 65 < cLine) {m : Me} {o : IE} {e : Expr} {apos pos : Pos} {l : List Expr} {es : IEs} (h2 : (apos.endLine == pos.line) = true) (h3 : noSuper e = true) (h4 : l.length < 29) (g1 : PE X e (TD X.K (ev gl cf o))) (h6 : chks c es l = true)
    (a1 : PA X l (TDs X.K (evs gl cf es))) (a2 : l.all plain = true) : PE X (.Call (.Attribute e m.name apos) l [] pos) (TD X.K (ev gl cf (.me m o es))) := by
  cases l with
  | nil =>
    cases es with
    | nil =>
      by_cases hm : m = .pop ∨ m = .reverse
      · exact r_me0 hu h2 h3 g1 a1 hm
      · refine ⟨fun pins s σ H Q I hw => ?_⟩
        obtain ⟨ρ, S, env, w, en, q⟩ := hw
        simp only [ev, evs, wp_bind, wp_pure] at q
        obtain ⟨x, S1, _, q⟩ := wp_some q
        obtain ⟨u, S2, _, q⟩ := wp_some q
        unfold meRun at q
        split at q
        · simp only [wp_bind, wp_getO] at q
          obtain ⟨o1, e1, q⟩ := q
          cases m <;> first | exact absurd (.inl rfl) hm | exact absurd (.inr rfl) hm | (split at q <;> exact q.elim)
        · exact q.elim
    | cons _ _ => simp only [chks] at h6; cases h6
  | cons e1 l =>
    by_cases hm : m = .append ∨ m = .popAt ∨ m = .remove
    · exact r_me hu h2 h3 h4 a2 g1 a1 hm
    · cases es with
      | nil => simp only [chks] at h6; cases h6
      | cons ea es =>
        refine ⟨fun pins s σ H Q I hw => ?_⟩
        obtain ⟨ρ, S, env, w, en, q⟩ := hw
        simp only [ev, evs, wp_bind, wp_pure] at q
        obtain ⟨x, S1, _, q⟩ := wp_some q
        obtain ⟨u, S2, _, q⟩ := wp_some q
        obtain ⟨d, S3, _, q⟩ := wp_some q
        obtain ⟨ds, S4, _, q⟩ := wp_some q
        unfold meRun at q
        split at q
        · simp only [wp_bind, wp_getO] at q
          obtain ⟨o1, e1, q⟩ := q
          cases m <;> first | exact absurd (.inl rfl) hm | exact absurd (.inr (.inl rfl)) hm | exact absurd (.inr (.inr rfl)) hm | (split at q <;> exact q.elim)
        · exact q.elim
mutual
theorem chk_ok : ∀ (ir : IE) (c : Cst) (X : Cx) (e : Expr), Ok gl cf c X → chk c ir e = true → PE X e (TD X.K (ev gl cf ir))
  | .var i, c, X, e, ok, h => by
    simp only [chk] at h
    split at h
    · exact r_var ok h
    · cases h
  | .int i, c, X, e, ok, h => by
    simp only [chk] at h
    split at h
    · cases of_decide_eq_true h
      exact r_int
    · cases h
  | .bl i, c, X, e, ok, h => by
    simp only [chk] at h
    split at h
    · cases of_decide_eq_true h
      exact r_bl
    · cases h
  | .non, c, X, e, ok, h => by
    simp only [chk] at h
    split at h
    · exact r_non
    · cases h
  | .str x, c, X, e, ok, h => by
    simp only [chk] at h
    split at h
    · cases of_decide_eq_true h
      exact r_str
    · cases h
  | .glo g, c, X, e, ok, h => by
    simp only [chk] at h
    split at h
    · exact r_glo ok h
    · cases h
  | .tup es, c, X, e, ok, h => by
    simp only [chk] at h
    split at h
    · exact r_tup (chks_ok es c X _ ok h).1
    · cases h
  | .lst es, c, X, e, ok, h => by
    simp only [chk] at h
    split at h
    · exact r_lst (chks_ok es c X _ ok h).1
    · cases h
  | .op o a b, c, X, e, ok, h => by
    simp only [chk] at h
    split at h
    · obtain ⟨h1, h⟩ := and2 h
      obtain ⟨h2, h3⟩ := and2 h
      cases of_decide_eq_true h1
      exact r_op (chk_ok a c X _ ok h2) (chk_ok b c X _ ok h3)
    · cases h
  | .neg a, c, X, e, ok, h => by
    simp only [chk] at h
    split at h
    · exact r_neg (chk_ok a c X _ ok h)
    · cases h
  | .not a, c, X, e, ok, h => by
    simp only [chk] at h
    split at h
    · exact r_not (chk_ok a c X _ ok h)
    · cases h
  | .and a b, c, X, e, ok, h => by
    simp only [chk] at h
    split at h
    · obtain ⟨h2, h3⟩ := and2 h
      exact r_and (chk_ok a c X _ ok h2) (pe_one (chk_ok b c X _ ok h3))
    · obtain ⟨h2, h3⟩ := and2 h
      exact r_and (chk_ok a c X _ ok h2) (chk_ok b c X _ ok h3)
    · cases h
  | .or a b, c, X, e, ok, h => by
    simp only [chk] at h
    split at h
    · obtain ⟨h2, h3⟩ := and2 h
      exact r_or (chk_ok a c X _ ok h2) (pe_one (chk_ok b c X _ ok h3))
    · obtain ⟨h2, h3⟩ := and2 h
      exact r_or (chk_ok a c X _ ok h2) (chk_ok b c X _ ok h3)
    · cases h
  | .cmp o a b, c, X, e, ok, h => by
    simp only [chk] at h
    split at h
    · obtain ⟨h1, h⟩ := and2 h
      obtain ⟨h0, h⟩ := and2 h
      obtain ⟨h2, h3⟩ := and2 h
      cases of_decide_eq_true h1
      exact r_cmp ok h0 (chk_ok a c X _ ok h2) (chk_ok b c X _ ok h3)
    · cases h
  | .chain o o2 a b d, c, X, e, ok, h => by
    simp only [chk] at h
    split at h
    · obtain ⟨h1, h⟩ := and2 h
      obtain ⟨h1', h⟩ := and2 h
      obtain ⟨h0, h⟩ := and2 h
      obtain ⟨h2, h⟩ := and2 h
      obtain ⟨h3, h4⟩ := and2 h
      cases of_decide_eq_true h1
      cases of_decide_eq_true h1'
      exact r_chain ok h0 (chk_ok a c X _ ok h2) (chk_ok b c X _ ok h3) (chk_ok d c X _ ok h4)
    · cases h
  | .ite t a b, c, X, e, ok, h => by
    simp only [chk] at h
    split at h
    · obtain ⟨h1, h⟩ := and2 h
      obtain ⟨h2, h3⟩ := and2 h
      exact r_ite (tst_ok t c X _ ok h1).1 (chk_ok a c X _ ok h2) (chk_ok b c X _ ok h3)
    · cases h
  | .ix a b, c, X, e, ok, h => by
    simp only [chk] at h
    split at h
    · obtain ⟨h1, h⟩ := and2 h
      obtain ⟨h2, h3⟩ := and2 h
      exact r_ix h1 (chk_ok a c X _ ok h2) (chk_ok b c X _ ok h3)
    · cases h
  | .sl a lo hi, c, X, e, ok, h => by
    simp only [chk] at h
    split at h
    · obtain ⟨h1, h⟩ := and2 h
      obtain ⟨h2, h3⟩ := and2 h
      exact r_sl (chk_ok a c X _ ok h1) (chko_ok lo c X _ ok h2) (chko_ok hi c X _ ok h3)
    · cases h
  | .rev a, c, X, e, ok, h => by
    simp only [chk] at h
    split at h
    · exact r_rev (chk_ok a c X _ ok h)
    · cases h
  | .call f es, c, X, e, ok, h => by
    simp only [chk] at h
    split at h
    · obtain ⟨h1, h⟩ := and2 h
      obtain ⟨h2, h3⟩ := and2 h
      obtain ⟨a1, a2⟩ := chks_ok es c X _ ok h3
      exact r_call ok (by rw [h1, h2]; rfl) a2 a1
    · cases h
  | .bi b es, c, X, e, ok, h => by
    simp only [chk] at h
    split at h
    · obtain ⟨h1, h⟩ := and2 h
      obtain ⟨h2, h3⟩ := and2 h
      obtain ⟨a1, a2⟩ := chks_ok es c X _ ok h3
      cases of_decide_eq_true h1
      exact r_bi ok h2 a2 a1
    · cases h
  | .me m o es, c, X, e, ok, h => by
    simp only [chk] at h
    split at h
    · obtain ⟨h1, h⟩ := and2 h
      obtain ⟨h2, h⟩ := and2 h
      obtain ⟨h3, h⟩ := and2 h
      obtain ⟨h4, h⟩ := and2 h
      obtain ⟨h5, h6⟩ := and2 h
      cases of_decide_eq_true h1
      have h4 := of_decide_eq_true h4
      have g1 := chk_ok o c X _ ok h5
      obtain ⟨a1, a2⟩ := chks_ok es c X _ ok h6
      exact r_meX ok.un h2 h3 h4 g1 h6 a1 a2
    · cases h
  | .isi a t, c, X, e, ok, h => by
    simp only [chk] at h
    split at h
    · obtain ⟨h1, h⟩ := and2 h
      obtain ⟨h2, h⟩ := and2 h
      obtain ⟨h3, h⟩ := and2 h
      obtain ⟨h4, h⟩ := and2 h
      obtain ⟨h5, h6⟩ := and2 h
      cases of_decide_eq_true h1
      cases of_decide_eq_true h3
      exact r_isi ok h2 h4 h5 (chk_ok a c X _ ok h6)
    · cases h
  | .isis a ts, c, X, e, ok, h => by
    simp only [chk] at h
    split at h
    · obtain ⟨h1, h⟩ := and2 h
      obtain ⟨h2, h⟩ := and2 h
      obtain ⟨h3, h⟩ := and2 h
      obtain ⟨h4, h⟩ := and2 h
      obtain ⟨h5, h6⟩ := and2 h
      cases of_decide_eq_true h1
      exact r_isis ok h2 h3 (of_decide_eq_true h4) h5 (chk_ok a c X _ ok h6)
    · cases h
  | .comp t own it cond elt, c, X, e, ok, h => by
    simp only [chk] at h
    split at h
    · obtain ⟨h1, h⟩ := and2 h
      obtain ⟨h2, h⟩ := and2 h
      obtain ⟨h3, h⟩ := and2 h
      obtain ⟨h4, h⟩ := and2 h
      obtain ⟨h5, h⟩ := and2 h
      obtain ⟨h6, h⟩ := and2 h
      obtain ⟨h7, h⟩ := and2 h
      obtain ⟨h8, h9⟩ := and2 h
      cases of_decide_eq_true h1
      refine PE.of (pe_lc (own := ownP c own) (g := TGd X.K t.slots (asg gl cf t)) (tt := TB X.K (evc gl cf cond)) (te := TD X.K (ev gl cf elt)) ok.calm ok.nd (chkI_ok it c X _ _ ok h6) (by rw [ok.N, ok.sc]; exact blkOk_by h3)
        (fun s H C cl fp => chkT_ok t _ _ _ (ok.blk _ s H C cl fp) h7) (fun s H C cl fp => chkc_ok cond _ _ _ (ok.blk _ s H C cl fp) h8) (fun s H C cl fp => chk_ok elt _ _ _ (ok.blk _ s H C cl fp) h9) (folded_ok h2)) fun σ H Q hh => ?_
      exact r_comp ok (ownP_snd c own) (slots_in h5) (chkI_ok it c X _ _ ok h6) hh
    · cases h
  | .tupr a, c, X, e, ok, h => by
    simp only [chk] at h
    split at h
    · obtain ⟨h1, h⟩ := and2 h
      obtain ⟨h2, h⟩ := and2 h
      obtain ⟨h3, h⟩ := and2 h
      obtain ⟨h4, h⟩ := and2 h
      obtain ⟨h5, h6⟩ := and2 h
      cases of_decide_eq_true h1
      cases of_decide_eq_true h3
      exact r_tupr ok h2 h4 h5 (chk_ok a c X _ ok h6)
    · cases h
  | .lstr a, c, X, e, ok, h => by
    simp only [chk] at h
    split at h
    · obtain ⟨h1, h⟩ := and2 h
      obtain ⟨h2, h⟩ := and2 h
      obtain ⟨h3, h⟩ := and2 h
      obtain ⟨h4, h⟩ := and2 h
      obtain ⟨h5, h6⟩ := and2 h
      cases of_decide_eq_true h1
      cases of_decide_eq_true h3
      exact r_lstr ok h2 h4 h5 (chk_ok a c X _ ok h6)
    · cases h
  | .dnew, c, X, e, ok, h => by
    simp only [chk] at h
    split at h
    · exact r_dnew
    · cases h
  | .dget a b, c, X, e, ok, h => by
    simp only [chk] at h
    split at h
    · obtain ⟨h1, h⟩ := and2 h
      obtain ⟨h2, h3⟩ := and2 h
      exact r_dget ok h1 (chk_ok a c X _ ok h2) (chk_ok b c X _ ok h3)
    · cases h
  | .din a b, c, X, e, ok, h => by
    simp only [chk] at h
    split at h
    · obtain ⟨h1, h⟩ := and2 h
      obtain ⟨h2, h3⟩ := and2 h
      exact r_din ok h1 (chk_ok a c X _ ok h2) (chk_ok b c X _ ok h3)
    · cases h
  | .dget2 a b d, c, X, e, ok, h => by
    simp only [chk] at h
    split at h
    · obtain ⟨h1, h⟩ := and2 h
      obtain ⟨h2, h⟩ := and2 h
      obtain ⟨h3, h⟩ := and2 h
      obtain ⟨h4, h⟩ := and2 h
      obtain ⟨h5, h⟩ := and2 h
      obtain ⟨h6, h⟩ := and2 h
      obtain ⟨h7, h8⟩ := and2 h
      cases of_decide_eq_true h1
      exact r_dget2 ok h2 h3 h4 h5 (chk_ok a c X _ ok h6) (chk_ok b c X _ ok h7) (chk_ok d c X _ ok h8)
    · cases h
  | .dpop a b, c, X, e, ok, h => by
    simp only [chk] at h
    split at h
    · obtain ⟨h1, h⟩ := and2 h
      obtain ⟨h2, h⟩ := and2 h
      obtain ⟨h3, h⟩ := and2 h
      obtain ⟨h4, h⟩ := and2 h
      obtain ⟨h5, h6⟩ := and2 h
      cases of_decide_eq_true h1
      exact r_dpop ok h2 h3 h4 (chk_ok a c X _ ok h5) (chk_ok b c X _ ok h6)
    · cases h
  | .dcomp i t own cond elt, c, X, e, ok, h => by
    simp only [chk] at h
    split at h
    · obtain ⟨h1, h⟩ := and2 h
      obtain ⟨h2, h⟩ := and2 h
      obtain ⟨h3, h⟩ := and2 h
      obtain ⟨h4, h⟩ := and2 h
      obtain ⟨h5, h⟩ := and2 h
      obtain ⟨h7, h⟩ := and2 h
      obtain ⟨h8, h9⟩ := and2 h
      cases of_decide_eq_true h1
      obtain ⟨s1, s2⟩ := and2 h2
      obtain ⟨s2, s3⟩ := and2 s2
      obtain ⟨n1, n2, n3⟩ := nmOk_ s3
      refine PE.of (pe_lock (pe_lc (own := ownP c own) (g := TGd X.K t.slots (asg gl cf t)) (tt := TB X.K (evc gl cf cond)) (te := TD X.K (ev gl cf elt)) ok.calm ok.nd (pi_keys (pe_var (ok.slot s1) (ok.vis s2) n1 n2)) (by rw [ok.N, ok.sc]; exact blkOk_by h3)
        (fun s H C cl fp => chkT_ok t _ _ _ (ok.blk _ s H C cl fp) h7) (fun s H C cl fp => chkc_ok cond _ _ _ (ok.blk _ s H C cl fp) h8) (fun s H C cl fp => chk_ok elt _ _ _ (ok.blk _ s H C cl fp) h9) (fun _ => rfl))) fun σ H Q hh => ?_
      rw [ownP_snd]
      exact dcomp_core (slots_in h5) hh
    · cases h
  | .sortp a, c, X, e, ok, h => by
    simp only [chk] at h
    split at h
    · obtain ⟨h1, h⟩ := and2 h
      obtain ⟨h2, h⟩ := and2 h
      obtain ⟨h3, h⟩ := and2 h
      obtain ⟨h4, h5⟩ := and2 h
      cases of_decide_eq_true h1
      cases of_decide_eq_true h3
      exact r_sortp ok h2 h4 (chk_ok a c X _ ok h5)
    · cases h
  | .maxl a, c, X, e, ok, h => by
    simp only [chk] at h
    split at h
    · obtain ⟨h1, h⟩ := and2 h
      obtain ⟨h2, h⟩ := and2 h
      obtain ⟨h4, h5⟩ := and2 h
      cases of_decide_eq_true h1
      exact r_maxl ok h2 h4 (chk_ok a c X _ ok h5)
    · cases h
  | .maxd a b, c, X, e, ok, h => by
    simp only [chk] at h
    split at h
    · obtain ⟨h1, h⟩ := and2 h
      obtain ⟨h2, h⟩ := and2 h
      obtain ⟨h3, h⟩ := and2 h
      obtain ⟨h4, h⟩ := and2 h
      obtain ⟨h5, h6⟩ := and2 h
      cases of_decide_eq_true h1
      cases of_decide_eq_true h3
      exact r_maxd ok h2 h4 (chk_ok a c X _ ok h5) (chk_ok b c X _ ok h6)
    · cases h
  | .dmk t own it k v, c, X, e, ok, h => by
    simp only [chk] at h
    split at h
    · obtain ⟨h1, h⟩ := and2 h
      obtain ⟨h2, h⟩ := and2 h
      obtain ⟨h3, h⟩ := and2 h
      obtain ⟨h4, h⟩ := and2 h
      obtain ⟨h5, h⟩ := and2 h
      obtain ⟨h6, h⟩ := and2 h
      obtain ⟨h7, h⟩ := and2 h
      obtain ⟨h8, h9⟩ := and2 h
      cases of_decide_eq_true h1
      refine PE.of (pe_dT (own := ownP c own) (g := TGd X.K t.slots (asg gl cf t)) (tt := TB X.K (evc gl cf .no)) (tk := TD X.K (ev gl cf k)) (tv := TD X.K (ev gl cf v)) ok.calm ok.nd (by have := ok.un; omega) (chkI_ok it c X _ _ ok h6) (by rw [ok.N, ok.sc]; exact blkOk_by h3)
        (fun s H C cl fp => chkT_ok t _ _ _ (ok.blk _ s H C cl fp) h7) (fun s H C cl fp => c_no) (fun s H C cl fp => chk_ok k _ _ _ (ok.blk _ s H C cl fp) h8) (fun s H C cl fp => chk_ok v _ _ _ (ok.blk _ s H C cl fp) h9) (folded_ok h2)) fun σ H Q hh => ?_
      exact r_dmk ok (ownP_snd c own) (slots_in h5) hh
    · cases h
theorem chks_ok : ∀ (es : IEs) (c : Cst) (X : Cx) (l : List Expr), Ok gl cf c X → chks c es l = true → PA X l (TDs X.K (evs gl cf es)) ∧ l.all plain = true
  | .nil, c, X, l, ok, h => by
    simp only [chks] at h
    split at h
    · exact ⟨r_nil, rfl⟩
    · cases h
  | .cons e es, c, X, l, ok, h => by
    simp only [chks] at h
    split at h
    · obtain ⟨h1, h⟩ := and2 h
      obtain ⟨h2, h3⟩ := and2 h
      obtain ⟨a1, a2⟩ := chks_ok es c X _ ok h3
      exact ⟨r_cons h1 (chk_ok e c X _ ok h2) a1, by rw [List.all_cons, h1, a2]; rfl⟩
    · cases h
theorem chko_ok : ∀ (o : IO) (c : Cst) (X : Cx) (e : Option Expr), Ok gl cf c X → chko c o e = true → PO X e (TOd X.K (evo gl cf o))
  | .no, c, X, e, ok, h => by
    simp only [chko] at h
    split at h
    · exact r_no
    · cases h
  | .so a, c, X, e, ok, h => by
    simp only [chko] at h
    split at h
    · exact r_so (chk_ok a c X _ ok h)
    · cases h
theorem chkc_ok : ∀ (o : IC) (c : Cst) (X : Cx) (e : List Expr), Ok gl cf c X → chkc c o e = true → PTs X e (TB X.K (evc gl cf o))
  | .no, c, X, e, ok, h => by
    simp only [chkc] at h
    split at h
    · exact c_no
    · cases h
  | .so a, c, X, e, ok, h => by
    simp only [chkc] at h
    split at h
    · exact c_so (tst_ok a c X _ ok h).1
    · cases h
theorem chkI_ok : ∀ (o : II) (c : Cst) (X : Cx) (tg e : Expr), Ok gl cf c X → chkI c tg o e = true → PI X tg e (TIs X.K (evi gl cf o))
  | .seq a, c, X, tg, e, ok, h => by
    simp only [chkI] at h
    obtain ⟨h1, h2⟩ := and2 h
    exact i_seq (chk_ok a c X _ ok h2)
  | .rng1 a, c, X, tg, e, ok, h => by
    simp only [chkI] at h
    split at h
    · obtain ⟨h1, h⟩ := and2 h
      obtain ⟨h2, h⟩ := and2 h
      obtain ⟨h3, h4⟩ := and2 h
      cases of_decide_eq_true h1
      exact i_rng1 ok h2 h3 (chk_ok a c X _ ok h4)
    · cases h
  | .rng2 a b, c, X, tg, e, ok, h => by
    simp only [chkI] at h
    split at h
    · obtain ⟨h1, h⟩ := and2 h
      obtain ⟨h2, h⟩ := and2 h
      obtain ⟨h3, h⟩ := and2 h
      obtain ⟨h4, h⟩ := and2 h
      obtain ⟨h5, h6⟩ := and2 h
      cases of_decide_eq_true h1
      exact i_rng2 ok h2 h3 h4 (chk_ok a c X _ ok h5) (chk_ok b c X _ ok h6)
    · cases h
  | .zip a b, c, X, tg, e, ok, h => by
    simp only [chkI] at h
    split at h
    · obtain ⟨h1, h⟩ := and2 h
      obtain ⟨h2, h⟩ := and2 h
      obtain ⟨h3, h⟩ := and2 h
      obtain ⟨h4, h⟩ := and2 h
      obtain ⟨h0, h⟩ := and2 h
      obtain ⟨h5, h6⟩ := and2 h
      cases of_decide_eq_true h1
      cases tg with
      | Tuple l k p => exact i_zip ok h2 h3 h4 (chk_ok a c X _ ok h5) (chk_ok b c X _ ok h6)
      | _ => cases h0
    · cases h
theorem chkT_ok : ∀ (t : TG) (c : Cst) (X : Cx) (e : Expr), Ok gl cf c X → chkT c t e = true → PG X e (TGd X.K t.slots (asg gl cf t))
  | .nm i, c, X, e, ok, h => by
    simp only [chkT] at h
    split at h
    · simp only [TG.slots]
      exact g_nm ok h
    · cases h
  | .tp ts, c, X, e, ok, h => by
    simp only [chkT] at h
    split at h
    · obtain ⟨a1, a2, a3⟩ := chkTs_ok ts c X _ ok h
      simp only [TG.slots]
      exact g_tp ok a2 a3 a1
    · cases h
  | .ixs o i, c, X, e, ok, h => by
    simp only [chkT] at h
    split at h
    · obtain ⟨h1, h⟩ := and2 h
      obtain ⟨h2, h3⟩ := and2 h
      simp only [TG.slots]
      exact g_ixs h1 (chk_ok o c X _ ok h2) (chk_ok i c X _ ok h3)
    · cases h
theorem chkTs_ok : ∀ (t : TGs) (c : Cst) (X : Cx) (e : List Expr), Ok gl cf c X → chkTs c t e = true → PGs X e (TGds X.K t.slots (asgs gl cf t)) ∧ e.all plain = true ∧ e.length = t.len
  | .nil, c, X, e, ok, h => by
    simp only [chkTs] at h
    split at h
    · exact ⟨g_nil, rfl, rfl⟩
    · cases h
  | .cons t ts, c, X, e, ok, h => by
    simp only [chkTs] at h
    split at h
    · obtain ⟨h1, h⟩ := and2 h
      obtain ⟨h2, h3⟩ := and2 h
      obtain ⟨a1, a2, a3⟩ := chkTs_ok ts c X _ ok h3
      refine ⟨?_, by rw [List.all_cons, h1, a2]; rfl, by rw [List.length_cons, a3]; rfl⟩
      simp only [TGs.slots]
      exact g_cons h1 (chkT_ok t c X _ ok h2) a1
    · cases h
theorem tst_ok : ∀ (ir : IE) (c : Cst) (X : Cx) (e : Expr), Ok gl cf c X → chk c ir e = true → TOk gl cf X e ir
  | .and a b, c, X, e, ok, h => by
    simp only [chk] at h
    split at h
    · obtain ⟨h2, h3⟩ := and2 h
      exact .pw (t_and (tst_ok a c X _ ok h2).1 (pw_and1 (tst_ok b c X _ ok h3).1))
    · obtain ⟨h2, h3⟩ := and2 h
      exact .pw (t_and (tst_ok a c X _ ok h2).1 ((tst_ok b c X _ ok h3).2 rfl))
    · cases h
  | .or a b, c, X, e, ok, h => by
    simp only [chk] at h
    split at h
    · obtain ⟨h2, h3⟩ := and2 h
      exact .pw (t_or (tst_ok a c X _ ok h2).1 (pw_or1 (tst_ok b c X _ ok h3).1))
    · obtain ⟨h2, h3⟩ := and2 h
      exact .pw (t_or (tst_ok a c X _ ok h2).1 ((tst_ok b c X _ ok h3).2 rfl))
    · cases h
  | .not a, c, X, e, ok, h => by
    simp only [chk] at h
    split at h
    · exact .pt (t_not (tst_ok a c X _ ok h).1) rfl
    · cases h
  | .cmp o a b, c, X, e, ok, h => by
    simp only [chk] at h
    split at h
    · obtain ⟨h1, h⟩ := and2 h
      obtain ⟨h0, h⟩ := and2 h
      obtain ⟨h2, h3⟩ := and2 h
      cases of_decide_eq_true h1
      exact .pt (t_cmp ok h0 (chk_ok a c X _ ok h2) (chk_ok b c X _ ok h3)) rfl
    · cases h
  | .chain o o2 a b d, c, X, e, ok, h => by
    simp only [chk] at h
    split at h
    · obtain ⟨h1, h⟩ := and2 h
      obtain ⟨h1', h⟩ := and2 h
      obtain ⟨h0, h⟩ := and2 h
      obtain ⟨h2, h⟩ := and2 h
      obtain ⟨h3, h4⟩ := and2 h
      cases of_decide_eq_true h1
      cases of_decide_eq_true h1'
      exact .pt (t_chain ok h0 (chk_ok a c X _ ok h2) (chk_ok b c X _ ok h3) (chk_ok d c X _ ok h4)) rfl
    · cases h
  | .var i, c, X, e, ok, h => by
    simp only [chk] at h
    split at h
    · refine .pt ?_ rfl
      rw [tst_var]
      exact t_truth rfl (r_var ok h)
    · cases h
  | .bl i, c, X, e, ok, h => by
    simp only [chk] at h
    split at h
    · cases of_decide_eq_true h
      exact .pt t_bl rfl
    · cases h
  | .call f es, c, X, e, ok, h => by
    simp only [chk] at h
    split at h
    · obtain ⟨h1, h⟩ := and2 h
      obtain ⟨h2, h3⟩ := and2 h
      obtain ⟨a1, a2⟩ := chks_ok es c X _ ok h3
      refine .pt ?_ rfl
      rw [tst_call]
      exact t_truth rfl (r_call ok (by rw [h1, h2]; rfl) a2 a1)
    · cases h
  | .bi b es, c, X, e, ok, h => by
    simp only [chk] at h
    split at h
    · obtain ⟨h1, h⟩ := and2 h
      obtain ⟨h2, h3⟩ := and2 h
      obtain ⟨a1, a2⟩ := chks_ok es c X _ ok h3
      cases of_decide_eq_true h1
      refine .pt ?_ rfl
      rw [tst_bi]
      exact t_truth rfl (r_bi ok h2 a2 a1)
    · cases h
  | .isi a t, c, X, e, ok, h => by
    simp only [chk] at h
    split at h
    · obtain ⟨h1, h⟩ := and2 h
      obtain ⟨h2, h⟩ := and2 h
      obtain ⟨h3, h⟩ := and2 h
      obtain ⟨h4, h⟩ := and2 h
      obtain ⟨h5, h6⟩ := and2 h
      cases of_decide_eq_true h1
      cases of_decide_eq_true h3
      refine .pt ?_ rfl
      rw [tst_isi]
      exact t_truth rfl (r_isi ok h2 h4 h5 (chk_ok a c X _ ok h6))
    · cases h
  | .isis a ts, c, X, e, ok, h => by
    simp only [chk] at h
    split at h
    · obtain ⟨h1, h⟩ := and2 h
      obtain ⟨h2, h⟩ := and2 h
      obtain ⟨h3, h⟩ := and2 h
      obtain ⟨h4, h⟩ := and2 h
      obtain ⟨h5, h6⟩ := and2 h
      cases of_decide_eq_true h1
      refine .pt ?_ rfl
      rw [tst_isis]
      exact t_truth rfl (r_isis ok h2 h3 (of_decide_eq_true h4) h5 (chk_ok a c X _ ok h6))
    · cases h
  | .din a b, c, X, e, ok, h => by
    simp only [chk] at h
    split at h
    · obtain ⟨h1, h⟩ := and2 h
      obtain ⟨h2, h3⟩ := and2 h
      exact .pt (t_din ok h1 (chk_ok a c X _ ok h2) (chk_ok b c X _ ok h3)) rfl
    · cases h
  | .dnew, _, _, _, _, _ => .fail fun _ => rfl
  | .dget _ _, _, _, _, _, _ => .fail fun _ => rfl
  | .dget2 _ _ _, _, _, _, _, _ => .fail fun _ => rfl
  | .dpop _ _, _, _, _, _, _ => .fail fun _ => rfl
  | .dcomp _ _ _ _ _, _, _, _, _, _ => .fail fun _ => rfl
  | .sortp _, _, _, _, _, _ => .fail fun _ => rfl
  | .maxl _, _, _, _, _, _ => .fail fun _ => rfl
  | .maxd _ _, _, _, _, _, _ => .fail fun _ => rfl
  | .dmk _ _ _ _ _, _, _, _, _, _ => .fail fun _ => rfl
  | .int _, _, _, _, _, _ => .fail fun _ => rfl
  | .non, _, _, _, _, _ => .fail fun _ => rfl
  | .str _, _, _, _, _, _ => .fail fun _ => rfl
  | .glo _, _, _, _, _, _ => .fail fun _ => rfl
  | .tup _, _, _, _, _, _ => .fail fun _ => rfl
  | .lst _, _, _, _, _, _ => .fail fun _ => rfl
  | .op _ _ _, _, _, _, _, _ => .fail fun _ => rfl
  | .neg _, _, _, _, _, _ => .fail fun _ => rfl
  | .ite _ _ _, _, _, _, _, _ => .fail fun _ => rfl
  | .ix _ _, _, _, _, _, _ => .fail fun _ => rfl
  | .sl _ _ _, _, _, _, _, _ => .fail fun _ => rfl
  | .rev _, _, _, _, _, _ => .fail fun _ => rfl
  | .me _ _ _, _, _, _, _, _ => .fail fun _ => rfl
  | .comp _ _ _ _ _, _, _, _, _, _ => .fail fun _ => rfl
  | .tupr _, _, _, _, _, _ => .fail fun _ => rfl
  | .lstr _, _, _, _, _, _ => .fail fun _ => rfl
end
end
end Dl
end

section
set_option Elab.async false
set_option linter.all false
set_option maxRecDepth 100000
set_option maxHeartbeats 2000000
/-! Dl: sorted by a lambda -/
namespace Dl
open PySem PySem.Spec PyProof.Rows L2 LamX NdefX
section
variable {K : PySem.W.Frag} {ρ : List Addr} {S : Store} {H H2 : Hp}
theorem WS.lam (w : WS K ρ S H) {P : Addr} (hP : tabAd K = some P) (eN : ∀ b o, b ≠ P → H b = some o → H2 b = some o) (T2 : TabS H2 P lamQ) : WS K ρ S H2 ∧ Step ρ H ρ H2 := by
  obtain ⟨ps, h1, _⟩ := w.tab P hP
  have ne : ∀ {a o}, H a = some o → (∀ ps, o ≠ .tbl ps) → H2 a = some o := fun {a o} e n => eN a o (fun z => by rw [z, h1] at e; exact n ps (Option.some.inj e).symm) e
  have st : Step ρ H ρ H2 := ⟨⟨[], (List.append_nil _).symm⟩, fun _ h => .inl h, fun a o _ e n => ne e n, fun a o u e => ne e (fun _ z => nomatch z), fun a qs e => by
    by_cases ha : a = P
    · obtain ⟨ps', h', _⟩ := T2
      exact ⟨ps', by rw [ha]; exact h'⟩
    · exact ⟨qs, eN a _ ha e⟩⟩
  refine ⟨⟨w.nd, w.len, fun i a o h2 h3 => ?_, fun P' hP' => ?_⟩, st⟩
  · obtain ⟨u, e, m⟩ := w.mem (List.mem_of_getElem? h2)
    have q := (w.ob i a o h2 h3).kp (τ := []) (st.kp w) (by rw [e]; exact ne e m.ntbl)
    rw [List.append_nil] at q
    exact q
  · rw [hP] at hP'
    cases hP'
    exact T2
theorem keyOf_dp {d : D} {z : List Int} {v : V} (r : Rep K ρ H v d) (e : keyOfD d = some z) : Dp K H v (encI z) := by
  unfold keyOfD at e
  split at e
  · split at e
    · rename_i e1
      cases e
      exact encI_dp r e1
    · cases e
  · cases e
theorem keyOf_ne {d : D} {z : List Int} (e : keyOfD d = some z) : ∃ i is, z = i :: is := by
  unfold keyOfD at e
  split at e
  · split at e
    · cases e
      exact ⟨_, _, rfl⟩
    · cases e
  · cases e
theorem keys_dp : ∀ {us : List V} {kd : List D} {zs : List (List Int)}, Reps K ρ H us kd → kd.map keyOfD = zs.map some → DpAll K H us (zs.map encI)
  | _, [], [], .nil, _ => .nil
  | _, _, _ :: _, .nil, h => by simp at h
  | _, _, [], .cons _ _, h => by simp at h
  | _, _, z :: zs, .cons h r, e => by
    simp only [List.map_cons, List.cons.injEq] at e
    exact .cons (keyOf_dp h e.1) (keys_dp r e.2)
theorem keysL_cons {g : D → M D} {d : D} {ds : List D} {S S3 : Store} {ks : List (List Int)} (h : keysL g (d :: ds) S = some (ks, S3)) : ∃ y S' z r, g d S = some (y, S') ∧ keyOfD y = some z ∧ keysL g ds S' = some (r, S3) ∧ ks = z :: r := by
  have h : M.bnd (g d) (fun k => match keyOfD k with
    | some z => M.bnd (keysL g ds) fun r => M.pur (z :: r)
    | none => fail) S = some (ks, S3) := h
  unfold M.bnd at h
  cases e1 : g d S with
  | none => rw [e1] at h; cases h
  | some p =>
    rw [e1] at h
    dsimp only at h
    cases e2 : keyOfD p.1 with
    | none => rw [e2] at h; cases h
    | some z =>
      rw [e2] at h
      dsimp only at h
      cases e3 : keysL g ds p.2 with
      | none => rw [e3] at h; cases h
      | some q =>
        rw [e3] at h
        cases h
        exact ⟨p.1, p.2, z, q.1, rfl, e2, e3, rfl⟩
theorem keysL_nil {g : D → M D} {S S3 : Store} {ks : List (List Int)} (h : keysL g [] S = some (ks, S3)) : ks = [] ∧ S3 = S := by
  have h : M.pur ([] : List (List Int)) S = some (ks, S3) := h
  cases h
  exact ⟨rfl, rfl⟩
theorem keysL_all {g : D → M D} : ∀ {ds : List D} {S S3 : Store} {ks : List (List Int)}, keysL g ds S = some (ks, S3) → ks.length = ds.length ∧ ∀ z ∈ ks, ∃ i is, z = i :: is
  | [], S, S3, ks, h => by
    obtain ⟨rfl, _⟩ := keysL_nil h
    exact ⟨rfl, fun z hz => by simp at hz⟩
  | d :: ds, S, S3, ks, h => by
    obtain ⟨y, S', z, r, _, e2, e3, rfl⟩ := keysL_cons h
    obtain ⟨h1, h2⟩ := keysL_all e3
    refine ⟨by simp [h1], fun z' hz => ?_⟩
    rcases List.mem_cons.mp hz with rfl | hz
    · exact keyOf_ne e2
    · exact h2 z' hz
end
def PostF (K : PySem.W.Frag) (ρ : List Addr) (H : Hp) (D : Ends) (r : Fl × Sl) (S' : Store) : Prop := ∀ ρ' H', Step ρ H ρ' H' → WS K ρ' S' H' → match r.1 with
  | .nx => ∀ σ', EnvR K ρ' H' σ' r.2 → D.nx σ' H'
  | .rt d => ∀ v, Rep K ρ' H' v d → D.rt v H'
  | .bk => ∀ σ', EnvR K ρ' H' σ' r.2 → D.bk σ' H'
  | .ct => ∀ σ', EnvR K ρ' H' σ' r.2 → D.ct σ' H'
def TSd (K : PySem.W.Frag) (m : Sl → M (Fl × Sl)) : TS := fun D σ H => ∃ ρ S env, WS K ρ S H ∧ EnvR K ρ H σ env ∧ wp (m env) (PostF K ρ H D) S
theorem PostF.step {K : PySem.W.Frag} {ρ ρ' : List Addr} {H H' : Hp} {D : Ends} {r : Fl × Sl} {S : Store} (p : PostF K ρ H D r S) (s : Step ρ H ρ' H') : PostF K ρ' H' D r S := fun ρ2 H2 st w => p ρ2 H2 (s.trans st) w
/-- one plain parameter -/
def onePar : Arguments → Option Str
  | ⟨[], [⟨p, none, _⟩], none, [], [], none, []⟩ => some p
  | _ => none
theorem onePar_ {ar : Arguments} {p : Str} (h : onePar ar = some p) : ∃ pos, ar = ⟨[], [⟨p, none, pos⟩], none, [], [], none, []⟩ := by
  unfold onePar at h
  split at h
  · cases h
    exact ⟨_, rfl⟩
  · cases h
def lamPar : Str := "power"
theorem bind_one {q : Str} {pp : Pos} {body : Expr} {scope : Scope} {cl : List (Str × Addr)} {pm cv ctv u : Value} : bindArgs (PySem.W.kla_fn "<lambda>" q ⟨[], [⟨lamPar, none, pp⟩], none, [], [], none, []⟩ body scope cl pm cv ctv) ⟨[u], []⟩ = pure ([lamPar].zip [u]) := by
  rfl
def lamCst (c : Cst) (y : Str) (scope : Scope) : Cst := ⟨[lamPar, y], scope, fun _ => false, c.G, false, 0⟩
def rsortOk (c : Cst) (i : Nat) (params : Arguments) (scope : Scope) : Bool :=
  c.lam && (decide (c.rm = 3) && (decide (onePar params = some lamPar) && (c.slot i (c.N.getD i "") && (decide (c.look (c.N.getD i "") = some .cell) && nscB [lamPar, c.N.getD i ""] [lamPar] [c.N.getD i ""] scope))))
section
variable {gl : Nat → D} {cf : Nat → List D → M D} {c : Cst} {X : Cx}
theorem lam_ok (ok : Ok gl cf c X) (hl : c.lam = true) (hr : c.rm = 3) {y : Str} {scope : Scope} (nd : [lamPar, y].Nodup) (params : Arguments) (q : Str) (cl : List (Str × Addr)) (f c' : Addr) (s : Shared) (H : Hp) :
    Ok gl cf (lamCst c y scope) (ncx CX0 X.prog X.w X.K X.mg X.base [lamPar, y] (lamF q params scope cl c') f X.A.in1.in1 X.stack s H E0).nox := by
  obtain ⟨cc, P, _, _, _, _, room⟩ := ok.lam hl
  refine ⟨rfl, nd, rfl, fun _ h => h, rfl, rfl, ?_, fun x g hx => ?_, fun h => by cases h⟩
  · have := room.un
    show X.A.in1.in1.units + 3 + 65 < cLine
    show X.A.units + 1 + 1 + 3 + 65 < cLine
    omega
  · have q := ok.G x g hx
    cases g with
    | free => exact q
    | bt id => exact q
    | cst g => exact q
    | other => trivial
    | fn i =>
      obtain ⟨f, fd, ps, k, h1, h2, h3, h4, h5⟩ := q
      refine ⟨f, fd, ps, k, h1, h2, h3, ?_, h5⟩
      rw [hr] at h4
      have r1 : Room (k + 2) X.A.in1 := h4.in1
      have r2 : Room (k + 1) X.A.in1.in1 := r1.in1
      exact r2.deeper _
theorem start2 {K : PySem.W.Frag} {ρ : List Addr} {H : Hp} {σ : L2.St} {env : Sl} {i : Nat} {x r : D} {v : V} {y : Str} (en : EnvR K ρ H σ env) (hr : env[i]? = some (some r)) (rv : Rep K ρ H v x) : EnvR K ρ H (startF [lamPar, y] [v] ([i].map (NdefX.slotAt σ))) [some x, some r] := by
  obtain ⟨u, hu, ru⟩ := en.at_ i r hr
  have e : startF [lamPar, y] [v] ([i].map (NdefX.slotAt σ)) = [some v, some u] := by
    unfold startF NdefX.slotAt
    simp [hu]
  rw [e]
  refine ⟨rfl, fun j d h => ?_⟩
  match j, h with
  | 0, h => simp at h; subst h; exact ⟨v, rfl, rv⟩
  | 1, h => simp at h; subst h; exact ⟨u, rfl, ru⟩
  | j + 2, h => simp at h
theorem s_rsort (ok : Ok gl cf c X) {i : Nat} {xs e : IE} {params : Arguments} {body e1 : Expr} {scope : Scope} {p pos lpos cp kp1 kp2 rpos : Pos} {k0 : Nat} (h : c.is "sorted" .free = true) (hr : rsortOk c i params scope = true) (hp : plain e1 = true) (h1 : PE X e1 (TD X.K (ev gl cf xs)))
    (hb : chk (lamCst c (c.N.getD i "") scope) e body = true) :
    PS X (.Return (some (.Call (.Name "sorted" p) [e1] [⟨some "key", .Lambda params body scope lpos, kp1⟩, ⟨some "reverse", .Constant (.bool true) k0 cp, kp2⟩] pos)) rpos) (TSd X.K (ex gl cf (.rsort i xs e))) := by
  obtain ⟨a1, hr⟩ := and2 hr
  obtain ⟨a2, hr⟩ := and2 hr
  obtain ⟨a3, hr⟩ := and2 hr
  obtain ⟨a4, hr⟩ := and2 hr
  obtain ⟨a5, a6⟩ := and2 hr
  have a2 := of_decide_eq_true a2
  obtain ⟨pp, rfl⟩ := onePar_ (of_decide_eq_true a3)
  have a5 := of_decide_eq_true a5
  have Sc := nscope_by a6
  obtain ⟨cc, P, hcode, hP, TB, hq, room⟩ := ok.lam a1
  obtain ⟨hg, hm⟩ := ok.is_ h
  have hcell : X.env.scope.names.lookup (c.N.getD i "") = some .cell := by rw [ok.sc]; exact a5
  have hfree : ∀ y ∈ scope.names, y.2 = .free → X.env.scope.names.lookup y.1 = some .cell ∨ X.env.scope.names.lookup y.1 = some .free := fun y hy e => by
    have := Sc.free y hy e
    rw [List.mem_singleton.mp this]
    exact .inl hcell
  have hps : [lamPar].length = 1 := rfl
  have main := pe_sortLam (X := X) (P := P) (c := cc) (N := [lamPar, c.N.getD i ""]) (ps := [lamPar]) (fr := [c.N.getD i ""]) (js := [i]) (params := ⟨[], [⟨lamPar, none, pp⟩], none, [], [], none, []⟩) (body := body) (e1 := e1) (scope := scope) (tb := TD X.K (ev gl cf e))
    (p := p) (pos := pos) (lpos := lpos) (cp := cp) (kp1 := kp1) (kp2 := kp2) (k0 := k0) hg hm (star_plain hp) TB hcode rfl hfree room.hd room.depth (by have := ok.un; omega) Sc hps
    (fun xo => Caps.made xo hfree (fun y hy => PySem.mem_of_lookup (Sc.frk y hy)) (by have := ok.slot a4; simp [this]))
    (fun c' pm ctv u => bind_one) (fun f c' s H => chk_ok e _ _ _ (lam_ok ok a1 a2 Sc.nd _ _ _ f c' s H) hb) h1
  rw [hq] at main
  refine PS.of (ps_ret main) fun D σ H hh => ?_
  obtain ⟨ρ, S, env, w, en, q⟩ := hh
  simp only [ex, wp_bind] at q
  refine ⟨ρ, S, env, w, en, wp_mono q fun x S1 q ρ1 H1 v st1 w1 rv => ⟨w1.tab P hP, fun f c' H2 eN nn T2 f0 f1 c1 => ?_⟩⟩
  obtain ⟨w2, st2⟩ := w1.lam hP eN T2
  have st := st1.trans st2
  have en2 := en.step w st
  obtain ⟨a, vs, ds, rfl, hs, rs, q⟩ := getL_wp w2 (rv.step w1 st2) q
  split at q
  · rename_i r hi
    rw [wp_bind] at q
    obtain ⟨ks, S3, ek, q⟩ := wp_some q
    simp only [wp_bind, wp_newO, wp_pure] at q
    obtain ⟨kl, kne⟩ := keysL_all ek
    refine ⟨a, f, c', vs, ks.map encI, fun j us H' => ∃ ρ' S' kd, WS X.K ρ' S' H' ∧ Step ρ1 H2 ρ' H' ∧ Reps X.K ρ' H' us kd ∧ kd.map keyOfD = (ks.take j).map some ∧ keysL (fun d => ev gl cf e [some d, some r]) (ds.drop j) S' = some (ks.drop j, S3),
      rfl, rfl, hs, by rw [List.length_map, kl, rs.length], PySem.W.AllAlike.of encI_alike, ?_, fun p hp => ?_, fun j us H' g => ?_, ⟨ρ1, S1, [], w2, .refl, .nil, by simp, by simpa using ek⟩, fun j x us H' hx hu g => ?_, fun us H' g => ?_, fun us H' p g hp => ?_⟩
    · refine .inl fun d hd => ?_
      obtain ⟨z, hz, rfl⟩ := List.mem_map.mp hd
      obtain ⟨i, is, rfl⟩ := kne z hz
      exact ⟨_, _, rfl⟩
    · obtain ⟨z, _, rfl⟩ := List.mem_map.mp hp
      have := encI_depth z
      omega
    · obtain ⟨ρ', S', kd, w', st', _⟩ := g
      exact ⟨st'.keep f _ (w2.notin f1 (fun z => z)) f1 lamO_ne, st'.keep c' _ (w2.notin c1 (fun z => z)) c1 codeO_ne⟩
    · obtain ⟨ρ', S', kd, w', st', rk, ekd, run⟩ := g
      have hjl : j < ds.length := by rw [← rs.length]; exact (List.getElem?_eq_some_iff.mp hx).1
      have hd : ds[j]? = some ds[j] := List.getElem?_eq_getElem hjl
      have hj2 : ds.drop j = ds[j] :: ds.drop (j + 1) := List.drop_eq_getElem_cons hjl
      rw [hj2] at run
      obtain ⟨y, S'', z, rest, g1, g2, g3, g4⟩ := keysL_cons run
      obtain ⟨x', hx', rx⟩ := rs.get hd
      rw [hx] at hx'
      cases hx'
      refine ⟨ρ', S', [some ds[j], some r], w', start2 (en2.step w2 st') hi (rx.step w2 st'), wp_of g1 fun ρ'' H'' u st'' w'' ru => ?_⟩
      have hkj : ks[j]? = some z := by rw [← List.head?_drop, g4]; rfl
      refine ⟨ρ'', S'', kd ++ [y], w'', st'.trans st'', (rk.step w' st'').append (.cons ru .nil), ?_, ?_⟩
      · rw [List.take_add_one, hkj]
        simp [ekd, g2]
      · rw [g3]
        have : ks.drop (j + 1) = rest := by rw [← List.tail_drop, g4]; rfl
        rw [this]
    · obtain ⟨ρ', S', kd, w', st', rk, ekd, run⟩ := g
      have : ks.take vs.length = ks := List.take_of_length_le (by rw [kl, rs.length]; exact Nat.le_refl _)
      rw [this] at ekd
      exact keys_dp rk ekd
    · obtain ⟨ρ', S', kd, w', st', rk, ekd, run⟩ := g
      have : ds.drop vs.length = [] := List.drop_eq_nil_iff.mpr (by rw [rs.length]; exact Nat.le_refl _)
      rw [this] at run
      obtain ⟨_, rfl⟩ := keysL_nil run
      have rso := (rs.step w2 st').sort (ks := ks.map encI) (by rw [List.length_map, kl, rs.length])
      have sta : Step ρ' H' (ρ' ++ [p]) (upd H' p (.lst (((vs.zip (ks.map encI)).mergeSort (PySem.W.dataLe true (·.2))).map (·.1)))) := .alloc hp
      exact q (ρ' ++ [p]) _ ((st.trans st').trans sta) (w'.alloc hp ⟨_, upd_same, rso.kp (Kp.new hp)⟩) _ (Rep.new w')
  · exact q.elim
end
end Dl
end

section
set_option Elab.async false
set_option linter.all false
set_option maxRecDepth 100000
set_option maxHeartbeats 2000000
/-! Dl: soundness of statements, defs, the program -/
namespace Dl
open PySem PySem.Spec PyProof.Rows L2
/-! ### which stores are swapped -/
def swT (c : Cst) (tg v : Expr) : Bool := match tg, v with
  | .Name y py, .ListComp _ _ scope vpos => decide (c.look y = some .local) && ((py.line == vpos.line) && !(scope.names.any fun (n, k) => n == y && (k == .local || k == .cell)))
  | _, _ => false
/-- the names that a tuple of targets stores -/
def swNames (c : Cst) (ts : List Expr) : List Str :=
  let line := (ts.head?.map (·.pos.line)).getD 0
  ts.filterMap fun
    | .Name id pos => if c.look id == some .local && pos.line == line then some id else none
    | _ => none
def tupFree (c : Cst) (ts vs : List Expr) : Bool := decide (vs.any (fun | .Starred .. => true | _ => false) = false) && ((swNames c ts).length != ts.length || ((swNames c ts).eraseDups.length != (swNames c ts).length || vs.all (foldedForSure 8)))
def asgOk (c : Cst) (tg v : Expr) : Bool := decide (c.sc.kind = .function) &&
  (match tg, v with
    | .Name y py, .ListComp _ _ scope vpos => !swT c tg v
    | .Name _ _, v => noComp v
    | .Tuple ts _ _, .Tuple vs _ _ => tupFree c ts vs
    | .Tuple _ _ _, v => noTup v
    | .Subscript _ _ _, _ => true
    | _, _ => false)
def parOk (c : Cst) (x y : Str) (px py : Pos) (e1 e2 : Expr) : Bool := decide (c.sc.kind = .function) && (decide (c.look x = some .local) && (decide (c.look y = some .local) && ((py.line == px.line) && (decide (x ≠ y) &&
  (plain e1 && (plain e2 && (!([e1, e2].all (foldedForSure 8)) && !([e1, e2].all (constantsAlone 8)))))))))
theorem blockKind_fn {env : PySem.Env} (h : env.scope.kind = .function) : env.blockKind = .function := by unfold Env.blockKind; rw [h]; rfl
theorem sw_false {c : Cst} {env : PySem.Env} {y : Str} {py : Pos} {elt : Expr} {gs : List Comprehension} {scope : Scope} {vpos : Pos} {l : Nat} (hs : env.scope = c.sc) (hk : c.sc.kind = .function)
    (h : (!swT c (.Name y py) (.ListComp elt gs scope vpos)) = true) : swapsWith (.ListComp elt gs scope vpos) (some (.Name y py)) l env = pure false := by
  have hb : env.blockKind = .function := blockKind_fn (by rw [hs]; exact hk)
  have hl : env.kindOf y = c.look y := by unfold Env.kindOf Cst.look; rw [hs]
  unfold swapsWith
  simp only [hb, hl, Expr.pos]
  show (pure _ : Sem Bool) = pure false
  congr 1
  unfold swT at h
  simp only [Bool.not_eq_true', Bool.and_eq_false_iff] at h
  rcases h with h | h | h
  · have : (c.look y == some NameKind.local) = false := by
      rw [beq_eq_false_iff_ne]
      exact of_decide_eq_false h
    rw [this]; simp
  · rw [h]; simp
  · rw [h]; simp
theorem sw_free {c : Cst} {env : PySem.Env} {ts vs : List Expr} {k k2 : Nat} {p p2 : Pos} (hs : env.scope = c.sc) (hk : c.sc.kind = .function) (h : tupFree c ts vs = true) : swappedStores [.Tuple ts k p] (.Tuple vs k2 p2) env = pure none := by
  have hl : ∀ y, env.kindOf y = c.look y := fun y => by unfold Env.kindOf Cst.look; rw [hs]
  obtain ⟨h1, h2⟩ := and2 h
  have h1 := of_decide_eq_true h1
  unfold swappedStores
  dsimp only
  by_cases c1 : (!(ts.length == 2 || ts.length == 3) || vs.length != ts.length || env.blockKind != .function) = true
  · rw [if_pos c1]
  · rw [if_neg c1]
    show (if (vs.any fun | .Starred .. => true | _ => false) = true then _ else _) = _
    rw [if_neg (by rw [h1]; exact Bool.false_ne_true)]
    generalize hn : List.filterMap _ ts = nm
    have en : nm = swNames c ts := by
      rw [← hn]
      unfold swNames
      congr 1
      funext e
      cases e <;> first | rfl | (simp only [hl])
    subst en
    clear hn
    by_cases c2 : ((swNames c ts).length != ts.length || (swNames c ts).eraseDups.length != (swNames c ts).length) = true
    · rw [if_pos c2]
    · rw [if_neg c2]
      have : vs.all (foldedForSure 8) = true := by
        rcases Bool.or_eq_true_iff.mp h2 with h2 | h2
        · exact absurd (Bool.or_eq_true_iff.mpr (.inl h2)) c2
        · rcases Bool.or_eq_true_iff.mp h2 with h2 | h2
          · exact absurd (Bool.or_eq_true_iff.mpr (.inr h2)) c2
          · exact h2
      show (if vs.all (foldedForSure 8) = true then _ else _) = _
      rw [if_pos this]
theorem par_sw {c : Cst} {env : PySem.Env} {x y : Str} {px py : Pos} {e1 e2 : Expr} {k k2 : Nat} {p p2 : Pos} (hs : env.scope = c.sc) (h : parOk c x y px py e1 e2 = true) :
    swappedStores [.Tuple [.Name x px, .Name y py] k p] (.Tuple [e1, e2] k2 p2) env = pure (some [x, y]) := by
  have hl : ∀ y, env.kindOf y = c.look y := fun y => by unfold Env.kindOf Cst.look; rw [hs]
  obtain ⟨h1, h⟩ := and2 h
  obtain ⟨h2, h⟩ := and2 h
  obtain ⟨h3, h⟩ := and2 h
  obtain ⟨h4, h⟩ := and2 h
  obtain ⟨h5, h⟩ := and2 h
  obtain ⟨h6, h⟩ := and2 h
  obtain ⟨h7, h⟩ := and2 h
  obtain ⟨h8, h9⟩ := and2 h
  have hb : env.blockKind = .function := blockKind_fn (by rw [hs]; exact of_decide_eq_true h1)
  have kx : env.kindOf x = some .local := (hl x).trans (of_decide_eq_true h2)
  have ky : env.kindOf y = some .local := (hl y).trans (of_decide_eq_true h3)
  have hne : x ≠ y := of_decide_eq_true h5
  have st : ([e1, e2].any fun | .Starred .. => true | _ => false) = false := by
    have q : ∀ e : Expr, plain e = true → (match e with | .Starred .. => true | _ => false) = false := fun e he => by cases e <;> first | rfl | cases he
    simp only [List.any_cons, List.any_nil, Bool.or_false]
    rw [q e1 h6, q e2 h7]
    rfl
  unfold swappedStores
  dsimp only
  rw [if_neg (by rw [hb]; intro z; cases z)]
  show (if ([e1, e2].any fun | .Starred .. => true | _ => false) = true then _ else _) = _
  rw [if_neg (by rw [st]; exact Bool.false_ne_true)]
  generalize hn : List.filterMap _ [Expr.Name x px, Expr.Name y py] = nm
  have en : nm = [x, y] := by
    rw [← hn]
    simp only [List.filterMap_cons, List.filterMap_nil, kx, ky, List.head?_cons, Option.map_some, Option.getD_some, Expr.pos, h4, beq_self_eq_true, Bool.and_self, if_true]
  subst en
  clear hn
  have ed : ([x, y] : List Str).eraseDups = [x, y] := by
    have : (y == x) = false := beq_eq_false_iff_ne.mpr (Ne.symm hne)
    simp [List.eraseDups_cons, this]
  rw [ed]
  show (if [e1, e2].all (foldedForSure 8) = true then _ else _) = _
  rw [if_neg (by intro z; rw [z] at h8; cases h8)]
  show (if [e1, e2].all (constantsAlone 8) = true then _ else _) = _
  rw [if_neg (by intro z; rw [z] at h9; cases h9)]

/-! ### statements -/
/-- an assignment: a comprehension to a local name, or anything else -/
def asgOkX (c : Cst) (tg v : Expr) : Bool := asgOk c tg v || (swT c tg v && decide (c.sc.kind = .function))
mutual
def chkS (c : Cst) : IS → Stmt → Bool
  | .asg t e, s => match s with | .Assign [tg] v _ => asgOkX c tg v && (chkT c t tg && chk c e v) | _ => false
  | .par i j a b, s => match s with | .Assign [.Tuple [.Name x px, .Name y py] _ _] (.Tuple [e1, e2] _ _) _ => parOk c x y px py e1 e2 && (c.slot i x && (c.slot j y && (decide (i ≠ j) && (chk c a e1 && chk c b e2)))) | _ => false
  | .aug i o e, s => match s with | .AugAssign (.Name x _) o' e1 _ => decide (o = o') && (c.slot i x && (c.sto x && chk c e e1)) | _ => false
  | .expr e, s => match s with | .Expr e1 _ => noComp e1 && chk c e e1 | _ => false
  | .ret e, s => match s with | .Return (some e1) _ => chk c e e1 | _ => false
  | .retN, s => match s with | .Return none _ => true | _ => false
  | .ite t a b, s => match s with | .If e1 l1 l2 _ => chk c t e1 && (chkSs c a l1 && chkSs c b l2) | _ => false
  | .forr t it b, s => match s with | .For tg iter l [] _ => noSet iter && (chkI c tg it iter && (chkT c t tg && chkSs c b l)) | _ => false
  | .whl t b, s => match s with | .While e1 l [] _ => chk c t e1 && chkSs c b l | _ => false
  | .pass, s => match s with | .Pass _ => true | _ => false
  | .brk, s => match s with | .Break _ => true | _ => false
  | .cnt, s => match s with | .Continue _ => true | _ => false
  | .dput o i v, s => match s with | .Assign [.Subscript e1 e2 _] e3 _ => noSlice e2 && (chk c o e1 && (chk c i e2 && chk c v e3)) | _ => false
  | .rsort i xs e, s => match s with
    | .Return (some (.Call (.Name x _) [e1] [⟨some kn, .Lambda params body scope _, _⟩, ⟨some rn, .Constant (.bool true) _ _, _⟩] _)) _ =>
      decide (x = "sorted") && (c.is x .free && (decide (kn = "key") && (decide (rn = "reverse") && (plain e1 && (rsortOk c i params scope && (chk c xs e1 && chk (lamCst c (c.N.getD i "") scope) e body))))))
    | _ => false
def chkSs (c : Cst) : ISs → List Stmt → Bool
  | .nil, l => match l with | [] => true | _ => false
  | .cons s ss, l => match l with | s1 :: r => chkS c s s1 && chkSs c ss r | _ => false
end

section
variable {gl : Nat → D} {cf : Nat → List D → M D} {c : Cst} {X : Cx}
theorem swTgt {tg v : Expr} {l : Nat} {env : PySem.Env} (h : ∀ y p, tg ≠ .Name y p) : swapsWith v (some tg) l env = pure false := by
  cases v <;> first | rfl | (cases tg <;> first | rfl | exact absurd rfl (h _ _))
theorem asgOk_ {tg v : Expr} (ok : Ok gl cf c X) {l : Nat} (h : asgOk c tg v = true) : swapsWithSole [tg] v l X.env = pure false ∧ swappedStores [tg] v X.env = pure none ∧ plain tg = true := by
  unfold asgOk at h
  obtain ⟨hk, h⟩ := and2 h
  have hk := of_decide_eq_true hk
  show swapsWith v (some tg) l X.env = pure false ∧ _
  split at h
  · exact ⟨sw_false ok.sc hk h, swapped_none (.inl rfl) (fun _ _ z => by cases z), rfl⟩
  · exact ⟨swap_none h, swapped_none (.inr rfl) (fun _ _ z => by cases z), rfl⟩
  · exact ⟨swTgt (fun _ _ z => by cases z), sw_free ok.sc hk h, rfl⟩
  · exact ⟨swTgt (fun _ _ z => by cases z), swapped_none (.inl h) (fun _ _ z => by cases z), rfl⟩
  · exact ⟨swTgt (fun _ _ z => by cases z), swapped_none (.inr rfl) (fun _ _ z => by cases z), rfl⟩
  · cases h
theorem s_asg (ok : Ok gl cf c X) {t : TG} {e : IE} {tg v : Expr} {pos : Pos} {sl : List Nat} (h : asgOk c tg v = true) (hg : PG X tg (TGd X.K sl (asg gl cf t))) (he : PE X v (TD X.K (ev gl cf e))) : PS X (.Assign [tg] v pos) (TSd X.K (ex gl cf (.asg t e))) := by
  obtain ⟨h1, h2, h3⟩ := asgOk_ ok (l := pos.line) h
  refine PS.of (ps_asg he hg h1 h2 (by rw [asg_each h3]; rfl)) fun D σ H hh => ?_
  obtain ⟨ρ, S, env, w, en, q⟩ := hh
  simp only [ex, wp_bind, wp_pure] at q
  exact ⟨ρ, S, env, w, en, wp_mono q fun d S1 q ρ1 H1 v st1 w1 rv => ⟨ρ1, S1, env, d, w1, en.step w st1, rv, wp_mono q fun env' S2 p ρ2 H2 σ2 st2 w2 en2 _ => p ρ2 H2 (st1.trans st2) w2 σ2 en2⟩⟩
theorem s_asgC (ok : Ok gl cf c X) {t : TG} {e : IE} {tg v : Expr} {pos : Pos} (h : swT c tg v = true) (hk : c.sc.kind = .function) (ht : chkT c t tg = true) (he : chk c e v = true) : PS X (.Assign [tg] v pos) (TSd X.K (ex gl cf (.asg t e))) := by
  unfold swT at h
  split at h
  · rename_i y py elt gs scope vpos
    obtain ⟨h1, h⟩ := and2 h
    obtain ⟨h2, h3⟩ := and2 h
    have h1 := of_decide_eq_true h1
    have hy : X.env.scope.names.lookup y = some .local := by rw [ok.sc]; exact h1
    cases t with
    | nm i =>
      simp only [chkT] at ht
      obtain ⟨hs, _⟩ := and2 ht
      cases e with
      | comp t own it cond elt' =>
        simp only [chk] at he
        split at he
        · rename_i q1 q2 q3 q4 q5 q6 q7 q8
          cases q8
          obtain ⟨g1, he⟩ := and2 he
          obtain ⟨g2, he⟩ := and2 he
          obtain ⟨g3, he⟩ := and2 he
          obtain ⟨g4, he⟩ := and2 he
          obtain ⟨g5, he⟩ := and2 he
          obtain ⟨g6, he⟩ := and2 he
          obtain ⟨g7, he⟩ := and2 he
          obtain ⟨g8, g9⟩ := and2 he
          cases of_decide_eq_true g1
          refine PS.of (ps_setLc (i := i) (own := ownP c own) (g := TGd X.K t.slots (asg gl cf t)) (tt := TB X.K (evc gl cf cond)) (te := TD X.K (ev gl cf elt')) ok.calm ok.nd (ok.slot hs) hy
            (sw_true (by rw [ok.sc]; exact hk) hy h2 (by simpa using h3)) (chkI_ok it c X _ _ ok g6) (by rw [ok.N, ok.sc]; exact blkOk_by g3)
            (fun s H C cl fp => chkT_ok t _ _ _ (ok.blk _ s H C cl fp) g7) (fun s H C cl fp => chkc_ok cond _ _ _ (ok.blk _ s H C cl fp) g8) (fun s H C cl fp => chk_ok elt' _ _ _ (ok.blk _ s H C cl fp) g9) (folded_ok g2)) fun D σ H hh => ?_
          refine r_comp ok (ownP_snd c own) (slots_in g5) (chkI_ok it c X _ _ ok g6) ?_
          obtain ⟨ρ, S, env, w, en, q⟩ := hh
          simp only [ex, asg, wp_bind, wp_pure, wp_need] at q
          exact ⟨ρ, S, env, w, en, wp_mono q fun d S1 q ρ1 H1 v st1 w1 rv => q.2 ρ1 H1 st1 w1 _ ((en.step w st1).set rv)⟩
        · cases he
      | dcomp k t own cond elt' =>
        simp only [chk] at he
        split at he
        · rename_i q1 q2 q3 q4 q5 q6 q7 q8 q9
          cases q9
          obtain ⟨g1, he⟩ := and2 he
          obtain ⟨g2, he⟩ := and2 he
          obtain ⟨g3, he⟩ := and2 he
          obtain ⟨g4, he⟩ := and2 he
          obtain ⟨g5, he⟩ := and2 he
          obtain ⟨g7, he⟩ := and2 he
          obtain ⟨g8, g9⟩ := and2 he
          cases of_decide_eq_true g1
          obtain ⟨s1, s2⟩ := and2 g2
          obtain ⟨s2, s3⟩ := and2 s2
          obtain ⟨n1, n2, n3⟩ := nmOk_ s3
          refine PS.of (ps_lock (ps_setLc (i := i) (own := ownP c own) (g := TGd X.K t.slots (asg gl cf t)) (tt := TB X.K (evc gl cf cond)) (te := TD X.K (ev gl cf elt')) ok.calm ok.nd (ok.slot hs) hy
            (sw_true (by rw [ok.sc]; exact hk) hy h2 (by simpa using h3)) (pi_keys (pe_var (ok.slot s1) (ok.vis s2) n1 n2)) (by rw [ok.N, ok.sc]; exact blkOk_by g3)
            (fun s H C cl fp => chkT_ok t _ _ _ (ok.blk _ s H C cl fp) g7) (fun s H C cl fp => chkc_ok cond _ _ _ (ok.blk _ s H C cl fp) g8) (fun s H C cl fp => chk_ok elt' _ _ _ (ok.blk _ s H C cl fp) g9) (fun _ => rfl))) fun D σ H hh => ?_
          rw [ownP_snd]
          refine dcomp_core (Q := fun v H' => D.nx (σ.set i (some v)) H') (slots_in g5) ?_
          obtain ⟨ρ, S, env, w, en, q⟩ := hh
          simp only [ex, asg, wp_bind, wp_pure, wp_need] at q
          exact ⟨ρ, S, env, w, en, wp_mono q fun d S1 q ρ1 H1 v st1 w1 rv => q.2 ρ1 H1 st1 w1 _ ((en.step w st1).set rv)⟩
        · cases he
      | _ => simp only [chk] at he; cases he
    | _ => simp only [chkT] at ht; cases ht
  · cases h
theorem s_par (ok : Ok gl cf c X) {i j : Nat} {a b : IE} {x y : Str} {px py p p2 pos : Pos} {k k2 : Nat} {e1 e2 : Expr} (h : parOk c x y px py e1 e2 = true) (hi : c.slot i x = true) (hj : c.slot j y = true) (hij : i ≠ j) (h1 : PE X e1 (TD X.K (ev gl cf a))) (h2 : PE X e2 (TD X.K (ev gl cf b))) :
    PS X (.Assign [.Tuple [.Name x px, .Name y py] k p] (.Tuple [e1, e2] k2 p2) pos) (TSd X.K (ex gl cf (.par i j a b))) := by
  have hw := par_sw (k := k) (k2 := k2) (p := p) (p2 := p2) ok.sc h
  unfold parOk at h
  obtain ⟨g1, h⟩ := and2 h
  obtain ⟨g2, h⟩ := and2 h
  obtain ⟨g3, h⟩ := and2 h
  obtain ⟨g4, h⟩ := and2 h
  obtain ⟨g5, h⟩ := and2 h
  obtain ⟨g6, h⟩ := and2 h
  obtain ⟨g7, h⟩ := and2 h
  refine PS.of (ps_par ok.calm ok.nd (ok.slot hi) (ok.slot hj) hij (by rw [ok.sc]; exact of_decide_eq_true g2) (by rw [ok.sc]; exact of_decide_eq_true g3) (pa_cons h1 (pa_cons h2 pa_nil (star_plain g7)) (star_plain g6)) hw) fun D σ H hh => ?_
  obtain ⟨ρ, S, env, w, en, q⟩ := hh
  simp only [ex, wp_bind, wp_pure, wp_need] at q
  refine ⟨ρ, S, env, w, en, wp_mono q fun d S1 q ρ1 H1 v st1 w1 rv => ⟨ρ1, S1, env, w1, en.step w st1, wp_mono q fun d2 S2 q ρ2 H2 v2 st2 w2 rv2 => ?_⟩⟩
  exact ⟨v, v2, rfl, q.2 ρ2 H2 (st1.trans st2) w2 _ ((((en.step w st1).step w1 st2).set (rv.step w1 st2)).set rv2)⟩
def rAugD (K : PySem.W.Frag) (o : Operator) : TIp := fun v u H Q => ∃ ρ S x y, WS K ρ S H ∧ Rep K ρ H v x ∧ Rep K ρ H u y ∧ augOk o x y = true ∧ wp (bop o x y) (Post K ρ H Q) S
theorem aug_ok (o : Operator) : PIp X o (rAugD X.K o) := by
  intro pins s σ H v u vv uu Q I rv ru h
  obtain ⟨ρ, S, x, y, w, rx, ry, ha, h⟩ := h
  unfold augOk at ha
  split at ha
  · cases rx.int_; cases ry.int_
    exact ip_add pins s σ H _ _ _ _ Q I rv ru ⟨_, _, rfl, rfl, Post.int w h⟩
  · cases rx.int_; cases ry.int_
    exact ip_sub pins s σ H _ _ _ _ Q I rv ru ⟨_, _, rfl, rfl, Post.int w h⟩
  · cases ha
theorem s_aug (ok : Ok gl cf c X) {i : Nat} {o : Operator} {e : IE} {x : Str} {p pos : Pos} {e1 : Expr} (hi : c.slot i x = true) (hs : c.sto x = true) (h1 : PE X e1 (TD X.K (ev gl cf e))) : PS X (.AugAssign (.Name x p) o e1 pos) (TSd X.K (ex gl cf (.aug i o e))) := by
  obtain ⟨l1, l2⟩ := ok.loc hs
  refine PS.of (ps_aug ok.nd (ok.slot hi) l1 h1 (aug_ok o) l2) fun D σ H hh => ?_
  obtain ⟨ρ, S, env, w, en, q⟩ := hh
  simp only [ex] at q
  split at q
  · rename_i x hx
    obtain ⟨v, hv, rv⟩ := en.at_ i x hx
    simp only [wp_bind, wp_need, wp_pure] at q
    refine ⟨v, hv, ρ, S, env, w, en, wp_mono q fun y S1 q ρ1 H1 u st1 w1 ru => ?_⟩
    refine ⟨ρ1, S1, x, y, w1, rv.step w st1, ru, q.1, wp_mono q.2 fun z S2 q ρ2 H2 t st2 w2 rt => ?_⟩
    exact q ρ2 H2 (st1.trans st2) w2 _ ((((en.step w st1).step w1 st2)).set rt)
  · exact q.elim
theorem s_for (ok : Ok gl cf c X) {t : TG} {it : II} {b : ISs} {tg iter : Expr} {l : List Stmt} {pos : Pos} {sl : List Nat} (hn : noSet iter = true) (hi : PI X tg iter (TIs X.K (evi gl cf it))) (hg : PG X tg (TGd X.K sl (asg gl cf t))) (hb : PSs X l (TSd X.K (exs gl cf b))) :
    PS X (.For tg iter l [] pos) (TSd X.K (ex gl cf (.forr t it b))) := by
  refine PS.of (ps_for (by rw [ok.xe]; exact PassesOwn.never) ok.calm hi hg hb (folded_ok hn)) fun D σ H hh => ?_
  obtain ⟨ρ, S, env, w, en, h⟩ := hh
  simp only [ex, wp_bind] at h
  refine ⟨ρ, S, env, w, en, wp_mono h fun s S1 h ρ1 H1 J st1 w1 src => ?_⟩
  have en1 := en.step w st1
  refine ⟨fun i m σ' H' => ∃ ρ' S' env', WS X.K ρ' S' H' ∧ EnvR X.K ρ' H' σ' env' ∧ Step ρ1 H1 ρ' H' ∧ m = s.items.length - i ∧
    wp (forL s (fun d e => do let e1 ← asg gl cf t d e; exs gl cf b e1) (s.items.drop i) env') (PostF X.K ρ H D) S', ⟨_, ρ1, S1, env, w1, en1, .refl, rfl, ?_⟩, ?_⟩
  · rw [List.drop_zero]
    exact h
  rintro i m σ2 H2 ⟨ρ2, S2, env2, w2, en2, st2, rfl, h⟩
  cases hd : s.items.drop i with
  | nil =>
    rw [hd] at h
    simp only [forL, wp_bind, wp_pure] at h
    obtain ⟨gd, h⟩ := grd_wp h
    exact .inl ⟨(src i ρ2 S2 H2 st2 w2 gd).2 (List.drop_eq_nil_iff.mp hd), h ρ2 H2 (st1.trans st2) w2 σ2 en2⟩
  | cons d ds =>
    rw [hd] at h
    obtain ⟨hid, hdr⟩ := drop_cons hd
    have hil : i < s.items.length := (List.getElem?_eq_some_iff.mp hid).1
    simp only [forL, wp_bind] at h
    obtain ⟨gd, h⟩ := grd_wp h
    obtain ⟨go, yl⟩ := (src i ρ2 S2 H2 st2 w2 gd).1 d hid
    refine .inr ⟨go, fun σ' H' => ∃ ρ' S' env', WS X.K ρ' S' H' ∧ EnvR X.K ρ' H' σ' env' ∧ Step ρ1 H1 ρ' H' ∧
      wp (forL s (fun d e => do let e1 ← asg gl cf t d e; exs gl cf b e1) (s.items.drop (i + 1)) env') (PostF X.K ρ H D) S', fun σ' H' hN => ?_, fun x H3 hy => ?_⟩
    · obtain ⟨ρ', S', env', a1, a2, a3, a4⟩ := hN
      exact ⟨s.items.length - (i + 1), by omega, ρ', S', env', a1, a2, a3, rfl, a4⟩
    · rw [hdr]
      obtain ⟨sty, wy, rx⟩ := yl x H3 hy
      refine ⟨ρ2, S2, env2, d, wy, en2.step w2 sty, rx, wp_mono h fun e1 S3 h ρ3 H4 σ3 st4 w4 en4 _ => ?_⟩
      have k4 : Step ρ1 H1 ρ3 H4 := (st2.trans sty).trans st4
      refine ⟨ρ3, S3, e1, w4, en4, wp_mono h fun r S4 h ρ4 H5 st5 w5 => ?_⟩
      obtain ⟨fl, e2⟩ := r
      cases fl with
      | nx => exact fun σ' en' => ⟨ρ4, S4, e2, w5, en', k4.trans st5, h⟩
      | ct => exact fun σ' en' => ⟨ρ4, S4, e2, w5, en', k4.trans st5, h⟩
      | bk => exact fun σ' en' => h ρ4 H5 ((st1.trans k4).trans st5) w5 σ' en'
      | rt v => exact fun u ru => h ρ4 H5 ((st1.trans k4).trans st5) w5 u ru
theorem s_whl (ok : Ok gl cf c X) {t : IE} {b : ISs} {e1 : Expr} {l : List Stmt} {pos : Pos} (h1 : PT X e1 (TB X.K (tst gl cf t))) (hb : PSs X l (TSd X.K (exs gl cf b))) : PS X (.While e1 l [] pos) (TSd X.K (ex gl cf (.whl t b))) := by
  refine PS.of (ps_while (by rw [ok.xe]; exact PassesOwn.never) h1 hb) fun D σ H hh => ?_
  obtain ⟨ρ, S, env, w, en, h⟩ := hh
  simp only [ex] at h
  refine ⟨fun m σ' H' => ∃ ρ' S' env', WS X.K ρ' S' H' ∧ EnvR X.K ρ' H' σ' env' ∧ Step ρ H ρ' H' ∧ wp (whlL (fun e => tst gl cf t e) (fun e => exs gl cf b e) m env') (PostF X.K ρ H D) S', ⟨bigN, ρ, S, env, w, en, .refl, h⟩, ?_⟩
  rintro m σ1 H1 ⟨ρ1, S1, env1, w1, en1, st1, h⟩
  cases m with
  | zero => exact h.elim
  | succ m =>
    simp only [whlL, wp_bind] at h
    refine ⟨ρ1, S1, env1, w1, en1, wp_mono h fun k S2 h ρ2 H2 st2 w2 => ?_⟩
    have en2 := en1.step w1 st2
    cases k with
    | true =>
      simp only [if_true, wp_bind] at h ⊢
      refine ⟨fun σ' H' => ∃ ρ' S' env', WS X.K ρ' S' H' ∧ EnvR X.K ρ' H' σ' env' ∧ Step ρ H ρ' H' ∧ wp (whlL (fun e => tst gl cf t e) (fun e => exs gl cf b e) m env') (PostF X.K ρ H D) S', fun σ' H' hN => ⟨m, Nat.lt_succ_self m, hN⟩, ?_⟩
      refine ⟨ρ2, S2, env1, w2, en2, wp_mono h fun r S3 h ρ3 H3 st3 w3 => ?_⟩
      obtain ⟨fl, e2⟩ := r
      have k3 := (st1.trans st2).trans st3
      cases fl with
      | nx => exact fun σ' en' => ⟨ρ3, S3, e2, w3, en', k3, h⟩
      | ct => exact fun σ' en' => ⟨ρ3, S3, e2, w3, en', k3, h⟩
      | bk => exact fun σ' en' => h ρ3 H3 k3 w3 σ' en'
      | rt v => exact fun u ru => h ρ3 H3 k3 w3 u ru
    | false =>
      simp only [Bool.false_eq_true, if_false, wp_pure] at h ⊢
      exact h ρ2 H2 (st1.trans st2) w2 σ1 en2
mutual
theorem chkS_ok (ok : Ok gl cf c X) : ∀ (s : IS) (st : Stmt), chkS c s st = true → PS X st (TSd X.K (ex gl cf s))
  | .asg t e, st, h => by
    simp only [chkS] at h
    split at h
    · obtain ⟨h1, h⟩ := and2 h
      obtain ⟨h2, h3⟩ := and2 h
      rcases Bool.or_eq_true_iff.mp h1 with h1 | h1
      · exact s_asg ok h1 (chkT_ok t c X _ ok h2) (chk_ok e c X _ ok h3)
      · obtain ⟨g1, g2⟩ := and2 h1
        exact s_asgC ok g1 (of_decide_eq_true g2) h2 h3
    · cases h
  | .par i j a b, st, h => by
    simp only [chkS] at h
    split at h
    · obtain ⟨h1, h⟩ := and2 h
      obtain ⟨h2, h⟩ := and2 h
      obtain ⟨h3, h⟩ := and2 h
      obtain ⟨h4, h⟩ := and2 h
      obtain ⟨h5, h6⟩ := and2 h
      exact s_par ok h1 h2 h3 (of_decide_eq_true h4) (chk_ok a c X _ ok h5) (chk_ok b c X _ ok h6)
    · cases h
  | .aug i o e, st, h => by
    simp only [chkS] at h
    split at h
    · obtain ⟨h1, h⟩ := and2 h
      obtain ⟨h2, h⟩ := and2 h
      obtain ⟨h3, h4⟩ := and2 h
      cases of_decide_eq_true h1
      exact s_aug ok h2 h3 (chk_ok e c X _ ok h4)
    · cases h
  | .expr e, st, h => by
    simp only [chkS] at h
    split at h
    · obtain ⟨h1, h2⟩ := and2 h
      refine PS.of (ps_expr (chk_ok e c X _ ok h2) (swap_none h1)) fun D σ H hh => ?_
      obtain ⟨ρ, S, env, w, en, q⟩ := hh
      simp only [ex, wp_bind, wp_pure] at q
      exact ⟨ρ, S, env, w, en, wp_mono q fun d S1 q ρ1 H1 v st1 w1 rv => q ρ1 H1 st1 w1 σ (en.step w st1)⟩
    · cases h
  | .ret e, st, h => by
    simp only [chkS] at h
    split at h
    · refine PS.of (ps_ret (chk_ok e c X _ ok h)) fun D σ H hh => ?_
      obtain ⟨ρ, S, env, w, en, q⟩ := hh
      simp only [ex, wp_bind, wp_pure] at q
      exact ⟨ρ, S, env, w, en, wp_mono q fun d S1 q ρ1 H1 v st1 w1 rv => q ρ1 H1 st1 w1 v rv⟩
    · cases h
  | .retN, st, h => by
    simp only [chkS] at h
    split at h
    · refine PS.of ps_retN fun D σ H hh => ?_
      obtain ⟨ρ, S, env, w, en, q⟩ := hh
      exact q ρ H .refl w _ .non
    · cases h
  | .ite t a b, st, h => by
    simp only [chkS] at h
    split at h
    · obtain ⟨h1, h⟩ := and2 h
      obtain ⟨h2, h3⟩ := and2 h
      refine PS.of (ps_if (tst_ok t c X _ ok h1).1 (chkSs_ok ok a _ h2) (chkSs_ok ok b _ h3)) fun D σ H hh => ?_
      obtain ⟨ρ, S, env, w, en, q⟩ := hh
      simp only [ex, wp_bind] at q
      refine ⟨ρ, S, env, w, en, wp_mono q fun k S1 q ρ1 H1 st1 w1 => ?_⟩
      cases k with
      | true =>
        simp only [if_true] at q ⊢
        exact ⟨ρ1, S1, env, w1, en.step w st1, wp_mono q fun r S2 p => p.step st1⟩
      | false =>
        simp only [Bool.false_eq_true, if_false] at q ⊢
        exact ⟨ρ1, S1, env, w1, en.step w st1, wp_mono q fun r S2 p => p.step st1⟩
    · cases h
  | .forr t it b, st, h => by
    simp only [chkS] at h
    split at h
    · obtain ⟨h1, h⟩ := and2 h
      obtain ⟨h2, h⟩ := and2 h
      obtain ⟨h3, h4⟩ := and2 h
      exact s_for ok h1 (chkI_ok it c X _ _ ok h2) (chkT_ok t c X _ ok h3) (chkSs_ok ok b _ h4)
    · cases h
  | .whl t b, st, h => by
    simp only [chkS] at h
    split at h
    · obtain ⟨h1, h2⟩ := and2 h
      exact s_whl ok (tst_ok t c X _ ok h1).1 (chkSs_ok ok b _ h2)
    · cases h
  | .pass, st, h => by
    simp only [chkS] at h
    split at h
    · refine PS.of ps_pass fun D σ H hh => ?_
      obtain ⟨ρ, S, env, w, en, q⟩ := hh
      exact q ρ H .refl w σ en
    · cases h
  | .brk, st, h => by
    simp only [chkS] at h
    split at h
    · refine PS.of ps_break fun D σ H hh => ?_
      obtain ⟨ρ, S, env, w, en, q⟩ := hh
      exact q ρ H .refl w σ en
    · cases h
  | .cnt, st, h => by
    simp only [chkS] at h
    split at h
    · refine PS.of ps_continue fun D σ H hh => ?_
      obtain ⟨ρ, S, env, w, en, q⟩ := hh
      exact q ρ H .refl w σ en
    · cases h
  | .dput o i v, st, h => by
    simp only [chkS] at h
    split at h
    · obtain ⟨h1, h⟩ := and2 h
      obtain ⟨h2, h⟩ := and2 h
      obtain ⟨h3, h4⟩ := and2 h
      refine PS.of (ps_dput (by have := ok.un; omega) (chk_ok o c X _ ok h2) (chk_ok i c X _ ok h3) (chk_ok v c X _ ok h4) (swTgt (fun _ _ z => by cases z))) fun D σ H hh => ?_
      obtain ⟨ρ, S, env, w, en, q⟩ := hh
      simp only [ex, wp_bind, wp_pure] at q
      refine ⟨ρ, S, env, w, en, wp_mono q fun z S1 q ρ1 H1 t st1 w1 rz => ⟨ρ1, S1, env, w1, en.step w st1, wp_mono q fun x S2 q ρ2 H2 v st2 w2 rx => ⟨ρ2, S2, env, w2, (en.step w st1).step w1 st2, wp_mono q fun y S3 q ρ3 H3 u st3 w3 ry => ?_⟩⟩⟩
      obtain ⟨a, H4, S4, e, g, st4, w4, q⟩ := dput_ok w3 (rx.step w2 st3) ry ((rz.step w1 st2).step w2 st3) q
      have st := ((st1.trans st2).trans st3).trans st4
      exact ⟨a, H4, e, g, q ρ3 H4 st w4 σ (((((en.step w st1).step w1 st2).step w2 st3)).step w3 st4)⟩
    · cases h
  | .rsort i xs e, st, h => by
    simp only [chkS] at h
    split at h
    · obtain ⟨h1, h⟩ := and2 h
      obtain ⟨h2, h⟩ := and2 h
      obtain ⟨h3, h⟩ := and2 h
      obtain ⟨h4, h⟩ := and2 h
      obtain ⟨h5, h⟩ := and2 h
      obtain ⟨h6, h⟩ := and2 h
      obtain ⟨h7, h8⟩ := and2 h
      cases of_decide_eq_true h1
      cases of_decide_eq_true h3
      cases of_decide_eq_true h4
      exact s_rsort ok h2 h6 h5 (chk_ok xs c X _ ok h7) h8
    · cases h
theorem chkSs_ok (ok : Ok gl cf c X) : ∀ (s : ISs) (st : List Stmt), chkSs c s st = true → PSs X st (TSd X.K (exs gl cf s))
  | .nil, st, h => by
    simp only [chkSs] at h
    split at h
    · refine PSs.of pss_nil fun D σ H hh => ?_
      obtain ⟨ρ, S, env, w, en, q⟩ := hh
      exact q ρ H .refl w σ en
    · cases h
  | .cons s ss, st, h => by
    simp only [chkSs] at h
    split at h
    · obtain ⟨h1, h2⟩ := and2 h
      refine PSs.of (pss_cons (chkS_ok ok s _ h1) (chkSs_ok ok ss _ h2)) fun D σ H hh => ?_
      obtain ⟨ρ, S, env, w, en, q⟩ := hh
      simp only [exs, wp_bind] at q
      refine ⟨ρ, S, env, w, en, wp_mono q fun r S1 q ρ1 H1 st1 w1 => ?_⟩
      obtain ⟨fl, e2⟩ := r
      cases fl with
      | nx => exact fun σ' en' => ⟨ρ1, S1, e2, w1, en', wp_mono q fun r S2 p => p.step st1⟩
      | ct => exact fun σ' en' => q ρ1 H1 st1 w1 σ' en'
      | bk => exact fun σ' en' => q ρ1 H1 st1 w1 σ' en'
      | rt v => exact fun u ru => q ρ1 H1 st1 w1 u ru
    · cases h
end
end
end Dl
end

section
set_option Elab.async false
set_option linter.all false
set_option maxRecDepth 100000
set_option maxHeartbeats 2000000
/-! Dl: defs, the program, the law -/
namespace Dl
open PySem PySem.Spec PyProof.Rows L2
/-- one def of the text with its term: its slots, its term -/
structure Pd where
  d : He.DefD
  N : List Str
  fd : Fd
def Pd.ps (p : Pd) : List Str := p.N.take p.fd.np
def Pd.cst (G : List (Str × GI)) (p : Pd) : Cst := ⟨p.N, p.d.scope, fun _ => true, G, decide (p.d.at_ = (lamName, none)) && decide (p.d.qual = lamName), 3⟩
def nodupB : List Str → Bool
  | [] => true
  | x :: xs => !xs.contains x && nodupB xs
theorem nodupB_ok : ∀ {l : List Str}, nodupB l = true → l.Nodup
  | [], _ => List.nodup_nil
  | x :: xs, h => by
    obtain ⟨h1, h2⟩ := and2 (show (!xs.contains x && nodupB xs) = true from h)
    exact List.nodup_cons.mpr ⟨by simpa using h1, nodupB_ok h2⟩
def Pd.ok (G : List (Str × GI)) (p : Pd) : Bool :=
  decide (p.d.scope.kind = .function) && (decide (p.d.scope.isCoroutine = false) && (decide (p.d.scope.isGenerator = false) && (nodupB p.N && (decide (p.fd.np ≤ p.N.length) && (decide (p.N.length = p.fd.nl) &&
    ((p.ps.all fun x => decide (p.d.scope.names.lookup x = some .local) || decide (p.d.scope.names.lookup x = some .cell)) && ((p.d.scope.names.all fun y => decide (y.2 ≠ .free)) && (p.d.dfl.isEmpty && (p.d.kwd.isEmpty && chkSs (p.cst G) p.fd.body p.d.body)))))))))
theorem start_env {K : PySem.W.Frag} {ρ : List Addr} {H : Hp} {N : List Str} {nl : Nat} {vs : List V} {ds : List D} (hN : N.length = nl) (r : Reps K ρ H vs ds) : EnvR K ρ H (L2.start N vs) (startE nl ds) := by
  unfold L2.start startE
  refine ⟨by rw [List.length_append, List.length_append, List.length_map, List.length_map, List.length_replicate, List.length_replicate, r.length, hN], fun i d h => ?_⟩
  by_cases hi : i < ds.length
  · rw [List.getElem?_append_left (by simpa using hi), List.getElem?_map] at h
    cases e : ds[i]? with
    | none => rw [e] at h; cases h
    | some d' =>
      rw [e] at h
      cases h
      obtain ⟨v, e1, rv⟩ := r.get e
      refine ⟨v, ?_, rv⟩
      rw [List.getElem?_append_left (by rw [List.length_map, r.length]; exact hi), List.getElem?_map, e1]
      rfl
  · rw [List.getElem?_append_right (by simpa using hi), List.getElem?_replicate] at h
    split at h <;> cases h
section
variable {P : Program} {w : World} {K : PySem.W.Frag} {mg : Str → Option Value} {base : Heap} {gl : Nat → D} {G : List (Str × GI)}
/-- the code object of the def that makes the lambda -/
def lamCode (K : PySem.W.Frag) : Option Value := match K.lookup (He.fAd K (lamName, none)) with
  | some ⟨_, _, .func fd, _⟩ => some fd.code
  | _ => none
theorem tabAd_of {K : PySem.W.Frag} {cdv : Value} (h : lamCode K = some cdv) : tabAd K = codeTab K cdv := by
  unfold lamCode at h
  unfold tabAd
  split at h
  · rename_i e
    cases h
    first
    | rfl
    | rw [e]
  · cases h
theorem okc {K : PySem.W.Frag} {x qual : Str} {params : Arguments} {body : List Stmt} {scope : Scope} {dvs : List V} {kws : List (Str × V)} {f : Addr} {fd : FuncData} {P : Program} {w : World} {mg : Str → Option Value} {base : Heap} {CX : CXT} {N ps : List Str} {k : Nat} {sp : Sp} (F : FunD K x qual params body scope dvs kws f fd) (S : FnScope N ps scope) (len : ∀ vs H Q E, sp vs H Q E → vs.length = ps.length)
    (hbody : ∀ (cdv : Value) (A : Around) (outer : List Env) (s : Shared) (H : Hp) (vs : List V) (Q : VK) (E : XK), (f = He.fAd K (lamName, none) → lamCode K = some cdv) → Room k (A.deeper (envOfC qual scope s.heap.objs.size f cdv)) → sp vs H Q E →
      ∃ t, PSs (cxOf CX P w K mg base N qual scope f cdv A outer s H E) body t ∧ t { nx := fun _ H' => Q .non H', rt := Q } (start N vs) H) : FnOk P w K mg base CX (k + 1) f fd ps sp := by
  obtain ⟨oc, od, dV, kV, doc, pm, an, cdv, ct, osl, rfl, lk, hcd, _, _⟩ := F.ex
  exact fn_of lk hcd S len fun A outer s H vs Q E hr hsp => hbody cdv A outer s H vs Q E (fun e => by
    unfold lamCode
    rw [← e, lk]) hr hsp
/-- the module's names -/
def GlOk (K : PySem.W.Frag) (mg : Str → Option Value) (gl : Nat → D) (ps : List Pd) (G : List (Str × GI)) : Prop := ∀ x g, G.lookup x = some g → match g with
  | .free => mg x = none
  | .bt id => mg x = some (.builtin id)
  | .cst g => ∃ u v, mg x = some u ∧ RelV v u ∧ ∀ ρ H, Rep K ρ H v (gl g)
  | .fn i => ∃ p, ps[i]? = some p ∧ mg x = some (.ref (He.fAd K p.d.at_))
  | .other => True
theorem fns_ok {ps : List Pd} {fds : Nat → FuncData} (hTab : ∀ cdv, lamCode K = some cdv → ∃ cc P, cdv = .ref cc ∧ codeTab K cdv = some P ∧ LamX.TabB base mg cc P) (hG : GlOk K mg gl ps G) (hok : ∀ p ∈ ps, p.ok G = true)
    (hF : ∀ (i : Nat) (p : Pd), ps[i]? = some p → FunD K p.d.name p.d.qual p.d.params p.d.body p.d.scope (p.d.dvs K) (p.d.kws K) (He.fAd K p.d.at_) (fds i))
    (hB : ∀ (i : Nat) (p : Pd), ps[i]? = some p → Binds K (fds i) p.ps []) :
    ∀ (n i : Nat) (p : Pd), ps[i]? = some p → FnOk P w K mg base CX0 (4 * n) (He.fAd K p.d.at_) (fds i) p.ps (spD K (call gl (ps.map (·.fd)) n i))
  | 0, i, p, hp => ⟨fun vs H Q E h => by obtain ⟨ρ, S, ds, _, _, q⟩ := h; exact q.elim, fun A outer s H args us vs Q E hr he hb hv hs => by obtain ⟨ρ, S, ds, _, _, q⟩ := hs; exact q.elim⟩
  | n + 1, i, p, hp => by
    have hk := hok p (List.mem_of_getElem? hp)
    unfold Pd.ok at hk
    obtain ⟨k1, hk⟩ := and2 hk
    obtain ⟨k2, hk⟩ := and2 hk
    obtain ⟨k3, hk⟩ := and2 hk
    obtain ⟨k4, hk⟩ := and2 hk
    obtain ⟨k5, hk⟩ := and2 hk
    obtain ⟨k6, hk⟩ := and2 hk
    obtain ⟨k7, hk⟩ := and2 hk
    obtain ⟨k8, hk⟩ := and2 hk
    obtain ⟨k9, hk⟩ := and2 hk
    obtain ⟨k10, k11⟩ := and2 hk
    have k1 := of_decide_eq_true k1
    have k5 := of_decide_eq_true k5
    have k6 := of_decide_eq_true k6
    have hpl : p.ps.length = p.fd.np := by unfold Pd.ps; rw [List.length_take]; omega
    have hfs : (ps.map (·.fd))[i]? = some p.fd := by rw [List.getElem?_map, hp]; rfl
    have S : FnScope p.N p.ps p.d.scope := {
      kind := k1
      co := of_decide_eq_true k2
      gen := of_decide_eq_true k3
      nd := nodupB_ok k4
      pre := by rw [hpl]; rfl
      par := fun x hx => by
        have := List.all_eq_true.mp k7 x hx
        rcases Bool.or_eq_true_iff.mp this with q | q
        · exact .inl (of_decide_eq_true q)
        · exact .inr (of_decide_eq_true q)
      nofree := fun y hy => of_decide_eq_true (List.all_eq_true.mp k8 y hy) }
    have run : ∀ {ds : List D} {R : D → Store → Prop} {St : Store}, wp (call gl (ps.map (·.fd)) (n + 1) i ds) R St → ds.length = p.fd.np ∧ wp (exs gl (call gl (ps.map (·.fd)) n) p.fd.body (startE p.fd.nl ds)) (fun r S' => wp (ofFl r) R S') St := fun {ds R St} h => by
      unfold call at h
      rw [hfs] at h
      dsimp only at h
      by_cases hl : ds.length = p.fd.np
      · rw [if_pos hl, wp_bind] at h
        exact ⟨hl, h⟩
      · rw [if_neg hl] at h
        exact h.elim
    refine okc (k := 4 * n + 3) (hF i p hp) S (fun vs H Q E h => ?_) fun cdv A outer s H vs Q E hcdv hr h => ⟨TSd K (exs gl (call gl (ps.map (·.fd)) n) p.fd.body), PSs.nox ?_, ?_⟩
    · obtain ⟨ρ, S, ds, w', r, q⟩ := h
      rw [r.length, (run q).1, hpl]
    · refine chkSs_ok (c := p.cst G) (X := (cxOf CX0 P w K mg base p.N p.d.qual p.d.scope (He.fAd K p.d.at_) cdv A outer s H E).nox) ?_ _ _ k11
      refine ⟨rfl, S.nd, rfl, fun _ _ => rfl, rfl, rfl, ?_, fun x g hx => ?_, fun hl => ?_⟩
      · have := hr.un
        show (A.deeper _).units + 65 < cLine
        omega
      · have q := hG x g hx
        cases g with
        | free => exact q
        | bt id => exact q
        | cst g => exact q
        | other => trivial
        | fn j =>
          obtain ⟨p', e1, e2⟩ := q
          exact ⟨_, fds j, p'.ps, 4 * n, e2, (hF j p' e1).kp, hB j p' e1, hr, fns_ok hTab hG hok hF hB n j p' e1⟩
      · obtain ⟨l1, l2⟩ := and2 hl
        obtain ⟨cc, P, rfl, h2, h3⟩ := hTab cdv (hcdv (by rw [of_decide_eq_true l1]))
        refine ⟨cc, P, rfl, (tabAd_of (hcdv (by rw [of_decide_eq_true l1]))).trans h2, h3, ?_, hr.mono (by omega)⟩
        show (p.d.qual ++ ".<locals>.") ++ "<lambda>" = lamQ
        rw [of_decide_eq_true l2]
        rfl
    · obtain ⟨ρ, St, ds, w', r, q⟩ := h
      obtain ⟨hl, q⟩ := run q
      refine ⟨ρ, St, _, w', start_env k6 r, wp_mono q fun f S' q ρ' H' st w2 => ?_⟩
      obtain ⟨fl, e⟩ := f
      cases fl with
      | nx => exact fun σ' _ => q ρ' H' _ st w2 .non
      | rt d => exact fun v rv => q ρ' H' v st w2 rv
      | bk => exact q.elim
      | ct => exact q.elim
end
/-! ### the law -/
theorem ws_nil {K : PySem.W.Frag} {H : Hp} (ht : ∀ P, tabAd K = some P → H P = some (.tbl #[])) : WS K [] [] H := ⟨List.nodup_nil, rfl, fun i a o h => by simp at h, fun P hP => LamX.TabS.nil (ht P hP)⟩
/-- the law's own run in data gives True -/
def LawRuns (gl : Nat → D) (fs : List Fd) (k li : Nat) : Prop := ∀ ns : List Int, ns.length ≤ 63 → wp (call gl fs k li [.ro (ns.map .int)]) (fun d _ => d = .bl true) []
theorem law_sp {K : PySem.W.Frag} {gl : Nat → D} {fs : List Fd} {k li : Nat} (h : LawRuns gl fs k li) (H : Hp) (a : Addr) (ns : List Int) (hl : ns.length ≤ 63) (ht : ∀ P, tabAd K = some P → H P = some (.tbl #[])) (hs : SqF K H a (ns.map V.int)) :
    spD K (call gl fs k li) [.ref a] H (fun v _ => v = .bl true) fun _ _ _ => False := by
  refine ⟨[], [], [.ro (ns.map .int)], ws_nil ht, .cons (.ro hs (Reps.ofInts ns)) .nil, wp_mono (h ns hl) fun d S q ρ' H' v st w r => ?_⟩
  subst q
  cases r
  rfl
/-- a list that nobody else writes may be frozen at a call -/
def frzSp (sp : Sp) : Sp := fun vs H Q E => sp vs H Q E ∨ ∃ a xs, H a = some (.lst xs) ∧ ∀ od, sp vs (upd H a (.frz od (.lst xs))) Q E
theorem FnOk.freeze {P : Program} {w : World} {K : PySem.W.Frag} {mg : Str → Option Value} {base : Heap} {k : Nat} {f : Addr} {fd : FuncData} {ps : List Str} {sp : Sp} (F : FnOk P w K mg base CX0 k f fd ps sp) : FnOk P w K mg base CX0 k f fd ps (frzSp sp) := by
  refine ⟨fun vs H Q E h => ?_, fun A outer s H args us vs Q E hr e0 hb r h => ?_⟩
  · rcases h with h | ⟨a, xs, _, h⟩
    · exact F.len vs H Q E h
    · exact F.len vs _ Q E (h ⟨.none, none, .plain, #[]⟩)
  · rcases h with h | ⟨a, xs, ha, h⟩
    · exact F.run A outer s H args us vs Q E hr e0 hb r h
    · obtain ⟨hz, its, n, rv, ho⟩ := e0.hok a _ ha
      generalize hod : ({ cls := .type "list", data := .seq its.toArray n } : Obj) = od at ho
      have ne : ∀ b u, H b = some u → (∀ xs, u ≠ .lst xs) → b ≠ a := fun b u e n z => by rw [z, ha] at e; exact n _ (Option.some.inj e).symm
      have nN : ∀ b, H b = none → b ≠ a := fun b e z => by rw [z, ha] at e; cases e
      have e1 : Env0 P w K mg base A outer s (upd H a (.frz od (.lst xs))) := by
        refine ⟨e0.frames, e0.mod, fun b o e => ⟨(e0.bs b o e).1, ?_⟩, e0.bsz, e0.funs, fun b hb' => ?_, fun b u e => ?_, e0.bare⟩
        · rw [upd_ne (nN b (e0.bs b o e).2)]; exact (e0.bs b o e).2
        · rw [upd_ne (nN b (e0.frf b hb'))]; exact e0.frf b hb'
        · have st : ∀ c u, H c = some u → ObjOk P w H s.heap c u → ObjOk P w (upd H a (.frz od (.lst xs))) s.heap c u := fun c u _ x =>
            x.stay (fun b v _ q => q) (fun b q => by rw [upd_ne (ne b _ q (fun _ z => nomatch z))]; exact q) fun b xs q => by rw [upd_ne (ne b _ q (fun _ z => nomatch z))]; exact q
          by_cases hb' : b = a
          · rw [hb', upd_same] at e
            cases e
            rw [hb']
            exact ⟨ho, st a _ ha (e0.hok a _ ha)⟩
          · rw [upd_ne hb'] at e
            exact st b u e (e0.hok b u e)
      refine codeAny_mono (F.run A outer s _ args us vs Q E hr e1 hb r (h od)) fun r s' hq => ?_
      cases r with
      | error e => exact hq
      | ok fl =>
        cases fl with
        | next => exact hq
        | brk => exact hq
        | cont => exact hq
        | ret u =>
          obtain ⟨v, H', os, bare, un, hok', r', q⟩ := hq
          exact ⟨v, H', os, bare, ⟨fun b o e n => un.keep b o e (by rw [upd_ne (nN b n)]; exact n), fun b o e n => un.slot b o e (by rw [upd_ne (nN b n)]; exact n), fun b o e n => un.free b o e (by rw [upd_ne (nN b n)]; exact n), un.there,
            fun b xs e => un.tups b xs (by rw [upd_ne (ne b _ e (fun _ z => nomatch z))]; exact e), fun b o u e => un.frzs b o u (by rw [upd_ne (ne b _ e (fun _ z => nomatch z))]; exact e), fun b ps e => un.tbls b ps (by rw [upd_ne (ne b _ e (fun _ z => nomatch z))]; exact e)⟩, hok', r', q⟩

/-! ### the head: what the top leaves, by one look -/
mutual
/-- a value of the written part stands for a datum -/
def datB (K : PySem.W.Frag) : D → Value → Bool
  | .non, v => v == .none
  | .bl b, v => match v with | .bool c => b == c | _ => false
  | .int i, v => match v with | .int j _ => decide (i = j) | _ => false
  | .str x, v => match v with | .str y _ => decide (x = y) | _ => false
  | .tup ds, v => match v with
    | .ref a => match K.lookup a with
      | some ⟨.type c, _, .seq its _, _⟩ => decide (c = "tuple") && (!isKey ds && (decide (its.size ≤ sizeLine) && datsB K ds its.toList))
      | _ => false
    | _ => false
  | .ref _, _ => false
  | .ro _, _ => false
def datsB (K : PySem.W.Frag) : List D → List Value → Bool
  | [], vs => vs.isEmpty
  | d :: ds, vs => match vs with | v :: vs => datB K d v && datsB K ds vs | [] => false
end
mutual
theorem datB_ok {K : PySem.W.Frag} : ∀ (d : D) (u : Value), datB K d u = true → ∃ v, RelV v u ∧ ∀ ρ H, Rep K ρ H v d
  | .non, u, h => ⟨.non, eq_of_beq h, fun _ _ => .non⟩
  | .bl b, u, h => by
    cases u <;> simp only [datB] at h <;> try (cases h; done)
    cases eq_of_beq h
    exact ⟨.bl b, rfl, fun _ _ => .bl _⟩
  | .int b, u, h => by
    cases u <;> simp only [datB] at h <;> try (cases h; done)
    cases of_decide_eq_true h
    exact ⟨.int b, ⟨_, rfl⟩, fun _ _ => .int _⟩
  | .str b, u, h => by
    cases u <;> simp only [datB] at h <;> try (cases h; done)
    cases of_decide_eq_true h
    exact ⟨.str b, ⟨_, rfl⟩, fun _ _ => .str _⟩
  | .tup ds, u, h => by
    cases u <;> simp only [datB] at h <;> try (cases h; done)
    rename_i a
    split at h
    · rename_i c od its n sl e
      obtain ⟨h1, h⟩ := and2 h
      obtain ⟨h0, h⟩ := and2 h
      obtain ⟨h2, h3⟩ := and2 h
      obtain ⟨vs, r, k⟩ := datsB_ok ds _ h3
      refine ⟨.ref a, rfl, fun ρ H => .tup (xs := vs) (.inr ⟨_, its, n, e, congrArg Value.type (of_decide_eq_true h1), rfl, of_decide_eq_true h2, r⟩) (fun z => by rw [z] at h0; cases h0) (k ρ H)⟩
    · cases h
  | .ref _, u, h => by simp only [datB] at h; cases h
  | .ro _, u, h => by simp only [datB] at h; cases h
theorem datsB_ok {K : PySem.W.Frag} : ∀ (d : List D) (u : List Value), datsB K d u = true → ∃ v, Vals v u ∧ ∀ ρ H, Reps K ρ H v d
  | [], u, h => by
    cases u with
    | nil => exact ⟨[], .nil, fun _ _ => .nil⟩
    | cons _ _ => cases h
  | d :: ds, u, h => by
    cases u with
    | nil => simp only [datsB] at h; cases h
    | cons x xs =>
      simp only [datsB] at h
      obtain ⟨h1, h2⟩ := and2 h
      obtain ⟨v, r, k⟩ := datB_ok d x h1
      obtain ⟨vs, rs, ks⟩ := datsB_ok ds xs h2
      exact ⟨v :: vs, .cons r rs, fun ρ H => .cons (k ρ H) (ks ρ H)⟩
end
def glB (K : PySem.W.Frag) (gl : Nat → D) (ps : List Pd) (q : Str × GI) : Bool := match q.2 with
  | .free => He.eqO (PySem.W.nsIn K mainGlobals q.1) (some none)
  | .bt id => He.eqO (PySem.W.nsIn K mainGlobals q.1) (some (some (.builtin id)))
  | .cst g => match PySem.W.nsIn K mainGlobals q.1 with | some (some u) => datB K (gl g) u | _ => false
  | .fn i => match ps[i]? with | some p => He.eqO (PySem.W.nsIn K mainGlobals q.1) (some (some (.ref (He.fAd K p.d.at_)))) | none => false
  | .other => true
theorem mem_of_look {α : Type} : ∀ {l : List (Str × α)} {x : Str} {g : α}, l.lookup x = some g → (x, g) ∈ l
  | (y, h) :: r, x, g, e => by
    rw [List.lookup_cons] at e
    cases q : x == y with
    | true =>
      rw [q] at e
      cases e
      rw [eq_of_beq q]
      exact List.mem_cons_self
    | false =>
      rw [q] at e
      exact List.mem_cons_of_mem _ (mem_of_look e)
theorem glB_ok {K : PySem.W.Frag} {mg : Str → Option Value} {h : Heap} {gl : Nat → D} {ps : List Pd} {G : List (Str × GI)} (X : K.In h) (N : h.Ns mainGlobals mg) (c : G.all (glB K gl ps) = true) : GlOk K mg gl ps G := by
  intro x g hx
  have q := List.all_eq_true.mp c (x, g) (mem_of_look hx)
  cases g with
  | free => exact PySem.W.mg_none_of X N (He.eqO_ok q)
  | bt id => exact PySem.W.mg_of X N (He.eqO_ok q)
  | other => trivial
  | cst g =>
    simp only [glB] at q
    split at q
    · rename_i u e
      obtain ⟨v, r, k⟩ := datB_ok _ _ q
      exact ⟨u, v, PySem.W.mg_of X N e, r, k⟩
    · cases q
  | fn i =>
    simp only [glB] at q
    split at q
    · rename_i p e
      exact ⟨p, e, PySem.W.mg_of X N (He.eqO_ok q)⟩
    · cases q
abbrev AlX : Type := Bool × He.AlD
def obsX (gl : Nat → D) (ps : List Pd) (G : List (Str × GI)) (K : PySem.W.Frag) : AlX := (G.all (glB K gl ps), He.obsD [] (ps.map (·.d)) K)
def valX (ps : List Pd) : AlX := (true, He.valD (ps.map (·.d)))
def SaysX (gl : Nat → D) (ps : List Pd) (G : List (Str × GI)) (K : PySem.W.Frag) : Prop := obsX gl ps G K = valX ps
def clsN (o : Obj) : Bool := match o.cls with | .none => false | _ => true
/-- the tables of code objects are left out -/
def notTab (g : Addr → Option Obj) (a : Addr) : Bool := match g a with | some o => clsN o | none => true
def NoTab (K : PySem.W.Frag) : Prop := ∀ a o, K.lookup a = some o → clsN o = true
theorem frG_mem {g : Addr → Option Obj} {a : Addr} {o : Obj} : ∀ as : List Addr, (He.frG g as).lookup a = some o → a ∈ as
  | [], e => nomatch (show (none : Option Obj) = some o from e)
  | b :: r, e => by
    unfold He.frG at e
    cases hb : g b with
    | none =>
      rw [List.filterMap_cons, hb] at e
      exact List.mem_cons_of_mem _ (frG_mem r e)
    | some ob =>
      rw [List.filterMap_cons, hb] at e
      simp only [Option.map_some, List.lookup_cons] at e
      cases q : a == b with
      | true => rw [eq_of_beq q]; exact List.mem_cons_self
      | false =>
        rw [q] at e
        exact List.mem_cons_of_mem _ (frG_mem r e)
def obsXG (n : Nat) (gl : Nat → D) (ps : List Pd) (G : List (Str × GI)) (g : Addr → Option Obj) : AlX := obsX gl ps G (He.frG g ((He.asD g n).filter (notTab g)))
def hookX (n : Nat) (gl : Nat → D) (ps : List Pd) (G : List (Str × GI)) : PySem.W.Hook where
  α := AlX
  obs := fun s => obsXG n gl ps G s.heap.get?
  val := fun _ => valX ps
  says := fun _ h => ∃ K : PySem.W.Frag, K.In h ∧ SaysX gl ps G K ∧ NoTab K
  of := fun _ _ e => ⟨_, He.frG_in, e, fun a o h => by
    have h1 := He.frG_at _ h
    have h2 := frG_mem _ h
    have h3 := (List.mem_filter.mp h2).2
    unfold notTab at h3
    rw [h1] at h3
    exact h3⟩
  keeps := fun _ _ _ ⟨K, hK, c, d⟩ k => ⟨K, PySem.W.Frag.In.keeps hK k, c, d⟩
theorem obsXG_eq {n : Nat} {gl : Nat → D} {ps : List Pd} {G : List (Str × GI)} {g : Addr → Option Obj} {s : Shared} (h : ∀ a, g a = s.heap.get? a) : obsXG n gl ps G g = (hookX n gl ps G).obs s := by
  have e : g = s.heap.get? := funext h
  rw [e] <;> rfl
/-- all that the walk wants -/
theorem facts {P : Program} {w : World} {K : PySem.W.Frag} {mg : Str → Option Value} {h : Heap} {gl : Nat → D} {ps : List Pd} {G : List (Str × GI)} {n li : Nat} {pl : Pd} (X : K.In h) (N : h.Ns mainGlobals mg) (c : SaysX gl ps G K) (hok : ps.all (fun p => p.ok G) = true)
    (hB : ∀ (i : Nat) (p : Pd), ps[i]? = some p → ∀ fd, FunD K p.d.name p.d.qual p.d.params p.d.body p.d.scope [] [] (He.fAd K p.d.at_) fd → Binds K fd p.ps []) (hl : ps[li]? = some pl) :
    (∀ (i : Nat) (p : Pd), ps[i]? = some p → ∃ fd, FunD K p.d.name p.d.qual p.d.params p.d.body p.d.scope [] [] (He.fAd K p.d.at_) fd) ∧
    ∃ fd : FuncData, FunD K pl.d.name pl.d.qual pl.d.params pl.d.body pl.d.scope [] [] (He.fAd K pl.d.at_) fd ∧ ∀ base : Heap, K.In base → base.Ns mainGlobals mg → (∀ cdv, lamCode K = some cdv → ∃ cc P, cdv = .ref cc ∧ codeTab K cdv = some P ∧ LamX.TabB base mg cc P) →
      FnOk P w K mg base CX0 (4 * n) (He.fAd K pl.d.at_) fd pl.ps (spD K (call gl (ps.map (·.fd)) n li)) := by
  have c1 : G.all (glB K gl ps) = true := congrArg (fun z : AlX => z.1) c
  have c2 : He.SaysD [] (ps.map (·.d)) K := congrArg (fun z : AlX => z.2) c
  have hk : ∀ p ∈ ps, p.ok G = true := List.all_eq_true.mp hok
  have emp : ∀ p ∈ ps, p.d.dvs K = [] ∧ p.d.kws K = [] := fun p hp => by
    have q := hk p hp
    unfold Pd.ok at q
    simp only [Bool.and_eq_true] at q
    obtain ⟨_, _, _, _, _, _, _, _, q1, q2, _⟩ := q
    unfold He.DefD.dvs He.DefD.kws
    rw [List.isEmpty_iff.mp q1, List.isEmpty_iff.mp q2]
    exact ⟨rfl, rfl⟩
  have ex : ∀ i : Nat, ∃ fd : FuncData, ∀ p : Pd, ps[i]? = some p → FunD K p.d.name p.d.qual p.d.params p.d.body p.d.scope (p.d.dvs K) (p.d.kws K) (He.fAd K p.d.at_) fd := fun i => by
    cases e : ps[i]? with
    | none => exact ⟨PySem.W.fnOf "" "" ⟨[], [], none, [], [], none, []⟩ [] ⟨.function, [], false, false, []⟩ .none .none .none .none none .none .none, fun p hp => by cases hp⟩
    | some p =>
      obtain ⟨fd, F⟩ := c2.def_ i (d := p.d) (by rw [List.getElem?_map, e]; rfl)
      exact ⟨fd, fun p' hp => by cases hp; exact F⟩
  let fds := fun i => Classical.choose (ex i)
  have hF : ∀ (i : Nat) (p : Pd), ps[i]? = some p → FunD K p.d.name p.d.qual p.d.params p.d.body p.d.scope (p.d.dvs K) (p.d.kws K) (He.fAd K p.d.at_) (fds i) := fun i p hp => Classical.choose_spec (ex i) p hp
  have hF0 : ∀ (i : Nat) (p : Pd), ps[i]? = some p → FunD K p.d.name p.d.qual p.d.params p.d.body p.d.scope [] [] (He.fAd K p.d.at_) (fds i) := fun i p hp => by
    have F := hF i p hp
    obtain ⟨e1, e2⟩ := emp p (List.mem_of_getElem? hp)
    rw [e1, e2] at F
    exact F
  exact ⟨fun i p hp => ⟨fds i, hF0 i p hp⟩, fds li, hF0 li pl hl, fun base _ _ hT => fns_ok hT (glB_ok X N c1) hk hF (fun i p hp => hB i p hp _ (hF0 i p hp)) n li pl hl⟩
/-- the law's promise, where one def makes a lambda -/
theorem law_at {l : PySem.W.OpenLaw} {w : World} {K : PySem.W.Frag} {mg : Str → Option Value} {h : Heap} {gl : Nat → D} {ps : List Pd} {G : List (Str × GI)} {n li j : Nat} {pl pj : Pd} {fa a' c' P' : Addr} {o' : Obj} {fd' : FuncData} {x : Str} (X : K.In h) (N : h.Ns mainGlobals mg) (c : SaysX gl ps G K) (nt : NoTab K) (hok : ps.all (fun p => p.ok G) = true)
    (hB : ∀ (i : Nat) (p : Pd), ps[i]? = some p → ∀ fd, FunD K p.d.name p.d.qual p.d.params p.d.body p.d.scope [] [] (He.fAd K p.d.at_) fd → Binds K fd p.ps []) (hl : ps[li]? = some pl) (hx : pl.ps = [x]) (hbd : ∀ fd, FunD K pl.d.name pl.d.qual pl.d.params pl.d.body pl.d.scope [] [] (He.fAd K pl.d.at_) fd → ∀ (s : Shared) (u : Value), BindsTo s fd ⟨[u], []⟩ [(x, u)]) (hfa : mg pl.d.name = some (.ref fa)) (gli : G.lookup pl.d.name = some (.fn li)) (glj : G.lookup lamName = some (.fn j)) (hj : ps[j]? = some pj) (atj : pj.d.at_ = (lamName, none))
    (m1 : mg lamName = some (.ref a')) (m2 : h.get? a' = some o') (m3 : o'.data = .func fd') (m4 : fd'.code = .ref c') (m5 : PySem.W.CodeHd h c' P') (m6 : h.get? P' = some { cls := .none, data := .fields #[] })
    (runs : LawRuns gl (ps.map (·.fd)) n li) : LamX.LawAtS l w K CX0 (4 * n) 63 x mg fa h := by
  obtain ⟨all, fd, F, hF⟩ := facts (P := l.prog) (w := w) (n := n) X N c hok hB hl
  have gok := glB_ok X N (congrArg (fun z : AlX => z.1) c)
  have ea : a' = He.fAd K (lamName, none) := by
    obtain ⟨p, e1, e2⟩ := gok lamName (.fn j) glj
    rw [hj] at e1
    cases e1
    rw [m1, atj] at e2
    exact PySem.Value.ref.inj (Option.some.inj e2)
  have ef : fa = He.fAd K pl.d.at_ := by
    obtain ⟨p, e1, e2⟩ := gok pl.d.name (.fn li) gli
    rw [hl] at e1
    cases e1
    rw [hfa] at e2
    exact PySem.Value.ref.inj (Option.some.inj e2)
  have lc : lamCode K = some (.ref c') ∧ codeTab K (.ref c') = some P' := by
    obtain ⟨fdj, Fj⟩ := all j pj hj
    obtain ⟨oc, od, dV, kV, doc, pm, an, cdv, ct, osl, rfl, lk, hcd, _, _⟩ := Fj.ex
    rw [atj, ← ea] at lk
    have z := X _ _ lk
    rw [m2] at z
    cases z
    cases m3
    have m4 : cdv = .ref c' := m4
    subst m4
    constructor
    · unfold lamCode
      rw [← ea, lk]
    · unfold PySem.W.codeIn at hcd
      dsimp only at hcd
      unfold codeTab
      dsimp only
      cases q : K.lookup c' with
      | none => rw [q] at hcd; cases hcd
      | some oo =>
        rw [q] at hcd
        obtain ⟨cl, dd, dat, sl⟩ := oo
        cases dat <;> dsimp only at hcd <;> try (cases hcd; done)
        rename_i vs
        obtain ⟨o2, vs2, file, tf, flags, tg, inF, text, tt, e1, _, e3, e4, _⟩ := m5
        rw [X _ _ q] at e1
        cases e1
        cases e3
        dsimp only
        rw [e4]
        rfl
  have tp : ∀ P, tabAd K = some P → P = P' := fun P hP => by
    rw [tabAd_of lc.1, lc.2] at hP
    exact (Option.some.inj hP).symm
  subst ef
  refine ⟨fd, [(c', P')], frzSp (spD K (call gl (ps.map (·.fd)) n li)), fun p hp => ?_, fun p hp => ?_, fun p hp => ?_, fun s u => ?_, fun H a ns hn _ hT hS => ?_, fun base h1 h2 hT => ?_⟩
  · rw [List.mem_singleton.mp hp]; exact m6
  · rw [List.mem_singleton.mp hp]
    cases q : K.lookup P' with
    | none => rfl
    | some o =>
      have z := X _ _ q
      rw [m6] at z
      cases z
      have := nt _ _ q
      cases this
  · rw [List.mem_singleton.mp hp]; exact m5
  · exact hbd fd F s u
  · have hP := hT (c', P') (List.mem_singleton.mpr rfl)
    have tab : ∀ P, tabAd K = some P → H P = some (.tbl #[]) := fun P e => by rw [tp P e]; exact hP
    rcases hS with (hS | hS) | hS
    · refine .inr ⟨a, _, hS, fun od => law_sp runs _ a ns hn (fun P e => ?_) (.inl ⟨od, upd_same⟩)⟩
      rw [upd_ne (fun z => by have := tab P e; rw [z, hS] at this; cases this)]
      exact tab P e
    · exact .inl (law_sp runs H a ns hn tab (.inl hS))
    · exact .inl (law_sp runs H a ns hn tab (.inr hS))
  · have F2 := hF base h1 h2 fun cdv e => by
      rw [lc.1] at e
      cases e
      exact ⟨c', P', rfl, lc.2, hT (c', P') (List.mem_singleton.mpr rfl)⟩
    have F3 := FnOk.freeze F2
    rw [hx] at F3
    exact F3
/-- the end of a law whose program has the one def that makes a lambda -/
theorem walk_lam {l : PySem.W.OpenLaw} {n k : Nat} {q : Program} {loose : List Str} {XP : (Str → Option Value) → Heap → Prop} {YP : World → Heap → Prop} {d : DefRec} {x : Str}
    (hn : l.most = some n) (hn2 : n ≤ sizeLine) (hdf : d.params.defaults = []) (hr : Room k callerA) (hrec : ((recsOf q).any fun e => e.name == lamName) = true)
    (F : ∀ (w : World) (mg : Str → Option Value) (fa : Addr) (h : Heap), YP w h → h.Ns mainGlobals mg → mg d.name = some (.ref fa) → ∀ (a' c' P' : Addr) (o' : Obj) (fd' : FuncData), mg lamName = some (.ref a') → h.get? a' = some o' → o'.data = .func fd' → fd'.code = .ref c' → PySem.W.CodeHd h c' P' →
      h.get? P' = some { cls := .none, data := .fields #[] } → ∃ K : PySem.W.Frag, K.In h ∧ LamX.LawAtS l w K CX0 k n x mg fa h) :
    PySem.W.WalkO q loose XP YP l.row.toRowW d [] (fun f vs => PySem.call f vs) := by
  refine Att.attach_callB hn hdf fun w s₀ s₁ mg mb fa o pm cd doc a vs ns G Y ho hd hcd hmg hobj hints hlen hbits hg => ?_
  obtain ⟨dL, hm, hn1⟩ := List.any_eq_true.mp hrec
  have hn3 : dL.name = lamName := beq_iff_eq.mp hn1
  obtain ⟨a', o', fd', c', P', h1, h2, h3, h4, h5, h6⟩ := G.T.tab dL hm
  rw [hn3] at h1
  obtain ⟨K, KX, fd, cs, sp, hT, nT, C, hb, hsp, hF⟩ := F w mg fa _ Y G.T.g hmg a' c' P' o' fd' h1 h2 h3 h4 (PySem.W.CodeHd.of h5 h6) h6.2
  exact LamX.law_callTs KX G.T.g G.T.b G.T.builtins G.T.nolimit hg hT nT C G.T.bmain hobj hints (Nat.le_trans hlen hn2) hr hF hb (fun H hH hS => hsp H a ns hlen hbits hH hS) fun H e s' z => z
end Dl
end

section
set_option linter.all false
namespace K05
open PySem PySem.Spec L2 Dl
theorem runs : LawRuns gl fds 40 f_law := fun ns hn => (law_wq (n := 28) hn).out
end K05
end

set_option Elab.async false
set_option linter.all false
set_option maxRecDepth 100000
set_option maxHeartbeats 4000000
namespace K05
open PySem PySem.Spec PyProof.Rows L2 Dl
abbrev PW : PySem.Program := PySem.Challenge.pw_idealstold_k05_whole_reckoning_with_poly
def topS (i : Nat) : Stmt := PW.main.body.getD i (.Pass ⟨0, 0, 0, 0⟩)
def p_fraction : Pd := ⟨⟨("fraction", none), "fraction", "fraction", defArgs (topS 2), defBody (topS 2), defScope (topS 2), [], []⟩, ["n", "d", "divisor"], d_fraction⟩
def p_add : Pd := ⟨⟨("add", none), "add", "add", defArgs (topS 3), defBody (topS 3), defScope (topS 3), [], []⟩, ["f", "g"], d_add⟩
def p_multiply : Pd := ⟨⟨("multiply", none), "multiply", "multiply", defArgs (topS 4), defBody (topS 4), defScope (topS 4), [], []⟩, ["f", "g"], d_multiply⟩
def p_raised : Pd := ⟨⟨("raised", none), "raised", "raised", defArgs (topS 5), defBody (topS 5), defScope (topS 5), [], []⟩, ["f", "exponent", "result", "_"], d_raised⟩
def p_zero_power : Pd := ⟨⟨("zero_power", none), "zero_power", "zero_power", defArgs (topS 7), defBody (topS 7), defScope (topS 7), [], []⟩, ["many"], d_zero_power⟩
def p_unit_power : Pd := ⟨⟨("unit_power", none), "unit_power", "unit_power", defArgs (topS 8), defBody (topS 8), defScope (topS 8), [], []⟩, ["many", "index", "place"], d_unit_power⟩
def p_power_product : Pd := ⟨⟨("power_product", none), "power_product", "power_product", defArgs (topS 9), defBody (topS 9), defScope (topS 9), [], []⟩, ["power", "other", "one", "two"], d_power_product⟩
def p_total : Pd := ⟨⟨("total", none), "total", "total", defArgs (topS 10), defBody (topS 10), defScope (topS 10), [], []⟩, ["power"], d_total⟩
def p_back_key : Pd := ⟨⟨("back_key", none), "back_key", "back_key", defArgs (topS 11), defBody (topS 11), defScope (topS 11), [], []⟩, ["power", "one"], d_back_key⟩
def p_part_of : Pd := ⟨⟨("part_of", none), "part_of", "part_of", defArgs (topS 12), defBody (topS 12), defScope (topS 12), [], []⟩, ["power", "indexes", "inside", "place"], d_part_of⟩
def p_dot : Pd := ⟨⟨("dot", none), "dot", "dot", defArgs (topS 13), defBody (topS 13), defScope (topS 13), [], []⟩, ["row", "power", "one", "two"], d_dot⟩
def p_power_key : Pd := ⟨⟨("power_key", none), "power_key", "power_key", defArgs (topS 14), defBody (topS 14), defScope (topS 14), [], []⟩, ["ring", "power", "order", "row"], d_power_key⟩
def p_sorted_powers : Pd := ⟨⟨("sorted_powers", none), "sorted_powers", "sorted_powers", defArgs (topS 15), defBody (topS 15), defScope (topS 15), [], []⟩, ["ring", "powers"], d_sorted_powers⟩
def p_poly_dict : Pd := ⟨⟨("poly_dict", none), "poly_dict", "poly_dict", defArgs (topS 17), defBody (topS 17), defScope (topS 17), [], []⟩, ["f", "power", "worth"], d_poly_dict⟩
def p_dict_poly : Pd := ⟨⟨("dict_poly", none), "dict_poly", "dict_poly", defArgs (topS 18), defBody (topS 18), defScope (topS 18), [], []⟩, ["ring", "table", "powers", "power"], d_dict_poly⟩
def p_put_member : Pd := ⟨⟨("put_member", none), "put_member", "put_member", defArgs (topS 19), defBody (topS 19), defScope (topS 19), [], []⟩, ["table", "power", "worth"], d_put_member⟩
def p_put_product : Pd := ⟨⟨("put_product", none), "put_product", "put_product", defArgs (topS 20), defBody (topS 20), defScope (topS 20), [], []⟩, ["table", "f", "power", "worth", "own", "own_worth"], d_put_product⟩
def p_ring_poly : Pd := ⟨⟨("ring_poly", none), "ring_poly", "ring_poly", defArgs (topS 22), defBody (topS 22), defScope (topS 22), [], []⟩, ["ring", "members", "table", "power", "worth"], d_ring_poly⟩
def p_turned_poly : Pd := ⟨⟨("turned_poly", none), "turned_poly", "turned_poly", defArgs (topS 23), defBody (topS 23), defScope (topS 23), [], []⟩, ["ring", "f"], d_turned_poly⟩
def p_constant_poly : Pd := ⟨⟨("constant_poly", none), "constant_poly", "constant_poly", defArgs (topS 24), defBody (topS 24), defScope (topS 24), [], []⟩, ["ring", "worth"], d_constant_poly⟩
def p_unknown_poly : Pd := ⟨⟨("unknown_poly", none), "unknown_poly", "unknown_poly", defArgs (topS 25), defBody (topS 25), defScope (topS 25), [], []⟩, ["ring", "index"], d_unknown_poly⟩
def p_add_poly : Pd := ⟨⟨("add_poly", none), "add_poly", "add_poly", defArgs (topS 26), defBody (topS 26), defScope (topS 26), [], []⟩, ["ring", "f", "g"], d_add_poly⟩
def p_scale_poly : Pd := ⟨⟨("scale_poly", none), "scale_poly", "scale_poly", defArgs (topS 27), defBody (topS 27), defScope (topS 27), [], []⟩, ["ring", "f", "worth", "power", "own"], d_scale_poly⟩
def p_subtract_poly : Pd := ⟨⟨("subtract_poly", none), "subtract_poly", "subtract_poly", defArgs (topS 28), defBody (topS 28), defScope (topS 28), [], []⟩, ["ring", "f", "g"], d_subtract_poly⟩
def p_multiply_poly : Pd := ⟨⟨("multiply_poly", none), "multiply_poly", "multiply_poly", defArgs (topS 29), defBody (topS 29), defScope (topS 29), [], []⟩, ["ring", "f", "g", "table", "power", "worth"], d_multiply_poly⟩
def p_power_poly : Pd := ⟨⟨("power_poly", none), "power_poly", "power_poly", defArgs (topS 30), defBody (topS 30), defScope (topS 30), [], []⟩, ["ring", "f", "exponent", "result", "_"], d_power_poly⟩
def p_head_of : Pd := ⟨⟨("head_of", none), "head_of", "head_of", defArgs (topS 31), defBody (topS 31), defScope (topS 31), [], []⟩, ["f"], d_head_of⟩
def p_degree_of : Pd := ⟨⟨("degree_of", none), "degree_of", "degree_of", defArgs (topS 32), defBody (topS 32), defScope (topS 32), [], []⟩, ["f", "power", "worth"], d_degree_of⟩
def p_derive : Pd := ⟨⟨("derive", none), "derive", "derive", defArgs (topS 33), defBody (topS 33), defScope (topS 33), [], []⟩, ["ring", "f", "index", "members", "power", "worth", "lower"], d_derive⟩
def p_value_at : Pd := ⟨⟨("value_at", none), "value_at", "value_at", defArgs (topS 34), defBody (topS 34), defScope (topS 34), [], []⟩, ["f", "fractions", "result", "power", "worth", "value", "one", "exponent"], d_value_at⟩
def p_put_in : Pd := ⟨⟨("put_in", none), "put_in", "put_in", defArgs (topS 35), defBody (topS 35), defScope (topS 35), [], []⟩, ["ring", "f", "polynomials", "result", "power", "worth", "value", "one", "exponent"], d_put_in⟩
def p_made_first : Pd := ⟨⟨("made_first", none), "made_first", "made_first", defArgs (topS 36), defBody (topS 36), defScope (topS 36), [], []⟩, ["ring", "f", "top"], d_made_first⟩
def p_compare_powers : Pd := ⟨⟨("compare_powers", none), "compare_powers", "compare_powers", defArgs (topS 38), defBody (topS 38), defScope (topS 38), [], []⟩, ["ring", "power", "other", "one", "two"], d_compare_powers⟩
def p__law_draws : Pd := ⟨⟨("_law_draws", none), "_law_draws", "_law_draws", defArgs (topS 40), defBody (topS 40), defScope (topS 40), [], []⟩, ["script", "many", "cells", "left", "draws", "k", "place", "mixed", "cell"], d__law_draws⟩
def p__law_take : Pd := ⟨⟨("_law_take", none), "_law_take", "_law_take", defArgs (topS 41), defBody (topS 41), defScope (topS 41), [], []⟩, ["draws", "many"], d__law_take⟩
def p__law_pick : Pd := ⟨⟨("_law_pick", none), "_law_pick", "_law_pick", defArgs (topS 42), defBody (topS 42), defScope (topS 42), [], []⟩, ["draws", "row"], d__law_pick⟩
def p__law_same : Pd := ⟨⟨("_law_same", none), "_law_same", "_law_same", defArgs (topS 43), defBody (topS 43), defScope (topS 43), [], []⟩, ["actual", "due", "k"], d__law_same⟩
def p__law_shuffled : Pd := ⟨⟨("_law_shuffled", none), "_law_shuffled", "_law_shuffled", defArgs (topS 44), defBody (topS 44), defScope (topS 44), [], []⟩, ["draws", "row", "left", "told", "k"], d__law_shuffled⟩
def p__law_is_int : Pd := ⟨⟨("_law_is_int", none), "_law_is_int", "_law_is_int", defArgs (topS 45), defBody (topS 45), defScope (topS 45), [], []⟩, ["thing"], d__law_is_int⟩
def p__law_gcd : Pd := ⟨⟨("_law_gcd", none), "_law_gcd", "_law_gcd", defArgs (topS 46), defBody (topS 46), defScope (topS 46), [], []⟩, ["one", "other", "a", "b", "k", "c"], d__law_gcd⟩
def p__law_frac : Pd := ⟨⟨("_law_frac", none), "_law_frac", "_law_frac", defArgs (topS 47), defBody (topS 47), defScope (topS 47), [], []⟩, ["n", "d", "c"], d__law_frac⟩
def p__law_plus : Pd := ⟨⟨("_law_plus", none), "_law_plus", "_law_plus", defArgs (topS 48), defBody (topS 48), defScope (topS 48), [], []⟩, ["one", "other"], d__law_plus⟩
def p__law_minus : Pd := ⟨⟨("_law_minus", none), "_law_minus", "_law_minus", defArgs (topS 49), defBody (topS 49), defScope (topS 49), [], []⟩, ["one", "other"], d__law_minus⟩
def p__law_product : Pd := ⟨⟨("_law_product", none), "_law_product", "_law_product", defArgs (topS 50), defBody (topS 50), defScope (topS 50), [], []⟩, ["one", "other"], d__law_product⟩
def p__law_is_fraction : Pd := ⟨⟨("_law_is_fraction", none), "_law_is_fraction", "_law_is_fraction", defArgs (topS 51), defBody (topS 51), defScope (topS 51), [], []⟩, ["thing"], d__law_is_fraction⟩
def p__law_key : Pd := ⟨⟨("_law_key", none), "_law_key", "_law_key", defArgs (topS 52), defBody (topS 52), defScope (topS 52), [], []⟩, ["ring", "power", "many", "order", "parts", "told", "part", "row", "k"], d__law_key⟩
def p__law_poly : Pd := ⟨⟨("_law_poly", none), "_law_poly", "_law_poly", defArgs (topS 53), defBody (topS 53), defScope (topS 53), [], []⟩, ["ring", "table", "rows", "power", "row"], d__law_poly⟩
def p__law_joined : Pd := ⟨⟨("_law_joined", none), "_law_joined", "_law_joined", defArgs (topS 54), defBody (topS 54), defScope (topS 54), [], []⟩, ["power", "other", "k"], d__law_joined⟩
def p__law_order : Pd := ⟨⟨("_law_order", none), "_law_order", "_law_order", defArgs (topS 55), defBody (topS 55), defScope (topS 55), [], []⟩, ["draws", "many", "word", "first", "lone", "rows", "k", "sign", "j"], d__law_order⟩
def p__law_fraction : Pd := ⟨⟨("_law_fraction", none), "_law_fraction", "_law_fraction", defArgs (topS 56), defBody (topS 56), defScope (topS 56), [], []⟩, ["draws"], d__law_fraction⟩
def p__law_power : Pd := ⟨⟨("_law_power", none), "_law_power", "_law_power", defArgs (topS 57), defBody (topS 57), defScope (topS 57), [], []⟩, ["draws", "many", "degree", "told", "k", "i"], d__law_power⟩
def p__law_drawn : Pd := ⟨⟨("_law_drawn", none), "_law_drawn", "_law_drawn", defArgs (topS 58), defBody (topS 58), defScope (topS 58), [], []⟩, ["draws", "ring", "degree", "members", "table", "k"], d__law_drawn⟩
def p__law_is_power : Pd := ⟨⟨("_law_is_power", none), "_law_is_power", "_law_is_power", defArgs (topS 59), defBody (topS 59), defScope (topS 59), [], []⟩, ["many", "thing", "one"], d__law_is_power⟩
def p__law_is_poly : Pd := ⟨⟨("_law_is_poly", none), "_law_is_poly", "_law_is_poly", defArgs (topS 60), defBody (topS 60), defScope (topS 60), [], []⟩, ["ring", "thing", "member", "keys", "k"], d__law_is_poly⟩
def p__law_values_fit : Pd := ⟨⟨("_law_values_fit", none), "_law_values_fit", "_law_values_fit", defArgs (topS 61), defBody (topS 61), defScope (topS 61), [], []⟩, ["ring", "f", "g", "point", "a", "b", "due", "made", "one"], d__law_values_fit⟩
def p__law_heads_fit : Pd := ⟨⟨("_law_heads_fit", none), "_law_heads_fit", "_law_heads_fit", defArgs (topS 62), defBody (topS 62), defScope (topS 62), [], []⟩, ["ring", "f", "g", "whole", "one", "two", "due", "member"], d__law_heads_fit⟩
def p_law : Pd := ⟨⟨("law", none), "law", "law", defArgs (topS 63), defBody (topS 63), defScope (topS 63), [], []⟩, ["script", "draws", "turn", "many", "ring", "other", "f", "g", "point", "row", "values", "whole", "i", "parts", "units", "turned", "k", "h"], d_law⟩
def pds : List Pd := [p_fraction, p_add, p_multiply, p_raised, p_zero_power, p_unit_power, p_power_product, p_total, p_back_key, p_part_of, p_dot, p_power_key, p_sorted_powers, p_poly_dict, p_dict_poly, p_put_member, p_put_product, p_ring_poly, p_turned_poly, p_constant_poly, p_unknown_poly, p_add_poly, p_scale_poly, p_subtract_poly, p_multiply_poly, p_power_poly, p_head_of, p_degree_of, p_derive, p_value_at, p_put_in, p_made_first, p_compare_powers, p__law_draws, p__law_take, p__law_pick, p__law_same, p__law_shuffled, p__law_is_int, p__law_gcd, p__law_frac, p__law_plus, p__law_minus, p__law_product, p__law_is_fraction, p__law_key, p__law_poly, p__law_joined, p__law_order, p__law_fraction, p__law_power, p__law_drawn, p__law_is_power, p__law_is_poly, p__law_values_fit, p__law_heads_fit, p_law]
def GG : List (PySem.Str × GI) := [(("_law_drawn" : PySem.Str), (.fn f__law_drawn : GI)), (("_law_draws" : PySem.Str), (.fn f__law_draws : GI)), (("_law_frac" : PySem.Str), (.fn f__law_frac : GI)), (("_law_fraction" : PySem.Str), (.fn f__law_fraction : GI)), (("_law_gcd" : PySem.Str), (.fn f__law_gcd : GI)), (("_law_heads_fit" : PySem.Str), (.fn f__law_heads_fit : GI)), (("_law_is_fraction" : PySem.Str), (.fn f__law_is_fraction : GI)), (("_law_is_int" : PySem.Str), (.fn f__law_is_int : GI)), (("_law_is_poly" : PySem.Str), (.fn f__law_is_poly : GI)), (("_law_is_power" : PySem.Str), (.fn f__law_is_power : GI)), (("_law_joined" : PySem.Str), (.fn f__law_joined : GI)), (("_law_key" : PySem.Str), (.fn f__law_key : GI)), (("_law_minus" : PySem.Str), (.fn f__law_minus : GI)), (("_law_order" : PySem.Str), (.fn f__law_order : GI)), (("_law_pick" : PySem.Str), (.fn f__law_pick : GI)), (("_law_plus" : PySem.Str), (.fn f__law_plus : GI)), (("_law_poly" : PySem.Str), (.fn f__law_poly : GI)), (("_law_power" : PySem.Str), (.fn f__law_power : GI)), (("_law_product" : PySem.Str), (.fn f__law_product : GI)), (("_law_same" : PySem.Str), (.fn f__law_same : GI)), (("_law_shuffled" : PySem.Str), (.fn f__law_shuffled : GI)), (("_law_take" : PySem.Str), (.fn f__law_take : GI)), (("_law_values_fit" : PySem.Str), (.fn f__law_values_fit : GI)), (("abs" : PySem.Str), (.free : GI)), (("add" : PySem.Str), (.fn f_add : GI)), (("add_poly" : PySem.Str), (.fn f_add_poly : GI)), (("back_key" : PySem.Str), (.fn f_back_key : GI)), (("bool" : PySem.Str), (.free : GI)), (("compare_powers" : PySem.Str), (.fn f_compare_powers : GI)), (("constant_poly" : PySem.Str), (.fn f_constant_poly : GI)), (("degree_of" : PySem.Str), (.fn f_degree_of : GI)), (("derive" : PySem.Str), (.fn f_derive : GI)), (("dict_poly" : PySem.Str), (.fn f_dict_poly : GI)), (("dot" : PySem.Str), (.fn f_dot : GI)), (("fraction" : PySem.Str), (.fn f_fraction : GI)), (("gcd" : PySem.Str), (.bt "math.gcd" : GI)), (("head_of" : PySem.Str), (.fn f_head_of : GI)), (("int" : PySem.Str), (.free : GI)), (("isinstance" : PySem.Str), (.free : GI)), (("law" : PySem.Str), (.fn f_law : GI)), (("len" : PySem.Str), (.free : GI)), (("list" : PySem.Str), (.free : GI)), (("made_first" : PySem.Str), (.fn f_made_first : GI)), (("max" : PySem.Str), (.free : GI)), (("multiply" : PySem.Str), (.fn f_multiply : GI)), (("multiply_poly" : PySem.Str), (.fn f_multiply_poly : GI)), (("part_of" : PySem.Str), (.fn f_part_of : GI)), (("poly_dict" : PySem.Str), (.fn f_poly_dict : GI)), (("power_key" : PySem.Str), (.fn f_power_key : GI)), (("power_poly" : PySem.Str), (.fn f_power_poly : GI)), (("power_product" : PySem.Str), (.fn f_power_product : GI)), (("put_in" : PySem.Str), (.fn f_put_in : GI)), (("put_member" : PySem.Str), (.fn f_put_member : GI)), (("put_product" : PySem.Str), (.fn f_put_product : GI)), (("raised" : PySem.Str), (.fn f_raised : GI)), (("range" : PySem.Str), (.free : GI)), (("ring_poly" : PySem.Str), (.fn f_ring_poly : GI)), (("scale_poly" : PySem.Str), (.fn f_scale_poly : GI)), (("sorted" : PySem.Str), (.free : GI)), (("sorted_powers" : PySem.Str), (.fn f_sorted_powers : GI)), (("str" : PySem.Str), (.free : GI)), (("subtract_poly" : PySem.Str), (.fn f_subtract_poly : GI)), (("sum" : PySem.Str), (.free : GI)), (("total" : PySem.Str), (.fn f_total : GI)), (("tuple" : PySem.Str), (.free : GI)), (("turned_poly" : PySem.Str), (.fn f_turned_poly : GI)), (("unit_power" : PySem.Str), (.fn f_unit_power : GI)), (("unknown_poly" : PySem.Str), (.fn f_unknown_poly : GI)), (("value_at" : PySem.Str), (.fn f_value_at : GI)), (("zero_power" : PySem.Str), (.fn f_zero_power : GI)), (("zip" : PySem.Str), (.free : GI))]

theorem oks : pds.all (fun p => p.ok GG) = true := by decide +kernel
abbrev RWL : PySem.W.OpenLaw := PySem.Challenge.rw_idealstold_k05_whole_reckoning_with_poly
abbrev R : PySem.W.OpenRow := PySem.W.OpenLaw.row RWL
abbrev hk : PySem.W.Hook := hookX 4 gl pds GG
def ob (s : PySem.W.SharedT) : AlX := obsXG 4 gl pds GG (HandSHeadRun.getT s)
theorem ob_eq (s : PySem.W.SharedT) : ob s = hk.obs s.abs := obsXG_eq (HandSHeadRun.getT_eq s)
def loose : List PySem.Str := (["fraction", "add", "multiply", "raised", "zero_power", "unit_power", "power_product", "total", "back_key", "part_of", "dot", "power_key", "poly_dict", "dict_poly", "put_member", "put_product"] : List PySem.Str) ++ ([ "ring_poly", "turned_poly", "constant_poly", "unknown_poly", "add_poly", "scale_poly", "subtract_poly", "multiply_poly", "power_poly", "head_of", "degree_of", "derive", "value_at", "put_in", "made_first", "compare_powers"] : List PySem.Str) ++ ([ "_law_draws", "_law_take", "_law_pick", "_law_same", "_law_shuffled", "_law_is_int", "_law_gcd", "_law_frac", "_law_plus", "_law_minus", "_law_product", "_law_is_fraction", "_law_key", "_law_poly", "_law_joined", "_law_order"] : List PySem.Str) ++ ([ "_law_fraction", "_law_power", "_law_drawn", "_law_is_power", "_law_is_poly", "_law_values_fit", "_law_heads_fit"] : List PySem.Str)
theorem run (w : World) : HandSHeadRun.RunEqI R (PySem.W.view R.prog [0, 15, 63]) hk ob 2960 loose w := by
  unfold HandSHeadRun.RunEqI
  kernel_rfl
theorem binds : ∀ (K : PySem.W.Frag) (i : Nat) (p : Pd), pds[i]? = some p → ∀ fd, FunD K p.d.name p.d.qual p.d.params p.d.body p.d.scope [] [] (He.fAd K p.d.at_) fd → Binds K fd p.ps [] := by
  intro K i p h fd F
  match i, h with
  | 0, h => cases h; exact F.bindsN fun _ _ _ _ _ _ us hl => match us, hl with | [_, _], _ => rfl
  | 1, h => cases h; exact F.bindsN fun _ _ _ _ _ _ us hl => match us, hl with | [_, _], _ => rfl
  | 2, h => cases h; exact F.bindsN fun _ _ _ _ _ _ us hl => match us, hl with | [_, _], _ => rfl
  | 3, h => cases h; exact F.bindsN fun _ _ _ _ _ _ us hl => match us, hl with | [_, _], _ => rfl
  | 4, h => cases h; exact F.bindsN fun _ _ _ _ _ _ us hl => match us, hl with | [_], _ => rfl
  | 5, h => cases h; exact F.bindsN fun _ _ _ _ _ _ us hl => match us, hl with | [_, _], _ => rfl
  | 6, h => cases h; exact F.bindsN fun _ _ _ _ _ _ us hl => match us, hl with | [_, _], _ => rfl
  | 7, h => cases h; exact F.bindsN fun _ _ _ _ _ _ us hl => match us, hl with | [_], _ => rfl
  | 8, h => cases h; exact F.bindsN fun _ _ _ _ _ _ us hl => match us, hl with | [_], _ => rfl
  | 9, h => cases h; exact F.bindsN fun _ _ _ _ _ _ us hl => match us, hl with | [_, _, _], _ => rfl
  | 10, h => cases h; exact F.bindsN fun _ _ _ _ _ _ us hl => match us, hl with | [_, _], _ => rfl
  | 11, h => cases h; exact F.bindsN fun _ _ _ _ _ _ us hl => match us, hl with | [_, _], _ => rfl
  | 12, h => cases h; exact F.bindsN fun _ _ _ _ _ _ us hl => match us, hl with | [_, _], _ => rfl
  | 13, h => cases h; exact F.bindsN fun _ _ _ _ _ _ us hl => match us, hl with | [_], _ => rfl
  | 14, h => cases h; exact F.bindsN fun _ _ _ _ _ _ us hl => match us, hl with | [_, _], _ => rfl
  | 15, h => cases h; exact F.bindsN fun _ _ _ _ _ _ us hl => match us, hl with | [_, _, _], _ => rfl
  | 16, h => cases h; exact F.bindsN fun _ _ _ _ _ _ us hl => match us, hl with | [_, _, _, _], _ => rfl
  | 17, h => cases h; exact F.bindsN fun _ _ _ _ _ _ us hl => match us, hl with | [_, _], _ => rfl
  | 18, h => cases h; exact F.bindsN fun _ _ _ _ _ _ us hl => match us, hl with | [_, _], _ => rfl
  | 19, h => cases h; exact F.bindsN fun _ _ _ _ _ _ us hl => match us, hl with | [_, _], _ => rfl
  | 20, h => cases h; exact F.bindsN fun _ _ _ _ _ _ us hl => match us, hl with | [_, _], _ => rfl
  | 21, h => cases h; exact F.bindsN fun _ _ _ _ _ _ us hl => match us, hl with | [_, _, _], _ => rfl
  | 22, h => cases h; exact F.bindsN fun _ _ _ _ _ _ us hl => match us, hl with | [_, _, _], _ => rfl
  | 23, h => cases h; exact F.bindsN fun _ _ _ _ _ _ us hl => match us, hl with | [_, _, _], _ => rfl
  | 24, h => cases h; exact F.bindsN fun _ _ _ _ _ _ us hl => match us, hl with | [_, _, _], _ => rfl
  | 25, h => cases h; exact F.bindsN fun _ _ _ _ _ _ us hl => match us, hl with | [_, _, _], _ => rfl
  | 26, h => cases h; exact F.bindsN fun _ _ _ _ _ _ us hl => match us, hl with | [_], _ => rfl
  | 27, h => cases h; exact F.bindsN fun _ _ _ _ _ _ us hl => match us, hl with | [_], _ => rfl
  | 28, h => cases h; exact F.bindsN fun _ _ _ _ _ _ us hl => match us, hl with | [_, _, _], _ => rfl
  | 29, h => cases h; exact F.bindsN fun _ _ _ _ _ _ us hl => match us, hl with | [_, _], _ => rfl
  | 30, h => cases h; exact F.bindsN fun _ _ _ _ _ _ us hl => match us, hl with | [_, _, _], _ => rfl
  | 31, h => cases h; exact F.bindsN fun _ _ _ _ _ _ us hl => match us, hl with | [_, _], _ => rfl
  | 32, h => cases h; exact F.bindsN fun _ _ _ _ _ _ us hl => match us, hl with | [_, _, _], _ => rfl
  | 33, h => cases h; exact F.bindsN fun _ _ _ _ _ _ us hl => match us, hl with | [_, _], _ => rfl
  | 34, h => cases h; exact F.bindsN fun _ _ _ _ _ _ us hl => match us, hl with | [_, _], _ => rfl
  | 35, h => cases h; exact F.bindsN fun _ _ _ _ _ _ us hl => match us, hl with | [_, _], _ => rfl
  | 36, h => cases h; exact F.bindsN fun _ _ _ _ _ _ us hl => match us, hl with | [_, _], _ => rfl
  | 37, h => cases h; exact F.bindsN fun _ _ _ _ _ _ us hl => match us, hl with | [_, _], _ => rfl
  | 38, h => cases h; exact F.bindsN fun _ _ _ _ _ _ us hl => match us, hl with | [_], _ => rfl
  | 39, h => cases h; exact F.bindsN fun _ _ _ _ _ _ us hl => match us, hl with | [_, _], _ => rfl
  | 40, h => cases h; exact F.bindsN fun _ _ _ _ _ _ us hl => match us, hl with | [_, _], _ => rfl
  | 41, h => cases h; exact F.bindsN fun _ _ _ _ _ _ us hl => match us, hl with | [_, _], _ => rfl
  | 42, h => cases h; exact F.bindsN fun _ _ _ _ _ _ us hl => match us, hl with | [_, _], _ => rfl
  | 43, h => cases h; exact F.bindsN fun _ _ _ _ _ _ us hl => match us, hl with | [_, _], _ => rfl
  | 44, h => cases h; exact F.bindsN fun _ _ _ _ _ _ us hl => match us, hl with | [_], _ => rfl
  | 45, h => cases h; exact F.bindsN fun _ _ _ _ _ _ us hl => match us, hl with | [_, _], _ => rfl
  | 46, h => cases h; exact F.bindsN fun _ _ _ _ _ _ us hl => match us, hl with | [_, _], _ => rfl
  | 47, h => cases h; exact F.bindsN fun _ _ _ _ _ _ us hl => match us, hl with | [_, _], _ => rfl
  | 48, h => cases h; exact F.bindsN fun _ _ _ _ _ _ us hl => match us, hl with | [_, _], _ => rfl
  | 49, h => cases h; exact F.bindsN fun _ _ _ _ _ _ us hl => match us, hl with | [_], _ => rfl
  | 50, h => cases h; exact F.bindsN fun _ _ _ _ _ _ us hl => match us, hl with | [_, _, _], _ => rfl
  | 51, h => cases h; exact F.bindsN fun _ _ _ _ _ _ us hl => match us, hl with | [_, _, _, _], _ => rfl
  | 52, h => cases h; exact F.bindsN fun _ _ _ _ _ _ us hl => match us, hl with | [_, _], _ => rfl
  | 53, h => cases h; exact F.bindsN fun _ _ _ _ _ _ us hl => match us, hl with | [_, _], _ => rfl
  | 54, h => cases h; exact F.bindsN fun _ _ _ _ _ _ us hl => match us, hl with | [_, _, _, _], _ => rfl
  | 55, h => cases h; exact F.bindsN fun _ _ _ _ _ _ us hl => match us, hl with | [_, _, _], _ => rfl
  | 56, h => cases h; exact F.bindsN fun _ _ _ _ _ _ us hl => match us, hl with | [_], _ => rfl
  | i + 57, h => cases h
end K05

open PySem PySem.W PySem.Calls PyProof.Rows
set_option maxHeartbeats 0 in
theorem PySem.Challenge.cw_idealstold_k05_whole_reckoning_with_poly_holds : PySem.Challenge.rw_idealstold_k05_whole_reckoning_with_poly.Holds := by
  w_on; o_law
  refine HandSHeadRun.head_imp (r := OpenLaw.row PySem.Challenge.rw_idealstold_k05_whole_reckoning_with_poly) (q := view (OpenLaw.row PySem.Challenge.rw_idealstold_k05_whole_reckoning_with_poly).prog [0, 15, 63]) (H := K05.hk) (ob := K05.ob) (M := 2960) (loose := K05.loose) (d := HandSHeadRun.topDef (OpenLaw.row PySem.Challenge.rw_idealstold_k05_whole_reckoning_with_poly).prog 63) (kwd := []) K05.ob_eq
    K05.run (by kernel_rfl) (by kernel_rfl) (by kernel_rfl) (by rfl) (by first | assumption | decide +kernel) (by decide +kernel) ⟨rfl, rfl, rfl, rfl, rfl, by decide +kernel⟩ ?hw ?hc
  case hw => w_witness2
  case hc =>
    refine Dl.walk_lam (l := PySem.Challenge.rw_idealstold_k05_whole_reckoning_with_poly) (n := 63) (k := 4 * 40) (x := "script") rfl (by decide) (by kernel_rfl) ⟨rfl, by decide, by decide⟩ (by kernel_rfl) ?F
    intro w mg fa h Y G hmg0 a' c' P' o' fd' m1 m2 m3 m4 m5 m6
    obtain ⟨K, KX, c, nt⟩ := Y
    have hmg : mg ("law" : PySem.Str) = some (.ref fa) := by
      have e : (HandSHeadRun.topDef (OpenLaw.row PySem.Challenge.rw_idealstold_k05_whole_reckoning_with_poly).prog 63).name = ("law" : PySem.Str) := by kernel_rfl
      rw [← e]
      exact hmg0
    exact ⟨K, KX, Dl.law_at (n := 40) (li := 56) (j := 12) (pl := K05.p_law) (pj := K05.p_sorted_powers) KX G c nt K05.oks (K05.binds K) rfl rfl
      (fun fd F s v => (L2.FunD.bindsA (ps := ["script"]) F fun _ _ _ _ _ _ us hl => match us, hl with | [_], _ => rfl) s [v] rfl) hmg (by decide +kernel) (by decide +kernel) rfl rfl m1 m2 m3 m4 m5 m6 K05.runs⟩
