import PyProof.Rows.All
import Wide.All
import OpenK.AllK
import Wide.FinOn
import KE.KStateDown
import Lean
import HandS.ForMost
import HandS.TupMul
import HandS.TupAny
import HandS.TupLe
import HandS.Deep
import KE.LtSeq
import KE.DataFind
import HandS.Style
import HandS.Wide
import HandS.Gcd
import HandS.IsInst
import HandS.Flow
import HandS.Zip
import HandS.TryOnly
import HandS.Conv
import HandS.Defaults
import HandS.HeadEnd
import HandS.HeadHook2
import HandS.Head0
import HandS.Head1
import HandS.Head2
import PySem.Challenge.RW_idealstold_k01_judge_of_orders

section
set_option Elab.async false
set_option linter.all false
set_option maxRecDepth 100000
set_option maxHeartbeats 4000000
/-! rules that the hand layer lacks: t[::-1], t * 1, sum of a tuple, t > u -/
namespace Dl
open PySem PySem.Spec PyProof.Rows L2 HT

/-! ### t[::-1] of a tuple -/
section
variable {prog : Program} {w : World} {A : Around} {E : Value → Shared → Prop} {s : Shared}
theorem sliceApplied_rev {sl : Addr} {vl vu vs : Value} {n : Nat} {Q : Int × Int × Nat → Shared → Prop} (hs : s.heap.IsSliceOf sl vl vu vs) (pl : IsPart vl none) (pu : IsPart vu none) (ps : IsPart vs (some (-1)))
    (h : Q ((n : Int) - 1, -1, n) s) : wpAny (model prog w) A (Builtin.Slice.sliceApplied (.ref sl) (pure (n : Int))) Q E s := by
  obtain ⟨os, hos, hcs, hds⟩ := id hs
  unfold Builtin.Slice.sliceApplied Builtin.Slice.sliceFields
  refine wpAny_bind (wpAny_bind (wpAny_field hos hds (x := vl) rfl (wpAny_bind (wpAny_field hos hds (x := vu) rfl (wpAny_bind (wpAny_field hos hds (x := vs) rfl (wpAny_pure ?_)))))))
  refine wpAny_bind (slicePart_ ps ?_)
  show wpAny _ _ (if ((-1 : Int) == 0) = true then _ else _) _ _ s
  rw [if_neg (by decide)]
  refine wpAny_bind (slicePart_ pl (wpAny_bind (slicePart_ pu (wpAny_bind (wpAny_pure ?_)))))
  have e : Builtin.Slice.slicePlaces ((n : Int) - 1) (-1) (-1) = n := by
    unfold Builtin.Slice.slicePlaces
    simp only [show ¬ ((-1 : Int) > 0) by decide, if_false, show (- (-1 : Int)) = 1 by decide, Int.ediv_one]
    split <;> omega
  show wpAny _ _ (pure ((n : Int) - 1, (-1 : Int), Builtin.Slice.slicePlaces ((n : Int) - 1) (-1) (-1))) _ _ s
  rw [e]
  exact wpAny_pure h
theorem fm_congr {α β : Type} {f g : α → Option β} : ∀ l : List α, (∀ x ∈ l, f x = g x) → l.filterMap f = l.filterMap g
  | [], _ => rfl
  | a :: l, h => by rw [List.filterMap_cons, List.filterMap_cons, h a List.mem_cons_self, fm_congr l fun x hx => h x (List.mem_cons_of_mem _ hx)]
theorem pick_rev (items : Array Value) : ((List.range items.size).filterMap fun (k : Nat) => items[(((items.size : Int) - 1) + (k : Int) * (-1)).toNat]?).toArray = items.toList.reverse.toArray := by
  have e : ((List.range items.size).filterMap fun (k : Nat) => items[(((items.size : Int) - 1) + (k : Int) * (-1)).toNat]?) = ((List.range items.size).map fun k => items.size - 1 - k).filterMap (items[·]?) := by
    rw [List.filterMap_map]
    refine fm_congr _ fun k hk => ?_
    have := List.mem_range.mp hk
    show items[(((items.size : Int) - 1) + (k : Int) * (-1)).toNat]? = items[items.size - 1 - k]?
    rw [show (((items.size : Int) - 1) + (k : Int) * (-1)).toNat = items.size - 1 - k by omega]
  rw [e, PySem.W.krv_range, List.filterMap_reverse, PySem.W.krv_all]
theorem getItem_tuple_rev {t sl : Addr} {items : Array Value} {vl vu vs : Value} {Q : Value → Shared → Prop} (ht : IsTup s.heap t items) (hs : s.heap.IsSliceOf sl vl vu vs) (pl : IsPart vl none) (pu : IsPart vu none) (ps : IsPart vs (some (-1)))
    (h : Q (.ref s.heap.objs.size) { s with heap := s.heap.push { cls := .type "tuple", data := .seq items.toList.reverse.toArray } })
    (hsz : items.size ≤ sizeLine) : wpAny (model prog w) A (getItem (.ref t) (.ref sl)) Q E s := by
  have htake : sizeOk (.seq items.toList.reverse.toArray) := by
    show items.toList.reverse.toArray.size ≤ sizeLine
    rw [List.size_toArray, List.length_reverse, Array.length_toList]
    exact hsz
  obtain ⟨os, hos, hcs, hds⟩ := id hs
  have hTs : s.TypeIs (.ref sl) "slice" := ⟨os, hos, hcs⟩
  unfold getItem
  try with_reducible refine wpAny_holding ?_
  first | refine wpAny_bind (wpAny_pure ?_) | skip
  refine wpAny_bind (wpAny_sequenceKey ht.typeIs (by decide) ?_)
  refine wpAny_bind (wpAny_callSpecial?_slot (name := Str.ofString "__getitem__") ht.typeIs PyProof.Rows.slot_tuple_getitem
    (wpAny_call_entry PyProof.Rows.slot_tuple_getitem ht.typeIs entry_tuple_getitem ?_ (args_tuple_getitem _ _)))
  show wpAny _ _ (Builtin.Tuple.tupleItemsOf (.ref t) >>= _) _ _ s
  refine wpAny_bind (tupleItemsOf_ ht ?_)
  refine wpAny_bind (wpAny_typeOf hTs ?_)
  rw [if_pos (by decide)]
  refine wpAny_bind (sliceApplied_rev hs pl pu ps ?_)
  have hno : ¬ ((((items.size : Int) - 1) == 0 && (-1 : Int) == 1 && items.size == items.size) = true) := by
    intro q
    rw [Bool.and_eq_true, Bool.and_eq_true] at q
    exact absurd q.1.2 (by decide)
  show wpAny _ _ (if (((items.size : Int) - 1) == 0 && (-1 : Int) == 1 && items.size == items.size) = true then _ else _) _ _ s
  rw [if_neg hno, pick_rev]
  first
    | exact wpAny_bind (m := Builtin.Tuple.tupleExact _) (wpAny_newObj_type (wpAny_pure ⟨_, rfl, wpAny_pure h⟩) htake)
    | exact wpAny_bind (m := Builtin.Tuple.tupleExact _) (wpAny_newObj_type (wpAny_bind (wpAny_pure (wpAny_pure ⟨_, rfl, wpAny_pure h⟩))) htake)
    | exact wpAny_bind (wpAny_bind (m := Builtin.Tuple.tupleExact _) (wpAny_newObj_type (wpAny_pure (wpAny_pure ⟨_, rfl, wpAny_pure h⟩)) htake))
    | exact wpAny_bind (wpAny_bind (m := Builtin.Tuple.tupleExact _) (wpAny_newObj_type (wpAny_pure ⟨_, rfl, wpAny_pure h⟩) htake))
/-! ### sum of a tuple -/
theorem sum_rawT {l : Addr} {its : List Value} {ns : List Int} {Q : Value → Shared → Prop} (hh : A.handled = none) (hl : s.heap.IsTuple l its.toArray) (hi : IntsAre its ns)
    (h : ∀ h' tk t', (∀ b o, s.heap.get? b = some o → h'.get? b = some o) → Q (.int ns.sum t') { s with heap := h', toks := tk }) : wpAny (model prog w) A (call (.builtin "sum") [.ref l]) Q E s := by
  obtain ⟨xs, e⟩ := hi.allInts.items
  have hn : numsOf (intItems xs).toList = ns := by rw [← e]; exact hi.numsOf
  rw [nums_intItems] at hn
  rw [e] at hl
  have hlt : l < s.heap.objs.size := by obtain ⟨_, e, _⟩ := hl; exact Heap.lt_size e
  have kp : ∀ b o, s.heap.get? b = some o → (s.heap.push { cls := .type "tuple_iterator", data := .fields #[.ref l, .int 0 0] }).get? b = some o := fun b o e => Heap.get?_push_of_some _ e
  refine call_sum_walkG (wpAny_pyIter_tuple hl ?_)
  refine ⟨_, [s.heap.objs.size, l], [s.heap.objs.size], _, _, _, numAt xs, rfl, Walks.tuple (A := A.in1) hh s.heap.objs.size l (Nat.ne_of_lt hlt) (intItems xs), ⟨⟨_, Heap.get?_push_size _ rfl, rfl, rfl⟩, ?_⟩, fun b hb => ?_, (fun _ _ => intItems_at), fun h' tk t' hk => ?_⟩
  · obtain ⟨o, e1, e2⟩ := hl
    exact ⟨o, kp _ _ e1, e2⟩
  · show b < (s.heap.push _).objs.size
    rw [Heap.size_push]
    rcases List.mem_cons.mp hb with rfl | hb
    · exact Nat.lt_succ_self _
    · rcases List.mem_cons.mp hb with rfl | hb
      · exact Nat.lt_succ_of_lt hlt
      · cases hb
  · have := h h' tk t' fun b o e => hk b o (by simp; exact Nat.ne_of_lt (Heap.lt_size e)) (kp _ _ e)
    rw [← hn] at this
    simpa [preSum_eq, intItems, List.take_of_length_le] using this
/-! ### t * 1 -/
theorem tuple_mul1 (l : Addr) (items : Array Value) (n : Nat) (dd : Option Addr) (sl : Array (Option Value)) (u : Tok) :
    Meets (Builtin.«tuple.__mul__» ⟨[.ref l, .int 1 u], []⟩) (fun _ R s => s.heap.get? l = some { cls := .type "tuple", dict := dd, data := .seq items n, slots := sl } ∧
      R (.ok (.ret (Value.ref l))) s) :=
  .of_wp fun prog w A R s h => by
    obtain ⟨hp, g, d, tk, os⟩ := s
    obtain ⟨hl, h⟩ := h
    have f1 := AutoSeq1.idx_int
    have c1 : (items.isEmpty || (1 : Int) == 1) = true := by simp
    wp_walk using wpAny_loadPart' hl
    repeat (first
      | (refine wpAny_ite_false (decide_eq_false (by decide)) ?_; wp_walk using wpAny_loadPart' hl)
      | (refine wpAny_ite_true (decide_eq_true c1) ?_; wp_walk using wpAny_loadPart' hl))
    exact ⟨_, rfl, h⟩
end
section
variable {X : Cx}
def tRevT (K : PySem.W.Frag) (te : TE) : TE := fun σ H Q => te σ H fun x H1 => ∃ a xs, x = .ref a ∧ SqT K H1 a xs ∧ ∀ p, H1 p = none → Q (.ref p) (upd H1 p (.tup xs.reverse))
def rRepT1 (K : PySem.W.Frag) : R2 := fun x y H Q => ∃ l xs, x = .ref l ∧ y = .int 1 ∧ SqT K H l xs ∧ Q (.ref l) H
theorem op_repT1 : OpR X (binaryOp .Mult) (rRepT1 X.K) := by
  intro pins s σ H x y v u Q I rx ry h
  obtain ⟨l, xs, rfl, rfl, hT, q⟩ := h
  cases rx
  obtain ⟨t, rfl⟩ := ry
  obtain ⟨its, r, ⟨⟨cls, dd, data, sl⟩, ho, hc, n, hd⟩, hs⟩ := I.tuple hT
  simp only at hc hd
  subst hc hd
  refine wpAny_binaryOp_repeat_ref (T := "tuple") (U := "int") (by decide) ⟨_, ho, rfl⟩ (fun s' => typeIs_int s' 1 t) noFill_tuple_mul F.fills_int_mul F.slot_int_rmul repeat_tuple F.slot_int_index.lookup
    (call_meets F.slot_int_rmul (typeIs_int s 1 t) F.entry_int_rmul (F.args_int_rmul_2 _ _) (int_rmul_tuple 1 t l its.toArray n dd sl)
      ⟨ho, rfl, ⟨_, ho, rfl⟩, call_meets F.slot_tuple_mul ⟨_, ho, rfl⟩ F.entry_tuple_mul (F.args_tuple_mul_2 _ _) (tuple_mul1 l its.toArray n dd sl t) ⟨ho, ?_⟩⟩)
  exact ⟨.ref l, H, I, rfl, q⟩
def rSumT (K : PySem.W.Frag) : List V → Hp → VK → Prop := fun vs H Q => ∃ (a : Addr) (ns : List Int), vs = [V.ref a] ∧ SqT K H a (ns.map V.int) ∧ Q (.int ns.sum) H
theorem cr_sumT (hc : X.calm = true) : CallR X (.builtin "sum") (rSumT X.K) := by
  intro pins s σ H vs us Q I r h
  obtain ⟨a, ns, rfl, hs, q⟩ := h
  obtain ⟨its, rv, hl, _⟩ := I.tuple hs
  rw [Vals.ref1 r]
  exact sum_rawT (I.ok.hd hc) hl rv.ints fun h' tk t' hk => ⟨.int _, H, I.kept hk, ⟨_, rfl⟩, q⟩
/-- lexicographic order of lists of ints -/
def lexC : List Int → List Int → Ordering
  | [], [] => .eq
  | [], _ :: _ => .lt
  | _ :: _, [] => .gt
  | x :: xs, y :: ys => if x < y then .lt else if y < x then .gt else lexC xs ys
theorem lexAt_gt (ns ms : List Int) : ∀ (k i : Nat), k + i = min ns.length ms.length →
    Ob.lexAt (fun j => decide (ns.getD j 0 = ms.getD j 0)) (fun j => decide (ms.getD j 0 < ns.getD j 0)) (decide (ns.length > ms.length)) i k = (lexC (ns.drop i) (ms.drop i) == .gt)
  | 0, i, h => by
    rw [Ob.lexAt_zero]
    by_cases h1 : ns.length > ms.length
    · rw [decide_eq_true h1]
      have e : i = ms.length := by omega
      rw [e, List.drop_length]
      cases q : ns.drop ms.length with
      | nil => have := List.drop_eq_nil_iff.mp q; omega
      | cons a b => rfl
    · rw [decide_eq_false h1]
      have e : i = ns.length := by omega
      rw [e, List.drop_length]
      cases q : ms.drop ns.length with
      | nil => rfl
      | cons a b => rfl
  | k + 1, i, h => by
    have h1 : i < ns.length := by omega
    have h2 : i < ms.length := by omega
    rw [Ob.lexAt_succ, List.drop_eq_getElem_cons h1, List.drop_eq_getElem_cons h2]
    have g1 : ns.getD i 0 = ns[i] := by simp [h1]
    have g2 : ms.getD i 0 = ms[i] := by simp [h2]
    simp only [g1, g2]
    by_cases he : ns[i] = ms[i]
    · simp only [he, decide_true, if_true]
      rw [lexAt_gt ns ms k (i + 1) (by omega)]
      simp [lexC]
    · simp only [he, decide_false, Bool.false_eq_true, if_false]
      unfold lexC
      by_cases hl : ns[i] < ms[i]
      · have : ¬ ms[i] < ns[i] := by omega
        simp [hl, this]
      · have : ms[i] < ns[i] := by omega
        simp [hl, this]
theorem lexAt_lt (ns ms : List Int) : ∀ (k i : Nat), k + i = min ns.length ms.length →
    Ob.lexAt (fun j => decide (ns.getD j 0 = ms.getD j 0)) (fun j => decide (ns.getD j 0 < ms.getD j 0)) (decide (ns.length < ms.length)) i k = (lexC (ns.drop i) (ms.drop i) == .lt)
  | 0, i, h => by
    rw [Ob.lexAt_zero]
    by_cases h1 : ns.length < ms.length
    · rw [decide_eq_true h1]
      have e : i = ns.length := by omega
      rw [e, List.drop_length]
      cases q : ms.drop ns.length with
      | nil => have := List.drop_eq_nil_iff.mp q; omega
      | cons a b => rfl
    · rw [decide_eq_false h1]
      have e : i = ms.length := by omega
      rw [e, List.drop_length]
      cases q : ns.drop ms.length with
      | nil => rfl
      | cons a b => rfl
  | k + 1, i, h => by
    have h1 : i < ns.length := by omega
    have h2 : i < ms.length := by omega
    rw [Ob.lexAt_succ, List.drop_eq_getElem_cons h1, List.drop_eq_getElem_cons h2]
    have g1 : ns.getD i 0 = ns[i] := by simp [h1]
    have g2 : ms.getD i 0 = ms[i] := by simp [h2]
    simp only [g1, g2]
    by_cases he : ns[i] = ms[i]
    · simp only [he, decide_true, if_true]
      rw [lexAt_lt ns ms k (i + 1) (by omega)]
      simp [lexC]
    · simp only [he, decide_false, Bool.false_eq_true, if_false]
      unfold lexC
      by_cases hl : ns[i] < ms[i]
      · simp [hl]
      · have : ms[i] < ns[i] := by omega
        simp [hl, this]
def rGtT (K : PySem.W.Frag) : R2 := fun x y H Q => ∃ (a b : Addr) (ns ms : List Int), x = .ref a ∧ y = .ref b ∧ SqT K H a (ns.map V.int) ∧ SqT K H b (ms.map V.int) ∧ Q (.bl (lexC ns ms == .gt)) H
def rLtU (K : PySem.W.Frag) : R2 := fun x y H Q => ∃ (a b : Addr) (ns ms : List Int), x = .ref a ∧ y = .ref b ∧ SqT K H a (ns.map V.int) ∧ SqT K H b (ms.map V.int) ∧ Q (.bl (lexC ns ms == .lt)) H
theorem op_gtT (hu : X.A.units < cLine) : OpR X (compareOp .Gt) (rGtT X.K) := by
  intro pins s σ H x y v u Q I rx ry h
  obtain ⟨a, b, ns, ms, rfl, rfl, ha, hb, q⟩ := h
  cases rx
  cases ry
  obtain ⟨its, r1, p1, _⟩ := I.tuple ha
  obtain ⟨its2, r2, p2, _⟩ := I.tuple hb
  have i1 : IntsAre its ns := Vals.ints r1
  have i2 : IntsAre its2 ms := Vals.ints r2
  have e1 : its.toArray.size = ns.length := by rw [List.size_toArray]; exact i1.length
  have e2 : its2.toArray.size = ms.length := by rw [List.size_toArray]; exact i2.length
  have at1 : ∀ j (h1 : j < its.toArray.size), ∃ t, its.toArray[j] = .int (ns.getD j 0) t := fun j h1 => PyProof.Rows.IntsAre.int_at i1 _ _ (by simp at h1; simp [h1])
  have at2 : ∀ j (h1 : j < its2.toArray.size), ∃ t, its2.toArray[j] = .int (ms.getD j 0) t := fun j h1 => PyProof.Rows.IntsAre.int_at i2 _ _ (by simp at h1; simp [h1])
  have R := Ob.RcOp.tuples_gt (A := X.A) (s := s) (e := fun j => decide (ns.getD j 0 = ms.getD j 0)) (r := fun j => decide (ms.getD j 0 < ns.getD j 0)) p1 p2 hu (fun j h1 h2 => by
    obtain ⟨t, et⟩ := at1 j h1
    obtain ⟨t', et'⟩ := at2 j h2
    rw [et, et']
    have z : (ns.getD j 0 == ms.getD j 0) = decide (ns.getD j 0 = ms.getD j 0) := by
      by_cases q : ns.getD j 0 = ms.getD j 0
      · rw [decide_eq_true q]; exact beq_iff_eq.mpr q
      · rw [decide_eq_false q]; exact beq_eq_false_iff_ne.mpr q
    rw [← z]
    exact SeqAt.EqAt.int_int _ _ _ _) (fun j h1 h2 _ => by
    obtain ⟨t, et⟩ := at1 j h1
    obtain ⟨t', et'⟩ := at2 j h2
    rw [et, et']
    exact Ob.RcOp.gt_int _ _ _ _)
  rw [e1, e2, lexAt_gt ns ms _ 0 (by omega)] at R
  have z : wpAny (model X.prog X.w) X.A (compareOp .Gt (.ref a) (.ref b)) (EP X pins σ Q) X.xe s := R X.prog X.w X.xe (EP X pins σ Q) ⟨.bl _, H, I, rfl, q⟩
  exact z
theorem op_ltU (hu : X.A.units < cLine) : OpR X (compareOp .Lt) (rLtU X.K) := by
  intro pins s σ H x y v u Q I rx ry h
  obtain ⟨a, b, ns, ms, rfl, rfl, ha, hb, q⟩ := h
  cases rx
  cases ry
  obtain ⟨its, r1, p1, _⟩ := I.tuple ha
  obtain ⟨its2, r2, p2, _⟩ := I.tuple hb
  have i1 : IntsAre its ns := Vals.ints r1
  have i2 : IntsAre its2 ms := Vals.ints r2
  have e1 : its.toArray.size = ns.length := by rw [List.size_toArray]; exact i1.length
  have e2 : its2.toArray.size = ms.length := by rw [List.size_toArray]; exact i2.length
  have at1 : ∀ j (h1 : j < its.toArray.size), ∃ t, its.toArray[j] = .int (ns.getD j 0) t := fun j h1 => PyProof.Rows.IntsAre.int_at i1 _ _ (by simp at h1; simp [h1])
  have at2 : ∀ j (h1 : j < its2.toArray.size), ∃ t, its2.toArray[j] = .int (ms.getD j 0) t := fun j h1 => PyProof.Rows.IntsAre.int_at i2 _ _ (by simp at h1; simp [h1])
  have R := Ob.RcOp.tuples_lt (A := X.A) (s := s) (e := fun j => decide (ns.getD j 0 = ms.getD j 0)) (r := fun j => decide (ns.getD j 0 < ms.getD j 0)) p1 p2 hu (fun j h1 h2 => by
    obtain ⟨t, et⟩ := at1 j h1
    obtain ⟨t', et'⟩ := at2 j h2
    rw [et, et']
    have z : (ns.getD j 0 == ms.getD j 0) = decide (ns.getD j 0 = ms.getD j 0) := by
      by_cases q : ns.getD j 0 = ms.getD j 0
      · rw [decide_eq_true q]; exact beq_iff_eq.mpr q
      · rw [decide_eq_false q]; exact beq_eq_false_iff_ne.mpr q
    rw [← z]
    exact SeqAt.EqAt.int_int _ _ _ _) (fun j h1 h2 _ => by
    obtain ⟨t, et⟩ := at1 j h1
    obtain ⟨t', et'⟩ := at2 j h2
    rw [et, et']
    exact Ob.RcOp.lt_int _ _ _ _)
  rw [e1, e2, lexAt_lt ns ms _ 0 (by omega)] at R
  have z : wpAny (model X.prog X.w) X.A (compareOp .Lt (.ref a) (.ref b)) (EP X pins σ Q) X.xe s := R X.prog X.w X.xe (EP X pins σ Q) ⟨.bl _, H, I, rfl, q⟩
  exact z
def rLtL (K : PySem.W.Frag) : R2 := fun x y H Q => ∃ (a b : Addr) (ns ms : List Int), x = .ref a ∧ y = .ref b ∧ SqL K H a (ns.map V.int) ∧ SqL K H b (ms.map V.int) ∧ Q (.bl (lexC ns ms == .lt)) H
theorem firstLt_lexAt {e r : Nat → Bool} {z : Bool} : ∀ (k i : Nat), SeqAt.firstLt e r z (List.range' i k) = Ob.lexAt e r z i k
  | 0, i => by rw [List.range'_zero, Ob.lexAt_zero]; rfl
  | k + 1, i => by
    rw [List.range'_succ, Ob.lexAt_succ, ← firstLt_lexAt k (i + 1)]
    rfl
theorem op_ltL (hu : X.A.units < cLine) : OpR X (compareOp .Lt) (rLtL X.K) := by
  intro pins s σ H x y v u Q I rx ry h
  obtain ⟨a, b, ns, ms, rfl, rfl, ha, hb, q⟩ := h
  cases rx
  cases ry
  obtain ⟨its, r1, ⟨o1, n1, ho1, hc1, hd1, ht1⟩, _⟩ := I.list ha
  obtain ⟨its2, r2, ⟨o2, n2, ho2, hc2, hd2, ht2⟩, _⟩ := I.list hb
  have i1 : IntsAre its ns := Vals.ints r1
  have i2 : IntsAre its2 ms := Vals.ints r2
  have e1 : its.toArray.size = ns.length := by rw [List.size_toArray]; exact i1.length
  have e2 : its2.toArray.size = ms.length := by rw [List.size_toArray]; exact i2.length
  have at1 : ∀ j (h1 : j < its.toArray.size), ∃ t, its.toArray[j] = .int (ns.getD j 0) t := fun j h1 => PyProof.Rows.IntsAre.int_at i1 _ _ (by simp at h1; simp [h1])
  have at2 : ∀ j (h1 : j < its2.toArray.size), ∃ t, its2.toArray[j] = .int (ms.getD j 0) t := fun j h1 => PyProof.Rows.IntsAre.int_at i2 _ _ (by simp at h1; simp [h1])
  have R := SeqAt.RcLt.lists (A := X.A) (s := s) (l := a) (b := b) (items := its.toArray) (items2 := its2.toArray) (e := fun j => decide (ns.getD j 0 = ms.getD j 0)) (r := fun j => decide (ns.getD j 0 < ms.getD j 0)) ⟨_, ho1, hc1, _, ht1⟩ ⟨_, ho2, hc2, _, ht2⟩ hu (fun j h1 h2 => by
    obtain ⟨t, et⟩ := at1 j h1
    obtain ⟨t', et'⟩ := at2 j h2
    rw [et, et']
    have z : (ns.getD j 0 == ms.getD j 0) = decide (ns.getD j 0 = ms.getD j 0) := by
      by_cases q : ns.getD j 0 = ms.getD j 0
      · rw [decide_eq_true q]; exact beq_iff_eq.mpr q
      · rw [decide_eq_false q]; exact beq_eq_false_iff_ne.mpr q
    rw [← z]
    exact SeqAt.EqAt.int_int _ _ _ _) (fun j h1 h2 _ => by
    obtain ⟨t, et⟩ := at1 j h1
    obtain ⟨t', et'⟩ := at2 j h2
    rw [et, et']
    exact Ob.RcOp.lt_int _ _ _ _)
  rw [e1, e2, List.range_eq_range', firstLt_lexAt, lexAt_lt ns ms _ 0 (by omega)] at R
  have z : wpAny (model X.prog X.w) X.A (compareOp .Lt (.ref a) (.ref b)) (EP X pins σ Q) X.xe s := R X.prog X.w X.xe (EP X pins σ Q) ⟨.bl _, H, I, rfl, q⟩
  exact z
/-- l.remove(x), data of any depth -/
def rRemoveD (K : PySem.W.Frag) : V → List V → Hp → VK → Prop := fun x xs H Q => ∃ (a : Addr) (zs : List V) (y : V) (d : PyData) (ds : List PyData) (j : Nat), x = V.ref a ∧ xs = [y] ∧ H a = some (.lst zs) ∧ DpAll K H zs ds ∧ Dp K H y d ∧
  SeqAt.shaped (.list ds) = true ∧ SeqAt.shaped d = true ∧ (ds.findIdx? fun z => PyData.eqv z d) = some j ∧ Q .non (upd H a (.lst (zs.eraseIdx j)))
theorem mt_removeD (hu : X.A.units + 65 < cLine) : MtR X "list.remove" (rRemoveD X.K) := by
  intro pins s σ H x xs v us Q I rx rxs h
  obtain ⟨a, zs, y, d, ds, j, rfl, rfl, hH, ha, hy, sl, sd, hp, q⟩ := h
  cases rx
  cases rxs with
  | cons ry rt =>
    rename_i uy ut
    cases rt
    obtain ⟨bs, r1⟩ := Dp.reads I d y uy hy ry
    have hxs : PyData.canLayAll0 ds = true := SeqAt.canLay_of_shaped sl
    have hroom : X.A.units + 1 + min (PyData.depthAll ds) d.depth < cLine := room_in_shaped sd hu
    obtain ⟨z, its, n, rv, hl, e0⟩ := I.lstM hH
    obtain ⟨as, h4⟩ := Dp.readsAll I ds _ its ha rv
    have hn : its.length = ds.length := SeqAt.ReadsAll.length ds its as h4
    have hmap : its.map (SeqAt.readOf s.heap) = ds := SeqAt.readsAll_map ds its as hxs h4
    obtain ⟨hjd, hz, hno⟩ := List.findIdx?_eq_some_iff_getElem.mp hp
    have hjl : j < its.length := by omega
    have hj : j < its.toArray.size := by simpa using hjl
    have at_ : ∀ (m : Nat) (hm : m < its.toArray.size) (z' : PyData), ds[m]? = some z' → SeqAt.readOf s.heap its.toArray[m] = z' := by
      intro m hm z' hz'
      have hml : m < its.length := by simpa using hm
      rw [← hmap, List.getElem?_map, List.getElem?_eq_getElem hml] at hz'
      have e1 : SeqAt.readOf s.heap its[m] = z' := Option.some.inj (show some (SeqAt.readOf s.heap its[m]) = some z' from hz')
      simpa using e1
    refine call_meets PySem.F.slot_list_remove ⟨_, e0, rfl⟩ PySem.F.entry_list_remove (PySem.F.args_list_remove_2 _ _)
      (SeqAt.list_removeAt a its.toArray n none #[] uy (fun u => PyData.eqv (SeqAt.readOf s.heap u) d) j hj ?_ ?_ (by rw [List.size_toArray, ← hl]; exact z)) ⟨e0, SeqAt.items_eqAt (vs := its.toArray) (show ReadsAll s.heap its.toArray.toList ds as from h4) r1 hxs (SeqAt.canLay_of_shaped sd) hroom, ?_⟩
    · show PyData.eqv (SeqAt.readOf s.heap its.toArray[j]) d = true
      rw [at_ j hj _ (List.getElem?_eq_getElem hjd)]
      exact hz
    · intro m hm hmj
      have hmd : m < ds.length := by omega
      show PyData.eqv (SeqAt.readOf s.heap its.toArray[m]) d = false
      rw [at_ m hm _ (List.getElem?_eq_getElem hmd)]
      have := hno m hmj
      simpa using this
    · refine ⟨.non, _, I.lset (its' := its.eraseIdx j) hH e0 ?_ (rv.eraseIdx j) ?_, rfl, q⟩
      · show its.toArray.eraseIdxIfInBounds j = (its.eraseIdx j).toArray
        rw [List.eraseIdxIfInBounds_toArray]
      · have := List.length_eraseIdx_le zs j
        omega
end
end Dl
end

section
set_option Elab.async false
set_option linter.all false
set_option maxRecDepth 100000
/-! Dl: deep data over the hand layer. Data, a store of mutable objects, a small language, its big step meaning. -/
namespace Dl
open PySem PySem.Spec PyProof.Rows L2

/-- a datum: tuples are deep, lists and dicts stand in the store, ro is a list that is never written -/
inductive D where
  | non | bl (b : Bool) | int (i : Int) | str (x : Str) | tup (ds : List D) | ref (l : Nat) | ro (ds : List D)
  deriving Inhabited

mutual
def D.beq : D → D → Bool
  | .non, .non => true
  | .bl a, .bl b => a == b
  | .int a, .int b => decide (a = b)
  | .str a, .str b => decide (a = b)
  | .tup a, .tup b => D.beqs a b
  | .ref a, .ref b => a == b
  | .ro a, .ro b => D.beqs a b
  | _, _ => false
def D.beqs : List D → List D → Bool
  | [], [] => true
  | a :: as, b :: bs => D.beq a b && D.beqs as bs
  | _, _ => false
end
mutual
theorem D.eq_of_beq : ∀ a b : D, D.beq a b = true → a = b
  | .non, b, h => by cases b <;> first | rfl | simp [D.beq] at h
  | .bl x, b, h => by cases b <;> simp [D.beq] at h; subst h; rfl
  | .int x, b, h => by cases b <;> simp [D.beq] at h; subst h; rfl
  | .str x, b, h => by cases b <;> simp [D.beq] at h; subst h; rfl
  | .tup x, b, h => by
    cases b with
    | tup y => rw [D.eqs_of_beqs x y (by simpa [D.beq] using h)]
    | _ => simp [D.beq] at h
  | .ref x, b, h => by cases b <;> simp [D.beq] at h; subst h; rfl
  | .ro x, b, h => by
    cases b with
    | ro y => rw [D.eqs_of_beqs x y (by simpa [D.beq] using h)]
    | _ => simp [D.beq] at h
theorem D.eqs_of_beqs : ∀ a b : List D, D.beqs a b = true → a = b
  | [], [], _ => rfl
  | [], _ :: _, h => by simp [D.beqs] at h
  | _ :: _, [], h => by simp [D.beqs] at h
  | a :: as, b :: bs, h => by
    simp only [D.beqs, Bool.and_eq_true] at h
    rw [D.eq_of_beq a b h.1, D.eqs_of_beqs as bs h.2]
end
mutual
theorem D.beq_self : ∀ a : D, D.beq a a = true
  | .non => rfl
  | .bl x => by simp [D.beq]
  | .int x => by simp [D.beq]
  | .str x => by simp [D.beq]
  | .tup x => by simp only [D.beq]; exact D.beqs_self x
  | .ref x => by simp [D.beq]
  | .ro x => by simp only [D.beq]; exact D.beqs_self x
theorem D.beqs_self : ∀ a : List D, D.beqs a a = true
  | [] => rfl
  | a :: as => by simp only [D.beqs, D.beq_self a, D.beqs_self as, Bool.and_self]
end
instance : DecidableEq D := fun a b => if h : D.beq a b = true then isTrue (D.eq_of_beq a b h) else isFalse fun e => h (e ▸ D.beq_self a)

/-- an object of the store -/
inductive Ob where
  | lst (ds : List D)
  | dk (kvs : List (Key × D))
  | dt (kvs : List (List Key × D))
  deriving DecidableEq, Inhabited

abbrev Store := List Ob
/-- the slots of a def -/
abbrev Sl := List (Option D)
def M (α : Type) := Store → Option (α × Store)
@[inline] def M.pur {α : Type} (a : α) : M α := fun S => some (a, S)
@[inline] def M.bnd {α β : Type} (m : M α) (f : α → M β) : M β := fun S => match m S with | some (a, S') => f a S' | none => none
instance : Monad M := { pure := M.pur, bind := M.bnd }
def fail {α : Type} : M α := fun _ => none
def getO (l : Nat) : M Ob := fun S => match S[l]? with | some o => some (o, S) | none => none
def setO (l : Nat) (o : Ob) : M Unit := fun S => if l < S.length then some ((), S.set l o) else none
def newO (o : Ob) : M D := fun S => some (.ref S.length, S ++ [o])
def need (b : Bool) : M Unit := fun S => if b then some ((), S) else none

/-- what holds behind a run that ends -/
def wp {α : Type} (m : M α) (Q : α → Store → Prop) (S : Store) : Prop := match m S with | some (a, S') => Q a S' | none => False
section
variable {α β : Type}
@[simp] theorem wp_pure (a : α) (Q : α → Store → Prop) (S : Store) : wp (pure a : M α) Q S = Q a S := rfl
@[simp] theorem wp_bind (m : M α) (f : α → M β) (Q : β → Store → Prop) (S : Store) : wp (m >>= f) Q S = wp m (fun a S' => wp (f a) Q S') S := by
  show (match (match m S with | some (a, S') => f a S' | none => none) with | some (a, S') => Q a S' | none => False) = _
  unfold wp
  cases m S with
  | none => rfl
  | some p => rfl
@[simp] theorem wp_fail (Q : α → Store → Prop) (S : Store) : wp (fail : M α) Q S = False := rfl
theorem wp_mono {m : M α} {Q R : α → Store → Prop} {S : Store} (h : wp m Q S) (k : ∀ a S', Q a S' → R a S') : wp m R S := by
  unfold wp at *
  cases e : m S with
  | none => rw [e] at h; exact h
  | some p => rw [e] at h; exact k _ _ h
theorem wp_of {m : M α} {Q : α → Store → Prop} {S S' : Store} {a : α} (e : m S = some (a, S')) (h : Q a S') : wp m Q S := by unfold wp; rw [e]; exact h
theorem wp_some {m : M α} {Q : α → Store → Prop} {S : Store} (h : wp m Q S) : ∃ a S', m S = some (a, S') ∧ Q a S' := by
  unfold wp at h
  cases e : m S with
  | none => rw [e] at h; exact h.elim
  | some p => rw [e] at h; exact ⟨p.1, p.2, rfl, h⟩
@[simp] theorem wp_getO (l : Nat) (Q : Ob → Store → Prop) (S : Store) : wp (getO l) Q S = ∃ o, S[l]? = some o ∧ Q o S := by
  unfold wp getO
  cases S[l]? with
  | none => simp
  | some o => simp
@[simp] theorem wp_setO (l : Nat) (o : Ob) (Q : Unit → Store → Prop) (S : Store) : wp (setO l o) Q S = (l < S.length ∧ Q () (S.set l o)) := by
  unfold wp setO
  by_cases h : l < S.length <;> simp [h]
@[simp] theorem wp_newO (o : Ob) (Q : D → Store → Prop) (S : Store) : wp (newO o) Q S = Q (.ref S.length) (S ++ [o]) := rfl
@[simp] theorem wp_need (b : Bool) (Q : Unit → Store → Prop) (S : Store) : wp (need b) Q S = (b = true ∧ Q () S) := by
  unfold wp need
  cases b <;> simp
theorem wp_ite (c : Bool) (a b : M α) (Q : α → Store → Prop) (S : Store) : wp (if c = true then a else b) Q S = if c = true then wp a Q S else wp b Q S := by cases c <;> rfl
end

/-! ### operations on data -/
/-- numbers whose product the machine takes -/
def mulFits (i j : Int) : Bool := decide (i.natAbs.log2 + j.natAbs.log2 < 1000000)
def getL (d : D) : M (List D) := match d with
  | .ref l => do match ← getO l with | .lst ds => pure ds | _ => fail
  | .ro ds => pure ds
  | _ => fail
/-- the items of a list or a tuple -/
def getS (d : D) : M (List D) := match d with
  | .tup ds => pure ds
  | d => getL d
def lens (n : Nat) : Bool := decide (n ≤ sizeLine)
/-- of the data that == compares -/
def flat : D → Bool
  | .non => true | .bl _ => true | .int _ => true | .str _ => true | _ => false
mutual
def pyOf : D → Option PyData
  | .non => some .none
  | .bl b => some (.bool b)
  | .int i => some (.int i)
  | .str x => some (.str x)
  | .tup ds => (pysOf ds).map .tuple
  | .ref _ => none
  | .ro _ => none
def pysOf : List D → Option (List PyData)
  | [] => some []
  | d :: ds => match pyOf d, pysOf ds with
    | some a, some b => some (a :: b)
    | _, _ => none
end
/-- a datum to be compared by ==: lists one deep -/
def pyAt (S : Store) : D → Option PyData
  | .ref l => match S[l]? with | some (.lst ds) => (pysOf ds).map .list | _ => none
  | d => pyOf d
def pysAt (S : Store) : List D → Option (List PyData)
  | [] => some []
  | d :: ds => match pyAt S d, pysAt S ds with
    | some a, some b => some (a :: b)
    | _, _ => none
/-- the first place of an item that is == d -/
def remAt (xs : List D) (d : D) : M Nat := fun S => match pysAt S xs, pyAt S d with
  | some ps, some p => if SeqAt.shaped (.list ps) && SeqAt.shaped p then (match ps.findIdx? fun z => PyData.eqv z p with | some j => some (j, S) | none => none) else none
  | _, _ => none
def eqD (a b : D) : M Bool := fun S => match pyAt S a, pyAt S b with
  | some x, some y => if SeqAt.shaped x && SeqAt.shaped y then some (PyData.eqv x y, S) else none
  | _, _ => none
def intsOf : List D → Option (List Int)
  | [] => some []
  | .int i :: ds => (intsOf ds).map (i :: ·)
  | _ => none
def blsOf : List D → Option (List Bool)
  | [] => some []
  | .bl i :: ds => (blsOf ds).map (i :: ·)
  | _ => none
def bop (o : Operator) (a b : D) : M D := match o, a, b with
  | .Add, .int i, .int j => pure (.int (i + j))
  | .Add, .tup x, .tup y => do need (lens (x.length + y.length)); pure (.tup (x ++ y))
  | .Add, .ref x, .ref y => do
    match ← getO x, ← getO y with
    | .lst ds, .lst es => do need (lens (ds.length + es.length)); newO (.lst (ds ++ es))
    | _, _ => fail
  | .Add, .str x, .str y => do need (lens (x.length + y.length)); pure (.str (x ++ y))
  | .Sub, .int i, .int j => pure (.int (i - j))
  | .Mult, .int i, .int j => do need (mulFits i j); pure (.int (i * j))
  | .Mult, .tup x, .int k => do need (decide (x ≠ []) && decide (1 ≤ k) && decide (k ≤ 1000) && decide (x.length ≤ 1000)); pure (.tup (List.replicate k.toNat x).flatten)
  | .Mult, .ref x, .int k => do
    match ← getO x with
    | .lst ds => do need (decide (-(2 ^ 63) ≤ k) && decide (k < 2 ^ 63) && lens (ds.length * k.toNat)); newO (.lst (List.replicate k.toNat ds).flatten)
    | _ => fail
  | .FloorDiv, .int i, .int j => do need (decide (j ≠ 0) && decide (j.natAbs.log2 < 9000)); pure (.int (i.fdiv j))
  | .Mod, .int i, .int j => do need (decide (j ≠ 0)); pure (.int (i.fmod j))
  | .Pow, .int i, .int j => do need (decide (0 ≤ j) && decide (j ≤ 1000000) && decide (i.natAbs < 2 ^ 64)); pure (.int (i ^ j.toNat))
  | .LShift, .int i, .int j => do need (decide (0 ≤ j) && decide (j ≤ 1000000) && decide (i.natAbs < 2 ^ 64)); pure (.int (i * 2 ^ j.toNat))
  | _, _, _ => fail
/-- x op= y that is x = x op y -/
def augOk (o : Operator) (a b : D) : Bool := match o, a, b with
  | .Add, .int _, .int _ => true
  | .Sub, .int _, .int _ => true
  | _, _, _ => false
/-- x in xs of flat items, == between flat data -/
def eqF : D → D → Bool
  | .non, .non => true
  | .bl a, .bl b => a == b
  | .bl a, .int b => (if a then 1 else 0) == b
  | .int a, .bl b => a == (if b then 1 else 0)
  | .int a, .int b => a == b
  | .str a, .str b => a == b
  | _, _ => false
def inF (x : D) (ds : List D) : Bool := ds.any fun y => eqF y x
def keysD : List D → Option (List Key)
  | [] => some []
  | .int i :: ds => (keysD ds).map (Sum.inl i :: ·)
  | .str x :: ds => (keysD ds).map (Sum.inr x :: ·)
  | _ => none
def cop (o : CmpOp) (a b : D) : M Bool := match o, a, b with
  | .Lt, .int i, .int j => pure (decide (i < j))
  | .LtE, .int i, .int j => pure (decide (i ≤ j))
  | .Gt, .int i, .int j => pure (decide (j < i))
  | .GtE, .int i, .int j => pure (decide (j ≤ i))
  | .Lt, .tup x, .tup y => match intsOf x, intsOf y with
    | some m, some n => pure (lexC m n == .lt)
    | _, _ => fail
  | .Gt, .tup x, .tup y => match intsOf x, intsOf y with
    | some m, some n => pure (lexC m n == .gt)
    | _, _ => fail
  | .Lt, .ref x, .ref y => do
    match ← getO x, ← getO y with
    | .lst ds, .lst es => match intsOf ds, intsOf es with
      | some m, some n => pure (lexC m n == .lt)
      | _, _ => fail
    | _, _ => fail
  | .Eq, a, b => eqD a b
  | .NotEq, a, b => do pure (!(← eqD a b))
  | .Is, a, .non => pure (decide (a = .non))
  | .IsNot, a, .non => pure (!decide (a = .non))
  | .Is, .bl a, .bl b => pure (decide (a = b))
  | .IsNot, .bl a, .bl b => pure (!decide (a = b))
  | .In, x, y => do
    let ds ← getS y
    need (flat x && ds.all flat)
    pure (inF x ds)
  | .NotIn, x, y => do
    let ds ← getS y
    need (flat x && ds.all flat)
    pure (!inF x ds)
  | _, _, _ => fail
def truth (d : D) : M Bool := match d with
  | .non => pure false
  | .bl b => pure b
  | .int i => pure (i != 0)
  | .str x => do need (lens x.length); pure ((x.length : Int) != 0)
  | .tup ds => pure (!ds.isEmpty)
  | .ref l => do match ← getO l with | .lst ds => pure (!ds.isEmpty) | _ => fail
  | .ro ds => pure (!ds.isEmpty)
/-- xs[i] -/
def ixD (a b : D) : M D := match b with
  | .int i => match a with
    | .str z => do need (lens z.length); match atI z.cps.toList i with | some c => pure (.str ⟨#[c]⟩) | none => fail
    | a => do let ds ← getS a; match atI ds i with | some d => pure d | none => fail
  | _ => fail
def cutD (ds : List D) (lo hi : Option Int) : List D := (ds.drop (HT.sIx ds.length 0 lo)).take (HT.sIx ds.length ds.length hi - HT.sIx ds.length 0 lo)
def slD (a : D) (lo hi : Option Int) : M D := match a with
  | .tup ds => pure (.tup (cutD ds lo hi))
  | .ref l => do match ← getO l with | .lst ds => newO (.lst (cutD ds lo hi)) | _ => fail
  | .ro ds => newO (.lst (cutD ds lo hi))
  | .str z => do need (lens z.length); pure (.str (cutS z lo hi))
  | _ => fail
/-- xs[::-1] -/
def revD (a : D) : M D := match a with
  | .tup ds => pure (.tup ds.reverse)
  | .ref l => do match ← getO l with | .lst ds => newO (.lst ds.reverse) | _ => fail
  | _ => fail

/-- built-in functions by name -/
inductive Bi where
  | len | sum | abs | int | max | min | tuple | list | all | any | gcd
  deriving DecidableEq, Repr
def biRun (b : Bi) (ds : List D) : M D := match b, ds with
  | .len, [.str x] => do need (lens x.length); pure (.int x.length)
  | .len, [d] => do let ds ← getS d; pure (.int ds.length)
  | .sum, [d] => do let ds ← getS d; match intsOf ds with | some ns => pure (.int ns.sum) | none => fail
  | .abs, [.int i] => pure (.int (if i < 0 then -i else i))
  | .int, [.int i] => pure (.int i)
  | .int, [.bl b] => pure (.int (if b then 1 else 0))
  | .max, [.int i, .int j] => pure (.int (if j > i then j else i))
  | .min, [.int i, .int j] => pure (.int (if j < i then j else i))
  | .tuple, [d] => do let ds ← getS d; pure (.tup ds)
  | .list, [d] => do let ds ← getS d; newO (.lst ds)
  | .all, [d] => do let ds ← getL d; match blsOf ds with | some bs => pure (.bl (bs.all id)) | none => fail
  | .any, [d] => do let ds ← getL d; match blsOf ds with | some bs => pure (.bl (bs.any id)) | none => fail
  | .gcd, [.int a, .int b] => pure (.int ((Nat.gcd a.natAbs b.natAbs : Nat) : Int))
  | _, _ => fail
/-- methods of lists -/
inductive Me where
  | append | pop | popAt | reverse | remove
  deriving DecidableEq, Repr
def meRun (m : Me) (o : D) (ds : List D) : M D := match o with
  | .ref l => do
    match ← getO l with
    | .lst xs => match m, ds with
      | .append, [d] => do need (decide (xs.length < sizeLine)); setO l (.lst (xs ++ [d])); pure .non
      | .pop, [] => match xs[xs.length - 1]? with
        | some y => do setO l (.lst xs.dropLast); pure y
        | none => fail
      | .popAt, [.int i] => do
        need (decide (-(2 ^ 63) ≤ i) && decide (i < 2 ^ 63))
        match ixN xs.length i with
        | some k => match xs[k]? with
          | some y => do setO l (.lst (xs.eraseIdx k)); pure y
          | none => fail
        | none => fail
      | .reverse, [] => do setO l (.lst xs.reverse); pure .non
      | .remove, [d] => do let j ← remAt xs d; setO l (.lst (xs.eraseIdx j)); pure .non
      | _, _ => fail
    | _ => fail
  | _ => fail
def isL (d : D) : M Unit := match d with
  | .ref l => do match ← getO l with | .lst _ => pure () | _ => fail
  | _ => fail
/-- kinds for isinstance -/
inductive Ty where | int | str | bool | tuple | list
  deriving DecidableEq, Repr
def Ty.name : Ty → String
  | .int => "int" | .str => "str" | .bool => "bool" | .tuple => "tuple" | .list => "list"
def isTy (S : Store) (d : D) (t : Ty) : Option Bool := match d with
  | .non => some false
  | .bl _ => some (t == .bool || t == .int)
  | .int _ => some (t == .int)
  | .str _ => some (t == .str)
  | .tup _ => some (t == .tuple)
  | .ref l => match S[l]? with | some (.lst _) => some (t == .list) | _ => none
  | .ro _ => some (t == .list)
def anyTy (S : Store) (d : D) : List Ty → Option Bool
  | [] => some false
  | t :: ts => match isTy S d t with
    | some true => some true
    | some false => anyTy S d ts
    | none => none
def isiRun (d : D) (ts : List Ty) : M D := fun S => match anyTy S d ts with | some b => some (.bl b, S) | none => none
def setIx (o i v : D) : M Unit := match o, i with
  | .ref l, .int k => do
    match ← getO l with
    | .lst xs => match ixN xs.length k with | some j => setO l (.lst (xs.set j v)) | none => fail
    | _ => fail
  | _, _ => fail

/-! ### the language -/
mutual
inductive IE where
  | var (i : Nat) | int (z : Int) | bl (b : Bool) | non | str (x : Str) | glo (g : Nat)
  | tup (es : IEs) | lst (es : IEs)
  | op (o : Operator) (a b : IE) | neg (a : IE) | not (a : IE) | and (a b : IE) | or (a b : IE)
  | cmp (o : CmpOp) (a b : IE) | chain (o o2 : CmpOp) (a b c : IE) | ite (c a b : IE)
  | ix (a b : IE) | sl (a : IE) (lo hi : IO) | rev (a : IE)
  | call (f : Nat) (es : IEs) | bi (b : Bi) (es : IEs) | me (m : Me) (o : IE) (es : IEs) | isi (a : IE) (t : Ty) | isis (a : IE) (ts : List Ty)
  | comp (t : TG) (own : List Nat) (it : II) (cond : IC) (e : IE) | tupr (a : IE) | lstr (a : IE)
inductive IEs where
  | nil | cons (e : IE) (es : IEs)
inductive IO where
  | no | so (e : IE)
inductive IC where
  | no | so (e : IE)
inductive II where
  | seq (e : IE) | rng1 (e : IE) | rng2 (a b : IE) | zip (a b : IE)
inductive TG where
  | nm (i : Nat) | tp (ts : TGs) | ixs (o i : IE)
inductive TGs where
  | nil | cons (t : TG) (ts : TGs)
end
mutual
inductive IS where
  | asg (t : TG) (e : IE) | par (i j : Nat) (a b : IE) | aug (i : Nat) (o : Operator) (e : IE) | expr (e : IE) | ret (e : IE) | retN
  | ite (c : IE) (a b : ISs) | forr (t : TG) (it : II) (b : ISs) | whl (c : IE) (b : ISs) | pass | brk | cnt
inductive ISs where
  | nil | cons (s : IS) (ss : ISs)
end

inductive Fl where
  | nx | rt (d : D) | bk | ct
/-- the machine's bound of a while loop's turns -/
def bigN : Nat := 2 ^ 60

/-- what is walked: the items, and the list that must not change meanwhile -/
structure Src where
  items : List D
  guard : Option (Nat × List D) := none
  guard2 : Option (Nat × List D) := none
def grd1 : Option (Nat × List D) → M Unit
  | none => pure ()
  | some (l, ds) => fun S => if S[l]? = some (.lst ds) then some ((), S) else none
def Src.grd (s : Src) : M Unit := do grd1 s.guard; grd1 s.guard2
def rngItems (i j : Int) : List D := (List.range (j - i).toNat).map fun (k : Nat) => .int (i + k)
def seqSrc (d : D) : M Src := match d with
  | .tup ds => pure ⟨ds, none, none⟩
  | .ro ds => pure ⟨ds, none, none⟩
  | .ref l => do match ← getO l with | .lst ds => pure ⟨ds, some (l, ds), none⟩ | _ => fail
  | _ => fail
def isTup : D → Bool
  | .tup _ => true
  | _ => false
def zipSrc (a b : D) : M Src := do
  need (isTup a == isTup b)
  let x ← seqSrc a
  let y ← seqSrc b
  pure ⟨(x.items.zip y.items).map fun p => .tup [p.1, p.2], x.guard, y.guard⟩
def small62 (i : Int) : Bool := decide (-(2 ^ 62) ≤ i) && decide (i < 2 ^ 62)
def rngSrc (a b : D) : M Src := match a, b with
  | .int i, .int j => do need (small62 i && small62 j); pure ⟨rngItems i j, none, none⟩
  | _, _ => fail
/-- range(n) as a value that is used up at once -/
def rngOk (i : Int) : Bool := small62 i && decide (i ≤ 16777216)
/-- the turns of a comprehension -/
def compL (s : Src) (f : D → M (Option D)) : List D → List D → M (List D)
  | [], acc => do s.grd; pure acc
  | d :: ds, acc => do
    s.grd
    match ← f d with
    | some y => do need (decide (acc.length < sizeLine)); compL s f ds (acc ++ [y])
    | none => compL s f ds acc
/-- the turns of a for -/
def forL (s : Src) (f : D → Sl → M (Fl × Sl)) : List D → Sl → M (Fl × Sl)
  | [], env => do s.grd; pure (.nx, env)
  | d :: ds, env => do
    s.grd
    match ← f d env with
    | (.nx, e) => forL s f ds e
    | (.ct, e) => forL s f ds e
    | (.bk, e) => pure (.nx, e)
    | (.rt v, e) => pure (.rt v, e)
def whlL (c : Sl → M Bool) (b : Sl → M (Fl × Sl)) : Nat → Sl → M (Fl × Sl)
  | 0, _ => fail
  | n + 1, env => do
    if ← c env then
      match ← b env with
      | (.nx, e) => whlL c b n e
      | (.ct, e) => whlL c b n e
      | (.bk, e) => pure (.nx, e)
      | (.rt v, e) => pure (.rt v, e)
    else pure (.nx, env)
def wipeE (env : Sl) : List Nat → Sl
  | [] => env
  | v :: vs => (wipeE env vs).set v none

section
variable (gl : Nat → D) (cf : Nat → List D → M D)
def asInt : D → M (Option Int)
  | .int i => pure (some i)
  | _ => fail
def unpk (d : D) (n : Nat) : M (List D) := do let ds ← getS d; need (decide (ds.length = n)); pure ds
def TGs.len : TGs → Nat
  | .nil => 0
  | .cons _ ts => ts.len + 1
mutual
def ev : IE → Sl → M D
  | .var i, env => match env[i]? with | some (some d) => pure d | _ => fail
  | .int z, _ => pure (.int z)
  | .bl b, _ => pure (.bl b)
  | .non, _ => pure .non
  | .str x, _ => pure (.str x)
  | .glo g, _ => pure (gl g)
  | .tup es, env => do let ds ← evs es env; need (lens ds.length); pure (.tup ds)
  | .lst es, env => do let ds ← evs es env; need (lens ds.length); newO (.lst ds)
  | .op o a b, env => do let x ← ev a env; let y ← ev b env; bop o x y
  | .neg a, env => do match ← ev a env with | .int i => pure (.int (-i)) | _ => fail
  | .not a, env => do let x ← ev a env; let b ← truth x; pure (.bl (!b))
  | .and a b, env => do let x ← ev a env; if ← truth x then ev b env else pure x
  | .or a b, env => do let x ← ev a env; if ← truth x then pure x else ev b env
  | .cmp o a b, env => do let x ← ev a env; let y ← ev b env; let r ← cop o x y; pure (.bl r)
  | .chain o o2 a b c, env => do
    let x ← ev a env
    let y ← ev b env
    if ← cop o x y then
      let z ← ev c env
      let r ← cop o2 y z
      pure (.bl r)
    else pure (.bl false)
  | .ite c a b, env => do if ← tst c env then ev a env else ev b env
  | .ix a b, env => do let x ← ev a env; let y ← ev b env; ixD x y
  | .sl a lo hi, env => do let x ← ev a env; let l ← evo lo env; let h ← evo hi env; slD x l h
  | .rev a, env => do let x ← ev a env; revD x
  | .call f es, env => do let ds ← evs es env; cf f ds
  | .bi b es, env => do let ds ← evs es env; biRun b ds
  | .me m o es, env => do let x ← ev o env; isL x; let ds ← evs es env; meRun m x ds
  | .isi a t, env => do let x ← ev a env; isiRun x [t]
  | .isis a ts, env => do let x ← ev a env; isiRun x ts
  | .comp t own it cond e, env => do
    let s ← evi it env
    let env0 := wipeE env own
    let r ← compL s (fun d => do
      let env1 ← asg t d env0
      if ← evc cond env1 then
        let y ← ev e env1
        pure (some y)
      else pure none) s.items []
    newO (.lst r)
  | .tupr a, env => do match ← ev a env with | .int i => (do need (rngOk i); pure (.tup (rngItems 0 i))) | _ => fail
  | .lstr a, env => do match ← ev a env with | .int i => (do need (rngOk i); newO (.lst (rngItems 0 i))) | _ => fail
def evs : IEs → Sl → M (List D)
  | .nil, _ => pure []
  | .cons e es, env => do let d ← ev e env; let ds ← evs es env; pure (d :: ds)
def evo : IO → Sl → M (Option Int)
  | .no, _ => pure none
  | .so e, env => do let d ← ev e env; asInt d
def evc : IC → Sl → M Bool
  | .no, _ => pure true
  | .so e, env => tst e env
/-- an expression as a test -/
def tst : IE → Sl → M Bool
  | .and a b, env => do if ← tst a env then tst b env else pure false
  | .or a b, env => do if ← tst a env then pure true else tst b env
  | .not a, env => do let b ← tst a env; pure (!b)
  | .cmp o a b, env => do let x ← ev a env; let y ← ev b env; cop o x y
  | .chain o o2 a b c, env => do
    let x ← ev a env
    let y ← ev b env
    if ← cop o x y then
      let z ← ev c env
      cop o2 y z
    else pure false
  | .var i, env => match env[i]? with | some (some d) => truth d | _ => fail
  | .bl b, _ => pure b
  | .call f es, env => do let ds ← evs es env; let d ← cf f ds; truth d
  | .bi b es, env => do let ds ← evs es env; let d ← biRun b ds; truth d
  | .isi a t, env => do let x ← ev a env; let d ← isiRun x [t]; truth d
  | .isis a ts, env => do let x ← ev a env; let d ← isiRun x ts; truth d
  | _, _ => fail
def evi : II → Sl → M Src
  | .seq e, env => do let d ← ev e env; seqSrc d
  | .rng1 e, env => do let d ← ev e env; rngSrc (.int 0) d
  | .rng2 a b, env => do let x ← ev a env; let y ← ev b env; rngSrc x y
  | .zip a b, env => do let x ← ev a env; let y ← ev b env; zipSrc x y
def asg : TG → D → Sl → M Sl
  | .nm i, d, env => do need (decide (i < env.length)); pure (env.set i (some d))
  | .tp ts, d, env => do let ds ← unpk d ts.len; asgs ts ds env
  | .ixs o i, d, env => do let x ← ev o env; let y ← ev i env; setIx x y d; pure env
def asgs : TGs → List D → Sl → M Sl
  | .nil, [], env => pure env
  | .cons t ts, d :: ds, env => do let e ← asg t d env; asgs ts ds e
  | _, _, _ => fail
end
mutual
def ex : IS → Sl → M (Fl × Sl)
  | .asg t e, env => do let d ← ev gl cf e env; let env ← asg gl cf t d env; pure (.nx, env)
  | .par i j a b, env => do let x ← ev gl cf a env; let y ← ev gl cf b env; need (decide (i < env.length) && decide (j < env.length)); pure (.nx, (env.set i (some x)).set j (some y))
  | .aug i o e, env => do
    match env[i]? with
    | some (some x) => do
      let y ← ev gl cf e env
      need (augOk o x y)
      let z ← bop o x y
      pure (.nx, env.set i (some z))
    | _ => fail
  | .expr e, env => do let _ ← ev gl cf e env; pure (.nx, env)
  | .ret e, env => do let d ← ev gl cf e env; pure (.rt d, env)
  | .retN, env => pure (.rt .non, env)
  | .ite c a b, env => do if ← tst gl cf c env then exs a env else exs b env
  | .forr t it b, env => do
    let s ← evi gl cf it env
    forL s (fun d e => do let e1 ← asg gl cf t d e; exs b e1) s.items env
  | .whl c b, env => whlL (fun e => tst gl cf c e) (fun e => exs b e) bigN env
  | .pass, env => pure (.nx, env)
  | .brk, env => pure (.bk, env)
  | .cnt, env => pure (.ct, env)
def exs : ISs → Sl → M (Fl × Sl)
  | .nil, env => pure (.nx, env)
  | .cons s ss, env => do
    match ← ex s env with
    | (.nx, e) => exs ss e
    | r => pure r
end
end
/-- a def: the number of its parameters, of its slots, its body -/
structure Fd where
  np : Nat
  nl : Nat
  body : ISs
def startE (nl : Nat) (ds : List D) : Sl := ds.map some ++ List.replicate (nl - ds.length) none
def ofFl : Fl × Sl → M D
  | (.nx, _) => pure .non
  | (.rt d, _) => pure d
  | _ => fail
def call (gl : Nat → D) (fs : List Fd) : Nat → Nat → List D → M D
  | 0, _, _ => fail
  | n + 1, f, ds => match fs[f]? with
    | some fd => if ds.length = fd.np then do ofFl (← exs gl (call gl fs n) fd.body (startE fd.nl ds)) else fail
    | none => fail
end Dl
end

section
set_option Elab.async false
set_option linter.all false
set_option maxRecDepth 100000
/-! Dl: the calculus for the plain statements. -/
namespace Dl
open PySem PySem.Spec PyProof.Rows L2

/-! ### wp, sealed: nothing looks into it -/
structure wq {α : Type} (m : M α) (Q : α → Store → Prop) (S : Store) : Prop where
  out : wp m Q S
section
variable {α β : Type} {m : M α} {Q : α → Store → Prop} {S : Store}
theorem wq_eq : wq m Q S = wp m Q S := propext ⟨fun h => h.out, fun h => ⟨h⟩⟩
theorem wq_l {X : Prop} (h : wp m Q S = X) : wq m Q S = X := wq_eq.trans h
theorem wq_pure (a : α) (Q : α → Store → Prop) (S : Store) : wq (pure a : M α) Q S = Q a S := wq_l rfl
theorem wq_bind (m : M α) (f : α → M β) (Q : β → Store → Prop) (S : Store) : wq (m >>= f) Q S = wq m (fun a S' => wq (f a) Q S') S := by
  rw [wq_eq, wq_eq, wp_bind]
  simp only [wq_eq]
theorem wq_fail (Q : α → Store → Prop) (S : Store) : wq (fail : M α) Q S = False := wq_l rfl
theorem wq_mono {m : M α} {Q R : α → Store → Prop} {S : Store} (h : wq m Q S) (k : ∀ a S', Q a S' → R a S') : wq m R S := ⟨wp_mono h.out k⟩
theorem wq_getO (l : Nat) (Q : Ob → Store → Prop) (S : Store) : wq (getO l) Q S = ∃ o, S[l]? = some o ∧ Q o S := wq_l (wp_getO l Q S)
theorem wq_setO (l : Nat) (o : Ob) (Q : Unit → Store → Prop) (S : Store) : wq (setO l o) Q S = (l < S.length ∧ Q () (S.set l o)) := wq_l (wp_setO l o Q S)
theorem wq_newO (o : Ob) (Q : D → Store → Prop) (S : Store) : wq (newO o) Q S = Q (.ref S.length) (S ++ [o]) := wq_l rfl
theorem wq_need (b : Bool) (Q : Unit → Store → Prop) (S : Store) : wq (need b) Q S = (b = true ∧ Q () S) := wq_l (wp_need b Q S)
theorem wq_ite (c : Bool) (a b : M α) (Q : α → Store → Prop) (S : Store) : wq (if c = true then a else b) Q S = if c = true then wq a Q S else wq b Q S := by cases c <;> rfl
end

/-! ### frames -/
structure Fr (L : List Nat) (S S' : Store) : Prop where
  le : S.length ≤ S'.length
  get : ∀ (i : Nat) (o : Ob), i ∉ L → S[i]? = some o → S'[i]? = some o
theorem Fr.refl {L : List Nat} {S : Store} : Fr L S S := ⟨Nat.le_refl _, fun _ _ _ h => h⟩
theorem Fr.trans {L : List Nat} {S S' S'' : Store} (h : Fr L S S') (k : Fr L S' S'') : Fr L S S'' := ⟨Nat.le_trans h.le k.le, fun i o hi e => k.get i o hi (h.get i o hi e)⟩
theorem Fr.mono {L L' : List Nat} {S S' : Store} (h : Fr L S S') (k : ∀ i, i ∈ L → i ∈ L') : Fr L' S S' := ⟨h.le, fun i o hi e => h.get i o (fun m => hi (k i m)) e⟩
theorem Fr.of_nil {L : List Nat} {S S' : Store} (h : Fr [] S S') : Fr L S S' := h.mono fun _ m => by cases m
theorem Fr.new {L : List Nat} {S S' : Store} (h : Fr L S S') (o : Ob) : Fr L S (S' ++ [o]) := ⟨by simp only [List.length_append]; have := h.le; omega, fun i p hi e => by
  have q := h.get i p hi e
  rw [List.getElem?_append_left (List.getElem?_eq_some_iff.mp q).1]; exact q⟩
theorem Fr.set {L : List Nat} {S S' : Store} (h : Fr L S S') {l : Nat} (o : Ob) (hl : l ∈ L ∨ S.length ≤ l) : Fr L S (S'.set l o) := ⟨by simp only [List.length_set]; exact h.le, fun i p hi e => by
  have q := h.get i p hi e
  have hne : l ≠ i := by
    rintro rfl
    rcases hl with m | m
    · exact hi m
    · have := (List.getElem?_eq_some_iff.mp e).1; omega
  rw [List.getElem?_set_ne hne]; exact q⟩
theorem lt_of_get {S : Store} {l : Nat} {o : Ob} (h : S[l]? = some o) : l < S.length := (List.getElem?_eq_some_iff.mp h).1
theorem get_new {S : Store} {o : Ob} : (S ++ [o])[S.length]? = some o := by simp
theorem get_set {S : Store} {l : Nat} {o p : Ob} (h : S[l]? = some p) : (S.set l o)[l]? = some o := List.getElem?_set_self (lt_of_get h)
theorem get_app {S : Store} {l : Nat} {o p : Ob} (h : S[l]? = some p) : (S ++ [o])[l]? = some p := by rw [List.getElem?_append_left (lt_of_get h)]; exact h
/-- the draws: a list of ints -/
def Dw (l : Nat) (S : Store) : Prop := ∃ xs : List Int, S[l]? = some (.lst (xs.map .int))
structure Dr (l : Nat) (S S' : Store) : Prop where
  d : Dw l S'
  f : Fr [l] S S'
theorem Dr.trans {l : Nat} {S S' S'' : Store} (h : Dr l S S') (k : Dr l S' S'') : Dr l S S'' := ⟨k.d, h.f.trans k.f⟩
theorem Dw.refl {l : Nat} {S : Store} (h : Dw l S) : Dr l S S := ⟨h, .refl⟩
theorem Dw.fr {l : Nat} {S S' : Store} (h : Dw l S) (k : Fr [] S S') : Dr l S S' := by
  obtain ⟨xs, e⟩ := h
  exact ⟨⟨xs, k.get l _ (fun m => by cases m) e⟩, k.of_nil⟩
theorem Dw.new {l : Nat} {S : Store} (h : Dw l S) (o : Ob) : Dw l (S ++ [o]) := by
  obtain ⟨xs, e⟩ := h
  exact ⟨xs, get_app e⟩
theorem Dw.lt {l : Nat} {S : Store} (h : Dw l S) : l < S.length := by
  obtain ⟨xs, e⟩ := h
  exact lt_of_get e
theorem Dw.set {l r : Nat} {S : Store} (h : Dw l S) (o : Ob) (hne : r ≠ l) : Dw l (S.set r o) := by
  obtain ⟨xs, e⟩ := h
  exact ⟨xs, by rw [List.getElem?_set_ne hne]; exact e⟩
theorem Dr.get {l : Nat} {S S' : Store} (h : Dr l S S') {i : Nat} {o : Ob} (e : S[i]? = some o) (hi : i ≠ l) : S'[i]? = some o := h.f.get i o (by simpa using hi) e
/-- from a step over the draws l, seen from S0 where r is new -/
theorem Dr.new {l : Nat} {S S' : Store} (h : Dr l S S') (o : Ob) : Dr l S (S' ++ [o]) := ⟨h.d.new o, h.f.new o⟩
theorem Dr.set {l r : Nat} {S S' : Store} (h : Dr l S S') (o : Ob) (hr : S.length ≤ r) (hne : r ≠ l) : Dr l S (S'.set r o) := ⟨h.d.set o hne, h.f.set o (.inr hr)⟩

/-! ### leaves -/
section
variable {S : Store} {l : Nat} {ds es : List D} {Q : D → Store → Prop} {QB : Bool → Store → Prop} {QU : Unit → Store → Prop} {QL : List D → Store → Prop}
theorem lens_of {n : Nat} (h : n ≤ 1000) : lens n = true := decide_eq_true (show n ≤ 2 ^ 24 by omega)
theorem w_getL_ref (h : S[l]? = some (.lst ds)) : wq (getL (.ref l)) QL S = QL ds S := by
  unfold getL
  dsimp only
  rw [wq_bind, wq_getO]
  exact propext ⟨fun ⟨o, e, k⟩ => by rw [h] at e; cases e; simpa only [wq_pure] using k, fun k => ⟨_, h, by simpa only [wq_pure] using k⟩⟩
theorem w_getS_ref (h : S[l]? = some (.lst ds)) : wq (getS (.ref l)) QL S = QL ds S := w_getL_ref h
theorem w_getL_ro : wq (getL (.ro ds)) QL S = QL ds S := wq_l rfl
theorem w_getS_ro : wq (getS (.ro ds)) QL S = QL ds S := wq_l rfl
theorem w_getS_tup : wq (getS (.tup ds)) QL S = QL ds S := wq_l rfl
theorem w_add {i j : Int} : wq (bop .Add (.int i) (.int j)) Q S = Q (.int (i + j)) S := wq_l rfl
theorem w_sub {i j : Int} : wq (bop .Sub (.int i) (.int j)) Q S = Q (.int (i - j)) S := wq_l rfl
theorem w_mul {i j : Int} : wq (bop .Mult (.int i) (.int j)) Q S = (mulFits i j = true ∧ Q (.int (i * j)) S) := by
  unfold bop
  dsimp only
  rw [wq_bind, wq_need, wq_pure]
theorem w_addT : wq (bop .Add (.tup ds) (.tup es)) Q S = (lens (ds.length + es.length) = true ∧ Q (.tup (ds ++ es)) S) := by
  unfold bop
  dsimp only
  rw [wq_bind, wq_need, wq_pure]
theorem w_addL {l2 : Nat} (h : S[l]? = some (.lst ds)) (h2 : S[l2]? = some (.lst es)) : wq (bop .Add (.ref l) (.ref l2)) Q S = (lens (ds.length + es.length) = true ∧ Q (.ref S.length) (S ++ [.lst (ds ++ es)])) := by
  unfold bop
  dsimp only
  rw [wq_bind, wq_getO]
  refine propext ⟨fun ⟨o, e, k⟩ => ?_, fun k => ⟨_, h, ?_⟩⟩
  · rw [h] at e
    cases e
    rw [wq_bind, wq_getO] at k
    obtain ⟨o, e, k⟩ := k
    rw [h2] at e
    cases e
    rw [wq_bind, wq_need, wq_newO] at k
    exact k
  · rw [wq_bind, wq_getO]
    exact ⟨_, h2, by rw [wq_bind, wq_need, wq_newO]; exact k⟩
theorem w_mulL {k : Int} (h : S[l]? = some (.lst ds)) : wq (bop .Mult (.ref l) (.int k)) Q S = ((decide (-(2 ^ 63) ≤ k) && decide (k < 2 ^ 63) && lens (ds.length * k.toNat)) = true ∧ Q (.ref S.length) (S ++ [.lst (List.replicate k.toNat ds).flatten])) := by
  unfold bop
  dsimp only
  rw [wq_bind, wq_getO]
  refine propext ⟨fun ⟨o, e, k⟩ => ?_, fun k => ⟨_, h, ?_⟩⟩
  · rw [h] at e
    cases e
    rw [wq_bind, wq_need, wq_newO] at k
    exact k
  · rw [wq_bind, wq_need, wq_newO]
    exact k
theorem w_fdiv {i j : Int} : wq (bop .FloorDiv (.int i) (.int j)) Q S = ((decide (j ≠ 0) && decide (j.natAbs.log2 < 9000)) = true ∧ Q (.int (i.fdiv j)) S) := by
  unfold bop
  dsimp only
  rw [wq_bind, wq_need, wq_pure]
theorem w_mod {i j : Int} : wq (bop .Mod (.int i) (.int j)) Q S = (decide (j ≠ 0) = true ∧ Q (.int (i.fmod j)) S) := by
  unfold bop
  dsimp only
  rw [wq_bind, wq_need, wq_pure]
theorem w_pow {i j : Int} : wq (bop .Pow (.int i) (.int j)) Q S = ((decide (0 ≤ j) && decide (j ≤ 1000000) && decide (i.natAbs < 2 ^ 64)) = true ∧ Q (.int (i ^ j.toNat)) S) := by
  unfold bop
  dsimp only
  rw [wq_bind, wq_need, wq_pure]
theorem w_shl {i j : Int} : wq (bop .LShift (.int i) (.int j)) Q S = ((decide (0 ≤ j) && decide (j ≤ 1000000) && decide (i.natAbs < 2 ^ 64)) = true ∧ Q (.int (i * 2 ^ j.toNat)) S) := by
  unfold bop
  dsimp only
  rw [wq_bind, wq_need, wq_pure]
theorem w_lt {i j : Int} : wq (cop .Lt (.int i) (.int j)) QB S = QB (decide (i < j)) S := wq_l rfl
theorem w_le {i j : Int} : wq (cop .LtE (.int i) (.int j)) QB S = QB (decide (i ≤ j)) S := wq_l rfl
theorem w_gt {i j : Int} : wq (cop .Gt (.int i) (.int j)) QB S = QB (decide (j < i)) S := wq_l rfl
theorem w_ge {i j : Int} : wq (cop .GtE (.int i) (.int j)) QB S = QB (decide (j ≤ i)) S := wq_l rfl
theorem intsOf_map : ∀ xs : List Int, intsOf (xs.map .int) = some xs
  | [] => rfl
  | x :: xs => by simp only [List.map_cons, intsOf, intsOf_map xs, Option.map_some]
theorem blsOf_map : ∀ xs : List Bool, blsOf (xs.map .bl) = some xs
  | [] => rfl
  | x :: xs => by simp only [List.map_cons, blsOf, blsOf_map xs, Option.map_some]
theorem w_ltT {x y : List Int} : wq (cop .Lt (.tup (x.map .int)) (.tup (y.map .int))) QB S = QB (lexC x y == .lt) S := by
  unfold cop
  simp only [intsOf_map, wq_pure]
theorem w_gtT {x y : List Int} : wq (cop .Gt (.tup (x.map .int)) (.tup (y.map .int))) QB S = QB (lexC x y == .gt) S := by
  unfold cop
  simp only [intsOf_map, wq_pure]
theorem w_eq {a b : D} : wq (cop .Eq a b) QB S = wq (eqD a b) QB S := by unfold cop; first | rfl | exact wq_l rfl
theorem w_ne {a b : D} : wq (cop .NotEq a b) QB S = wq (eqD a b) (fun r S' => QB (!r) S') S := by
  show wq (eqD a b >>= fun r => pure (!r)) QB S = _
  rw [wq_bind]
  simp only [wq_pure]
theorem w_isN {a : D} : wq (cop .Is a .non) QB S = QB (decide (a = .non)) S := by unfold cop; first | rfl | exact wq_l rfl
theorem w_isnN {a : D} : wq (cop .IsNot a .non) QB S = QB (!decide (a = .non)) S := by unfold cop; first | rfl | exact wq_l rfl
theorem w_in {x y : D} : wq (cop .In x y) QB S = wq (getS y) (fun ds S' => (flat x && ds.all flat) = true ∧ QB (inF x ds) S') S := by
  unfold cop
  simp only [wq_bind, wq_need, wq_pure]
theorem w_nin {x y : D} : wq (cop .NotIn x y) QB S = wq (getS y) (fun ds S' => (flat x && ds.all flat) = true ∧ QB (!inF x ds) S') S := by
  unfold cop
  simp only [wq_bind, wq_need, wq_pure]
theorem w_trB {b : Bool} : wq (truth (.bl b)) QB S = QB b S := wq_l rfl
theorem w_trN : wq (truth .non) QB S = QB false S := wq_l rfl
theorem w_trI {i : Int} : wq (truth (.int i)) QB S = QB (i != 0) S := wq_l rfl
theorem w_trT : wq (truth (.tup ds)) QB S = QB (!ds.isEmpty) S := wq_l rfl
theorem w_trL (h : S[l]? = some (.lst ds)) : wq (truth (.ref l)) QB S = QB (!ds.isEmpty) S := by
  unfold truth
  dsimp only
  rw [wq_bind, wq_getO]
  exact propext ⟨fun ⟨o, e, k⟩ => by rw [h] at e; cases e; simpa only [wq_pure] using k, fun k => ⟨_, h, by simpa only [wq_pure] using k⟩⟩
theorem w_lenT : wq (biRun .len [.tup ds]) Q S = Q (.int ds.length) S := wq_l rfl
theorem w_lenR : wq (biRun .len [.ro ds]) Q S = Q (.int ds.length) S := wq_l rfl
theorem w_lenL (h : S[l]? = some (.lst ds)) : wq (biRun .len [.ref l]) Q S = Q (.int ds.length) S := by
  show wq (getS (.ref l) >>= fun ds => pure (.int ds.length)) Q S = _
  rw [wq_bind, w_getS_ref h, wq_pure]
theorem w_sumT {x : List Int} : wq (biRun .sum [.tup (x.map .int)]) Q S = Q (.int x.sum) S := by
  show wq (getS (.tup (x.map .int)) >>= fun ds => match intsOf ds with | some ns => pure (.int ns.sum) | none => fail) Q S = _
  rw [wq_bind, w_getS_tup, intsOf_map, wq_pure]
theorem w_sumL {x : List Int} (h : S[l]? = some (.lst (x.map .int))) : wq (biRun .sum [.ref l]) Q S = Q (.int x.sum) S := by
  show wq (getS (.ref l) >>= fun ds => match intsOf ds with | some ns => pure (.int ns.sum) | none => fail) Q S = _
  rw [wq_bind, w_getS_ref h, intsOf_map, wq_pure]
theorem w_int {i : Int} : wq (biRun .int [.int i]) Q S = Q (.int i) S := wq_l rfl
theorem w_intB {b : Bool} : wq (biRun .int [.bl b]) Q S = Q (.int (if b then 1 else 0)) S := wq_l rfl
theorem w_abs {i : Int} : wq (biRun .abs [.int i]) Q S = Q (.int (if i < 0 then -i else i)) S := wq_l rfl
theorem w_max {i j : Int} : wq (biRun .max [.int i, .int j]) Q S = Q (.int (if j > i then j else i)) S := wq_l rfl
theorem w_min {i j : Int} : wq (biRun .min [.int i, .int j]) Q S = Q (.int (if j < i then j else i)) S := wq_l rfl
theorem w_tupL (h : S[l]? = some (.lst ds)) : wq (biRun .tuple [.ref l]) Q S = Q (.tup ds) S := by
  show wq (getS (.ref l) >>= fun ds => pure (.tup ds)) Q S = _
  rw [wq_bind, w_getS_ref h, wq_pure]
theorem w_listL (h : S[l]? = some (.lst ds)) : wq (biRun .list [.ref l]) Q S = Q (.ref S.length) (S ++ [.lst ds]) := by
  show wq (getS (.ref l) >>= fun ds => newO (.lst ds)) Q S = _
  rw [wq_bind, w_getS_ref h, wq_newO]
theorem w_listT : wq (biRun .list [.tup ds]) Q S = Q (.ref S.length) (S ++ [.lst ds]) := wq_l rfl
theorem w_append {d : D} (h : S[l]? = some (.lst ds)) : wq (meRun .append (.ref l) [d]) Q S = (ds.length < sizeLine ∧ Q .non (S.set l (.lst (ds ++ [d])))) := by
  unfold meRun
  dsimp only
  rw [wq_bind, wq_getO]
  refine propext ⟨fun ⟨o, e, k⟩ => ?_, fun ⟨k1, k2⟩ => ⟨_, h, ?_⟩⟩
  · rw [h] at e
    cases e
    simp only [wq_bind, wq_need, wq_setO, wq_pure] at k
    exact ⟨of_decide_eq_true k.1, k.2.2⟩
  · simp only [wq_bind, wq_need, wq_setO, wq_pure]
    exact ⟨decide_eq_true k1, lt_of_get h, k2⟩
theorem w_pop {y : D} (h : S[l]? = some (.lst (ds ++ [y]))) : wq (meRun .pop (.ref l) []) Q S = Q y (S.set l (.lst ds)) := by
  have e1 : (ds ++ [y])[(ds ++ [y]).length - 1]? = some y := by simp
  have e2 : (ds ++ [y]).dropLast = ds := by simp
  unfold meRun
  dsimp only
  rw [wq_bind, wq_getO]
  refine propext ⟨fun ⟨o, e, k⟩ => ?_, fun k => ⟨_, h, ?_⟩⟩
  · rw [h] at e
    cases e
    dsimp only at k
    rw [e1] at k
    simp only [wq_bind, wq_setO, wq_pure, e2] at k
    exact k.2
  · dsimp only
    rw [e1]
    simp only [wq_bind, wq_setO, wq_pure, e2]
    exact ⟨lt_of_get h, k⟩
theorem ixN_of {n : Nat} {i : Int} (h0 : 0 ≤ i) (h1 : i < n) : ixN n i = some i.toNat := by unfold ixN; rw [if_pos h0, if_pos h1]
theorem atI_of {α : Type} {xs : List α} {i : Int} {x : α} (h0 : 0 ≤ i) (h : xs[i.toNat]? = some x) : atI xs i = some x := by
  have := (List.getElem?_eq_some_iff.mp h).1
  unfold atI
  rw [ixN_of h0 (by omega)]
  exact h
theorem w_popAt {i : Int} {y : D} (h : S[l]? = some (.lst ds)) (h0 : 0 ≤ i) (hs : ds.length ≤ 1000) (hy : ds[i.toNat]? = some y) : wq (meRun .popAt (.ref l) [.int i]) Q S = Q y (S.set l (.lst (ds.eraseIdx i.toNat))) := by
  have hlt := (List.getElem?_eq_some_iff.mp hy).1
  have e1 : (decide (-(2 ^ 63) ≤ i) && decide (i < 2 ^ 63)) = true := by rw [decide_eq_true (by omega), decide_eq_true (by omega)]; rfl
  unfold meRun
  dsimp only
  rw [wq_bind, wq_getO]
  refine propext ⟨fun ⟨o, e, k⟩ => ?_, fun k => ⟨_, h, ?_⟩⟩
  · rw [h] at e
    cases e
    dsimp only at k
    rw [wq_bind, wq_need, ixN_of h0 (by omega)] at k
    have k := k.2
    dsimp only at k
    rw [hy] at k
    simp only [wq_bind, wq_setO, wq_pure] at k
    exact k.2
  · dsimp only
    rw [wq_bind, wq_need, ixN_of h0 (by omega)]
    refine ⟨e1, ?_⟩
    dsimp only
    rw [hy]
    simp only [wq_bind, wq_setO, wq_pure]
    exact ⟨lt_of_get h, k⟩
theorem w_reverse (h : S[l]? = some (.lst ds)) : wq (meRun .reverse (.ref l) []) Q S = Q .non (S.set l (.lst ds.reverse)) := by
  unfold meRun
  dsimp only
  rw [wq_bind, wq_getO]
  refine propext ⟨fun ⟨o, e, k⟩ => ?_, fun k => ⟨_, h, ?_⟩⟩
  · rw [h] at e
    cases e
    simp only [wq_bind, wq_setO, wq_pure] at k
    exact k.2
  · simp only [wq_bind, wq_setO, wq_pure]
    exact ⟨lt_of_get h, k⟩
theorem w_isL (h : S[l]? = some (.lst ds)) : wq (isL (.ref l)) QU S = QU () S := by
  unfold isL
  dsimp only
  rw [wq_bind, wq_getO]
  exact propext ⟨fun ⟨o, e, k⟩ => by rw [h] at e; cases e; simpa only [wq_pure] using k, fun k => ⟨_, h, by simpa only [wq_pure] using k⟩⟩
theorem w_ixT {i : Int} {d : D} (h : atI ds i = some d) : wq (ixD (.tup ds) (.int i)) Q S = Q d S := by
  show wq (getS (.tup ds) >>= fun ds => match atI ds i with | some d => pure d | none => fail) Q S = _
  rw [wq_bind, w_getS_tup, h, wq_pure]
theorem w_ixL {i : Int} {d : D} (h : S[l]? = some (.lst ds)) (h2 : atI ds i = some d) : wq (ixD (.ref l) (.int i)) Q S = Q d S := by
  show wq (getS (.ref l) >>= fun ds => match atI ds i with | some d => pure d | none => fail) Q S = _
  rw [wq_bind, w_getS_ref h, h2, wq_pure]
theorem w_set {i : Int} {v : D} (h : S[l]? = some (.lst ds)) (h0 : 0 ≤ i) (h1 : i.toNat < ds.length) : wq (setIx (.ref l) (.int i) v) QU S = QU () (S.set l (.lst (ds.set i.toNat v))) := by
  unfold setIx
  dsimp only
  rw [wq_bind, wq_getO]
  refine propext ⟨fun ⟨o, e, k⟩ => ?_, fun k => ⟨_, h, ?_⟩⟩
  · rw [h] at e
    cases e
    dsimp only at k
    rw [ixN_of h0 (by omega)] at k
    rw [wq_setO] at k
    exact k.2
  · dsimp only
    rw [ixN_of h0 (by omega)]
    rw [wq_setO]
    exact ⟨lt_of_get h, k⟩
theorem w_revT : wq (revD (.tup ds)) Q S = Q (.tup ds.reverse) S := wq_l rfl
theorem w_asInt {i : Int} {Q : Option Int → Store → Prop} : wq (asInt (.int i)) Q S = Q (some i) S := wq_l rfl
theorem w_slR {lo hi : Option Int} : wq (slD (.ro ds) lo hi) Q S = Q (.ref S.length) (S ++ [.lst (cutD ds lo hi)]) := wq_l rfl
theorem w_srcT {Q : Src → Store → Prop} : wq (seqSrc (.tup ds)) Q S = Q ⟨ds, none, none⟩ S := wq_l rfl
theorem w_srcR {Q : Src → Store → Prop} : wq (seqSrc (.ro ds)) Q S = Q ⟨ds, none, none⟩ S := wq_l rfl
theorem w_srcL {Q : Src → Store → Prop} (h : S[l]? = some (.lst ds)) : wq (seqSrc (.ref l)) Q S = Q ⟨ds, some (l, ds), none⟩ S := by
  unfold seqSrc
  dsimp only
  rw [wq_bind, wq_getO]
  exact propext ⟨fun ⟨o, e, k⟩ => by rw [h] at e; cases e; simpa only [wq_pure] using k, fun k => ⟨_, h, by simpa only [wq_pure] using k⟩⟩
theorem w_rng {i j : Int} {Q : Src → Store → Prop} : wq (rngSrc (.int i) (.int j)) Q S = ((small62 i && small62 j) = true ∧ Q ⟨rngItems i j, none, none⟩ S) := by
  unfold rngSrc
  dsimp only
  rw [wq_bind, wq_need, wq_pure]
theorem w_zipT {Q : Src → Store → Prop} : wq (zipSrc (.tup ds) (.tup es)) Q S = Q ⟨(ds.zip es).map fun p => .tup [p.1, p.2], none, none⟩ S := by
  unfold zipSrc
  simp only [isTup, wq_bind, wq_need, w_srcT, wq_pure, beq_self_eq_true, true_and]
theorem w_unpkT {n : Nat} : wq (unpk (.tup ds) n) QL S = (decide (ds.length = n) = true ∧ QL ds S) := by
  unfold unpk
  simp only [wq_bind, wq_need, w_getS_tup, wq_pure]
theorem w_unpkL {n : Nat} (h : S[l]? = some (.lst ds)) : wq (unpk (.ref l) n) QL S = (decide (ds.length = n) = true ∧ QL ds S) := by
  unfold unpk
  simp only [wq_bind, wq_need, w_getS_ref h, wq_pure]
theorem w_isi {d : D} {ts : List Ty} {b : Bool} (h : anyTy S d ts = some b) : wq (isiRun d ts) Q S = Q (.bl b) S := by
  rw [wq_eq]
  unfold wp isiRun
  rw [h]
end

/-! ### loops -/
/-- the guard of a source holds -/
def Gd : Option (Nat × List D) → Store → Prop
  | none, _ => True
  | some (l, ds), S => S[l]? = some (.lst ds)
def Src.Gd (s : Src) (S : Store) : Prop := Dl.Gd s.guard S ∧ Dl.Gd s.guard2 S
theorem grd1_wq {g : Option (Nat × List D)} {S : Store} {Q : Unit → Store → Prop} (h : Gd g S) (q : Q () S) : wq (grd1 g) Q S := by
  cases g with
  | none => exact ⟨q⟩
  | some p =>
    refine ⟨?_⟩
    unfold grd1 wp
    obtain ⟨l, ds⟩ := p
    dsimp only [Gd] at *
    rw [if_pos h]
    exact q
theorem grd_wq {s : Src} {S : Store} {Q : Unit → Store → Prop} (h : s.Gd S) (q : Q () S) : wq s.grd Q S := by
  unfold Src.grd
  rw [wq_bind]
  exact grd1_wq h.1 (grd1_wq h.2 q)
theorem Gd.fr {g : Option (Nat × List D)} {S S' : Store} {L : List Nat} (h : Gd g S) (k : Fr L S S') (hl : ∀ p, g = some p → p.1 ∉ L) : Gd g S' := by
  cases g with
  | none => trivial
  | some p => exact k.get _ _ (hl p rfl) h
/-- a comprehension, by an invariant over what is left, what is told and the store -/
theorem compL_inv {s : Src} {f : D → M (Option D)} (I : List D → List D → Store → Prop) (hg : ∀ ds acc S, I ds acc S → s.Gd S)
    (h : ∀ d ds acc S, I (d :: ds) acc S → wq (f d) (fun r S' => match r with | some y => acc.length < sizeLine ∧ I ds (acc ++ [y]) S' | none => I ds acc S') S) :
    ∀ (ds acc : List D) (S : Store), I ds acc S → wq (compL s f ds acc) (fun r S' => I [] r S') S
  | [], acc, S, hi => by
    unfold compL
    rw [wq_bind]
    exact grd_wq (hg _ _ _ hi) (by rw [wq_pure]; exact hi)
  | d :: ds, acc, S, hi => by
    unfold compL
    rw [wq_bind]
    refine grd_wq (hg _ _ _ hi) ?_
    rw [wq_bind]
    refine wq_mono (h d ds acc S hi) fun r S' k => ?_
    cases r with
    | none => exact compL_inv I hg h ds acc S' k
    | some y =>
      dsimp only at *
      rw [wq_bind, wq_need]
      exact ⟨decide_eq_true k.1, compL_inv I hg h ds _ S' k.2⟩
/-- a comprehension whose element is told by its item, over a frame -/
theorem compL_map {s : Src} {f : D → M (Option D)} {S : Store} {L : List Nat} {P : Store → Prop} {R : D → Option D → Prop} {ds : List D} (hs : ds.length ≤ sizeLine) (hg : ∀ S', Fr L S S' → P S' → s.Gd S') (hP : P S)
    (h : ∀ d, d ∈ ds → ∀ S', Fr L S S' → P S' → wq (f d) (fun r S'' => R d r ∧ Fr L S' S'' ∧ P S'') S') :
    wq (compL s f ds []) (fun r S' => (∃ os : List (Option D), os.length = ds.length ∧ (∀ p ∈ ds.zip os, R p.1 p.2) ∧ r = os.filterMap id) ∧ Fr L S S' ∧ P S') S := by
  have key := compL_inv (s := s) (f := f) (fun rest acc S' => ∃ (done : List D) (os : List (Option D)), ds = done ++ rest ∧ os.length = done.length ∧ (∀ p ∈ done.zip os, R p.1 p.2) ∧ acc = os.filterMap id ∧ Fr L S S' ∧ P S') ?_ ?_ ds [] S
    ⟨[], [], rfl, rfl, fun p hp => by simp at hp, rfl, .refl, hP⟩
  · refine wq_mono key fun r S' ⟨done, os, e1, e2, e3, e4, e5, e6⟩ => ?_
    rw [List.append_nil] at e1
    subst e1
    exact ⟨⟨os, e2, e3, e4⟩, e5, e6⟩
  · rintro rest acc S' ⟨done, os, e1, e2, e3, e4, e5, e6⟩
    exact hg S' e5 e6
  · rintro d rest acc S' ⟨done, os, e1, e2, e3, e4, e5, e6⟩
    have hm : d ∈ ds := by rw [e1]; simp
    have hl : acc.length < sizeLine := by
      have a1 : acc.length ≤ os.length := by rw [e4]; exact List.length_filterMap_le _ _
      have a2 : ds.length = done.length + (rest.length + 1) := by rw [e1]; simp
      omega
    refine wq_mono (h d hm S' e5 e6) fun r S'' ⟨k1, k2, k3⟩ => ?_
    have z : ∀ p ∈ (done ++ [d]).zip (os ++ [r]), R p.1 p.2 := fun p hp => by
      rw [List.zip_append (by rw [e2])] at hp
      rcases List.mem_append.mp hp with q | q
      · exact e3 p q
      · simp only [List.zip_cons_cons, List.zip_nil_right, List.mem_singleton] at q
        subst q
        exact k1
    cases r with
    | none => exact ⟨done ++ [d], os ++ [none], by rw [e1]; simp, by simp [e2], z, by rw [List.filterMap_append, ← e4]; simp, e5.trans k2, k3⟩
    | some y => exact ⟨hl, done ++ [d], os ++ [some y], by rw [e1]; simp, by simp [e2], z, by rw [List.filterMap_append, ← e4]; simp, e5.trans k2, k3⟩
theorem zip_fun {α β : Type} {g : α → β} : ∀ {ds : List α} {os : List β}, os.length = ds.length → (∀ p ∈ ds.zip os, p.2 = g p.1) → os = ds.map g
  | [], [], _, _ => rfl
  | [], _ :: _, h, _ => by cases h
  | _ :: _, [], h, _ => by cases h
  | d :: ds, o :: os, h, k => by
    have h1 := k (d, o) (by simp)
    rw [List.map_cons, ← zip_fun (Nat.succ.inj h) fun p hp => k p (by simp only [List.zip_cons_cons, List.mem_cons]; exact .inr hp)]
    exact congrArg (· :: os) h1
/-- a comprehension that computes g and leaves the store but for what is new -/
theorem compL_pure {s : Src} {f : D → M (Option D)} {S : Store} {g : D → Option D} {ds : List D} {Q : List D → Store → Prop} (hs : ds.length ≤ sizeLine) (hg : ∀ S', Fr [] S S' → s.Gd S')
    (h : ∀ d, d ∈ ds → ∀ S', Fr [] S S' → wq (f d) (fun r S'' => r = g d ∧ Fr [] S' S'') S') (k : ∀ S', Fr [] S S' → Q (ds.filterMap g) S') : wq (compL s f ds []) Q S := by
  refine wq_mono (compL_map (L := []) (P := fun _ => True) (R := fun d r => r = g d) hs (fun S' a _ => hg S' a) trivial fun d hd S' a _ => ?_) fun r S' ⟨⟨os, e1, e2, e3⟩, e4, _⟩ => ?_
  · exact wq_mono (h d hd S' a) fun r S'' ⟨k1, k2⟩ => ⟨k1, k2, trivial⟩
  · have := zip_fun e1 e2
    subst this
    rw [e3, List.filterMap_map]
    exact k S' e4
/-- a for, by an invariant -/
theorem forL_inv {s : Src} {f : D → Sl → M (Fl × Sl)} {Q : Fl × Sl → Store → Prop} (I : List D → Sl → Store → Prop) (hg : ∀ ds e S, I ds e S → s.Gd S)
    (he : ∀ e S, I [] e S → Q (.nx, e) S)
    (h : ∀ d ds e S, I (d :: ds) e S → wq (f d e) (fun r S' => match r with | (.nx, e) => I ds e S' | (.ct, e) => I ds e S' | (.bk, e) => Q (.nx, e) S' | (.rt v, e) => Q (.rt v, e) S') S) :
    ∀ (ds : List D) (e : Sl) (S : Store), I ds e S → wq (forL s f ds e) Q S
  | [], e, S, hi => by
    unfold forL
    rw [wq_bind]
    exact grd_wq (hg _ _ _ hi) (by rw [wq_pure]; exact he _ _ hi)
  | d :: ds, e, S, hi => by
    unfold forL
    rw [wq_bind]
    refine grd_wq (hg _ _ _ hi) ?_
    rw [wq_bind]
    refine wq_mono (h d ds e S hi) fun r S' k => ?_
    obtain ⟨fl, e'⟩ := r
    cases fl with
    | nx => exact forL_inv I hg he h ds e' S' k
    | ct => exact forL_inv I hg he h ds e' S' k
    | bk => exact ⟨k⟩
    | rt v => exact ⟨k⟩
theorem wq_call {gl : Nat → D} {fs : List Fd} {n f : Nat} {fd : Fd} {ds : List D} {Q : D → Store → Prop} {S : Store} (h : fs[f]? = some fd) (hl : ds.length = fd.np) :
    wq (call gl fs (n + 1) f ds) Q S = wq (exs gl (call gl fs n) fd.body (startE fd.nl ds)) (fun r S' => wq (ofFl r) Q S') S := by
  unfold call
  rw [h]
  dsimp only
  rw [if_pos hl, wq_bind]

/-! ### == between data without truth values -/
mutual
def D.bf : D → Bool
  | .non => true | .bl _ => false | .int _ => true | .str x => PyData.canLay0 (.str x) | .tup ds => D.bfs ds | .ref _ => false | .ro _ => false
def D.bfs : List D → Bool
  | [] => true
  | d :: ds => D.bf d && D.bfs ds
end
mutual
def D.dp : D → Nat
  | .tup ds => D.dps ds + 1
  | _ => 0
def D.dps : List D → Nat
  | [] => 0
  | d :: ds => max (D.dp d) (D.dps ds)
end
mutual
theorem bf_py : ∀ d : D, d.bf = true → ∃ p, pyOf d = some p ∧ p.canLay0 = true ∧ p.depth = d.dp
  | .non, _ => ⟨_, rfl, rfl, rfl⟩
  | .int _, _ => ⟨_, rfl, rfl, rfl⟩
  | .str _, h => ⟨_, rfl, h, rfl⟩
  | .tup ds, h => by
    obtain ⟨ps, e1, e2, e3⟩ := bfs_py ds (by simpa [D.bf] using h)
    exact ⟨.tuple ps, by simp [pyOf, e1], by simpa [PyData.canLay0] using e2, by simp [PyData.depth, D.dp, e3]⟩
  | .bl _, h => by simp [D.bf] at h
  | .ref _, h => by simp [D.bf] at h
  | .ro _, h => by simp [D.bf] at h
theorem bfs_py : ∀ d : List D, D.bfs d = true → ∃ p, pysOf d = some p ∧ PyData.canLayAll0 p = true ∧ PyData.depthAll p = D.dps d
  | [], _ => ⟨[], rfl, rfl, rfl⟩
  | d :: ds, h => by
    simp only [D.bfs, Bool.and_eq_true] at h
    obtain ⟨p, a1, a2, a3⟩ := bf_py d h.1
    obtain ⟨q, b1, b2, b3⟩ := bfs_py ds h.2
    exact ⟨p :: q, by simp [pysOf, a1, b1], by simp [PyData.canLayAll0, a2, b2], by simp [PyData.depthAll, D.dps, a3, b3]⟩
end
mutual
theorem eqv_bf : ∀ (a b : D) (p q : PyData), a.bf = true → b.bf = true → pyOf a = some p → pyOf b = some q → PyData.eqv p q = decide (a = b)
  | .non, b, p, q, _, hb, hp, hq => by
    cases hp
    cases b with
    | tup ds =>
      obtain ⟨x, e, _⟩ := bfs_py ds (by simpa [D.bf] using hb)
      simp only [pyOf, e, Option.map_some] at hq
      cases hq
      simp [PyData.eqv]
    | non => cases hq; simp [PyData.eqv]
    | int j => cases hq; simp [PyData.eqv]
    | str j => cases hq; simp [PyData.eqv]
    | _ => simp [D.bf] at hb
  | .int i, b, p, q, _, hb, hp, hq => by
    cases hp
    cases b with
    | tup ds =>
      obtain ⟨x, e, _⟩ := bfs_py ds (by simpa [D.bf] using hb)
      simp only [pyOf, e, Option.map_some] at hq
      cases hq
      simp [PyData.eqv]
    | non => cases hq; simp [PyData.eqv]
    | int j => cases hq; by_cases e : i = j <;> simp [PyData.eqv, e]
    | str j => cases hq; simp [PyData.eqv]
    | _ => simp [D.bf] at hb
  | .str i, b, p, q, _, hb, hp, hq => by
    cases hp
    cases b with
    | tup ds =>
      obtain ⟨x, e, _⟩ := bfs_py ds (by simpa [D.bf] using hb)
      simp only [pyOf, e, Option.map_some] at hq
      cases hq
      simp [PyData.eqv]
    | non => cases hq; simp [PyData.eqv]
    | int j => cases hq; simp [PyData.eqv]
    | str j => cases hq; by_cases e : i = j <;> simp [PyData.eqv, e]
    | _ => simp [D.bf] at hb
  | .tup ds, b, p, q, ha, hb, hp, hq => by
    obtain ⟨x, e, _⟩ := bfs_py ds (by simpa [D.bf] using ha)
    simp only [pyOf, e, Option.map_some] at hp
    cases hp
    cases b with
    | tup es =>
      obtain ⟨y, e2, _⟩ := bfs_py es (by simpa [D.bf] using hb)
      simp only [pyOf, e2, Option.map_some] at hq
      cases hq
      have k := eqvs_bf ds es x y (by simpa [D.bf] using ha) (by simpa [D.bf] using hb) e e2
      simp only [PyData.eqv, k, D.tup.injEq]
    | non => cases hq; simp [PyData.eqv]
    | int j => cases hq; simp [PyData.eqv]
    | str j => cases hq; simp [PyData.eqv]
    | _ => simp [D.bf] at hb
  | .bl _, _, _, _, h, _, _, _ => by simp [D.bf] at h
  | .ref _, _, _, _, h, _, _, _ => by simp [D.bf] at h
  | .ro _, _, _, _, h, _, _, _ => by simp [D.bf] at h
theorem eqvs_bf : ∀ (a b : List D) (p q : List PyData), D.bfs a = true → D.bfs b = true → pysOf a = some p → pysOf b = some q → PyData.eqvAll p q = decide (a = b)
  | [], [], p, q, _, _, hp, hq => by cases hp; cases hq; simp [PyData.eqvAll]
  | [], b :: bs, p, q, _, hb, hp, hq => by
    cases hp
    obtain ⟨x, e, _⟩ := bfs_py (b :: bs) hb
    simp only [D.bfs, Bool.and_eq_true] at hb
    obtain ⟨y, e1, _⟩ := bf_py b hb.1
    obtain ⟨z, e2, _⟩ := bfs_py bs hb.2
    simp only [pysOf, e1, e2] at hq
    cases hq
    simp [PyData.eqvAll]
  | a :: as, [], p, q, ha, _, hp, hq => by
    cases hq
    simp only [D.bfs, Bool.and_eq_true] at ha
    obtain ⟨y, e1, _⟩ := bf_py a ha.1
    obtain ⟨z, e2, _⟩ := bfs_py as ha.2
    simp only [pysOf, e1, e2] at hp
    cases hp
    simp [PyData.eqvAll]
  | a :: as, b :: bs, p, q, ha, hb, hp, hq => by
    simp only [D.bfs, Bool.and_eq_true] at ha hb
    obtain ⟨y, e1, _⟩ := bf_py a ha.1
    obtain ⟨z, e2, _⟩ := bfs_py as ha.2
    obtain ⟨y', e1', _⟩ := bf_py b hb.1
    obtain ⟨z', e2', _⟩ := bfs_py bs hb.2
    simp only [pysOf, e1, e2] at hp
    simp only [pysOf, e1', e2'] at hq
    cases hp
    cases hq
    simp only [PyData.eqvAll, eqv_bf a b _ _ ha.1 hb.1 e1 e1', eqvs_bf as bs _ _ ha.2 hb.2 e2 e2']
    by_cases h1 : a = b <;> by_cases h2 : as = bs <;> simp [h1, h2]
end
theorem w_eqD {a b : D} {Q : Bool → Store → Prop} {S : Store} (ha : a.bf = true) (hb : b.bf = true) (da : a.dp ≤ 64) (db : b.dp ≤ 64) : wq (eqD a b) Q S = Q (decide (a = b)) S := by
  obtain ⟨p, a1, a2, a3⟩ := bf_py a ha
  obtain ⟨q, b1, b2, b3⟩ := bf_py b hb
  have e1 : pyAt S a = some p := by rw [← a1]; cases a <;> first | rfl | simp [D.bf] at ha
  have e2 : pyAt S b = some q := by rw [← b1]; cases b <;> first | rfl | simp [D.bf] at hb
  have e3 : (SeqAt.shaped p && SeqAt.shaped q) = true := by
    unfold SeqAt.shaped
    rw [a2, b2, a3, b3, decide_eq_true da, decide_eq_true db]
    rfl
  rw [wq_eq]
  unfold wp eqD
  simp only [e1, e2, e3, if_true, eqv_bf a b p q ha hb a1 b1]
theorem w_eqB {a b : Bool} {Q : Bool → Store → Prop} {S : Store} : wq (eqD (.bl a) (.bl b)) Q S = Q (a == b) S := by
  have e3 : (SeqAt.shaped (.bool a) && SeqAt.shaped (.bool b)) = true := by decide +revert
  have e1 : eqD (.bl a) (.bl b) S = some (PyData.eqv (.bool a) (.bool b), S) := by
    show (if (SeqAt.shaped (.bool a) && SeqAt.shaped (.bool b)) = true then some (PyData.eqv (.bool a) (.bool b), S) else none) = _
    rw [if_pos e3]
  rw [wq_eq]
  unfold wp
  rw [e1]
  rfl
theorem bfs_ints : ∀ xs : List Int, D.bfs (xs.map .int) = true
  | [] => rfl
  | x :: xs => by simp only [List.map_cons, D.bfs, D.bf, bfs_ints xs, Bool.and_self]
theorem dps_ints : ∀ xs : List Int, D.dps (xs.map .int) = 0
  | [] => rfl
  | x :: xs => by simp only [List.map_cons, D.dps, D.dp, dps_ints xs, Nat.max_self]
theorem map_int_inj {xs ys : List Int} : xs.map D.int = ys.map D.int ↔ xs = ys := ⟨fun h => by
  have := congrArg intsOf h
  rw [intsOf_map, intsOf_map] at this
  exact Option.some.inj this, fun h => by rw [h]⟩
theorem w_eqT {x y : List Int} {Q : Bool → Store → Prop} {S : Store} : wq (eqD (.tup (x.map .int)) (.tup (y.map .int))) Q S = Q (decide (x = y)) S := by
  rw [w_eqD (by simp only [D.bf, bfs_ints]) (by simp only [D.bf, bfs_ints]) (by simp only [D.dp, dps_ints]; omega) (by simp only [D.dp, dps_ints]; omega)]
  congr 1
  simp only [D.tup.injEq, map_int_inj]
theorem w_eqI {x y : Int} {Q : Bool → Store → Prop} {S : Store} : wq (eqD (.int x) (.int y)) Q S = Q (decide (x = y)) S := by
  rw [w_eqD rfl rfl (Nat.zero_le _) (Nat.zero_le _)]
  congr 1
  simp only [D.int.injEq]
end Dl
end

section
set_option Elab.async false
set_option linter.all false
set_option maxRecDepth 100000
set_option exponentiation.threshold 20000
/-! Dl: more of the calculus: mapped sources, ranges, indices, bounds. -/
namespace Dl
open PySem PySem.Spec PyProof.Rows L2
theorem rngItems_nat (n : Nat) : rngItems 0 (n : Int) = (List.range n).map fun (k : Nat) => D.int (k : Int) := by
  unfold rngItems
  rw [Int.sub_zero, Int.toNat_natCast]
  exact List.map_congr_left fun k _ => by rw [Int.zero_add]
theorem small62_of {i : Int} (h0 : -1000000 ≤ i) (h1 : i ≤ 1000000) : small62 i = true := by
  unfold small62
  rw [decide_eq_true (by omega), decide_eq_true (by omega)]
  rfl
theorem small_rng {n : Nat} (h : n ≤ 1000000) : (small62 0 && small62 (n : Int)) = true := by
  rw [small62_of (by omega) (by omega), small62_of (by omega) (by omega)]
  rfl
theorem log2_lt {n k : Nat} (h : n < 2 ^ k) (hk : 0 < k) : n.log2 < k := by
  by_cases e : n = 0
  · subst e
    exact hk
  · exact (Nat.log2_lt e).mpr h
theorem mulFits_of {i j : Int} (hi : i.natAbs < 2 ^ 8000) (hj : j.natAbs < 2 ^ 8000) : mulFits i j = true := by
  have a := log2_lt hi (by omega)
  have b := log2_lt hj (by omega)
  exact decide_eq_true (by omega)
theorem fits_small {i : Int} (h0 : -1000000 ≤ i) (h1 : i ≤ 1000000) : i.natAbs < 2 ^ 8000 := by
  have : (2 : Nat) ^ 20 ≤ 2 ^ 8000 := Nat.pow_le_pow_right (by omega) (by omega)
  have : (1000000 : Nat) < 2 ^ 20 := by decide
  omega
theorem fits_big {i : Int} (h0 : -1000000000000 ≤ i) (h1 : i ≤ 1000000000000) : i.natAbs < 2 ^ 8000 := by
  have : (2 : Nat) ^ 40 ≤ 2 ^ 8000 := Nat.pow_le_pow_right (by omega) (by omega)
  have : (1000000000000 : Nat) < 2 ^ 40 := by decide
  omega
theorem atI_map {α : Type} {xs : List α} {e : α → D} {k : Nat} {x : α} (h : xs[k]? = some x) : atI (xs.map e) (k : Int) = some (e x) :=
  atI_of (by omega) (by rw [Int.toNat_natCast, List.getElem?_map, h]; rfl)
theorem atI_ints {xs : List Int} {k : Nat} (h : k < xs.length) : atI (xs.map D.int) (k : Int) = some (D.int (xs.getD k 0)) :=
  atI_map (by rw [List.getD_eq_getElem?_getD, List.getElem?_eq_getElem h]; rfl)
theorem atI_int {xs : List Int} {k : Int} (h0 : 0 ≤ k) (h : k.toNat < xs.length) : atI (xs.map D.int) k = some (D.int (xs.getD k.toNat 0)) := by
  have := atI_ints h
  rwa [Int.toNat_of_nonneg h0] at this
theorem getD_mem {xs : List Int} {k : Nat} (h : k < xs.length) : xs.getD k 0 ∈ xs := by
  rw [List.getD_eq_getElem?_getD, List.getElem?_eq_getElem h]
  exact List.getElem_mem h
/-- over mapped items, in general: what each item may tell, over a frame that keeps P -/
theorem compL_gen {α : Type} {s : Src} {f : D → M (Option D)} {S : Store} {L : List Nat} {P : Store → Prop} {e : α → D} {R : α → Option D → Prop} {xs : List α} {Q : List D → Store → Prop} (hs : xs.length ≤ 1000) (hg : ∀ S', Fr L S S' → P S' → s.Gd S') (hP : P S)
    (h : ∀ x, x ∈ xs → ∀ S', Fr L S S' → P S' → wq (f (e x)) (fun r S'' => R x r ∧ Fr L S' S'' ∧ P S'') S')
    (k : ∀ (os : List (Option D)) S', os.length = xs.length → (∀ p ∈ xs.zip os, R p.1 p.2) → Fr L S S' → P S' → Q (os.filterMap id) S') : wq (compL s f (xs.map e) []) Q S := by
  have key := compL_inv (s := s) (f := f) (fun rest acc S' => ∃ (done rs : List α) (os : List (Option D)), xs = done ++ rs ∧ rest = rs.map e ∧ os.length = done.length ∧ (∀ p ∈ done.zip os, R p.1 p.2) ∧ acc = os.filterMap id ∧ Fr L S S' ∧ P S') ?_ ?_ (xs.map e) [] S
    ⟨[], xs, [], rfl, rfl, rfl, fun p hp => by simp at hp, rfl, .refl, hP⟩
  · refine wq_mono key fun r S' ⟨done, rs, os, e1, e0, e2, e3, e4, e5, e6⟩ => ?_
    cases rs with
    | cons _ _ => cases e0
    | nil =>
      rw [List.append_nil] at e1
      subst e1
      rw [e4]
      exact k os S' e2 e3 e5 e6
  · rintro rest acc S' ⟨done, rs, os, e1, e0, e2, e3, e4, e5, e6⟩
    exact hg S' e5 e6
  · rintro d rest acc S' ⟨done, rs, os, e1, e0, e2, e3, e4, e5, e6⟩
    cases rs with
    | nil => cases e0
    | cons x rs =>
    cases e0
    have hm : x ∈ xs := by rw [e1]; simp
    have hl : acc.length < sizeLine := by
      have a1 : acc.length ≤ os.length := by rw [e4]; exact List.length_filterMap_le _ _
      have a2 : xs.length = done.length + (rs.length + 1) := by rw [e1]; simp
      exact Nat.lt_of_lt_of_le (show acc.length < 1000 by omega) (by decide)
    refine wq_mono (h x hm S' e5 e6) fun r S'' ⟨k1, k2, k3⟩ => ?_
    have z : ∀ p ∈ (done ++ [x]).zip (os ++ [r]), R p.1 p.2 := fun p hp => by
      rw [List.zip_append (by rw [e2])] at hp
      rcases List.mem_append.mp hp with q | q
      · exact e3 p q
      · simp only [List.zip_cons_cons, List.zip_nil_right, List.mem_singleton] at q
        subst q
        exact k1
    cases r with
    | none => exact ⟨done ++ [x], rs, os ++ [none], by rw [e1]; simp, rfl, by simp [e2], z, by rw [List.filterMap_append, ← e4]; simp, e5.trans k2, k3⟩
    | some y => exact ⟨hl, done ++ [x], rs, os ++ [some y], by rw [e1]; simp, rfl, by simp [e2], z, by rw [List.filterMap_append, ← e4]; simp, e5.trans k2, k3⟩
/-- over mapped items: a pure test and a pure element -/
theorem compL_filt {α : Type} {s : Src} {f : D → M (Option D)} {S : Store} {e : α → D} (g : α → Option D) {xs : List α} {Q : List D → Store → Prop} (hs : xs.length ≤ 1000) (hg : ∀ S', Fr [] S S' → s.Gd S')
    (h : ∀ x, x ∈ xs → ∀ S', Fr [] S S' → wq (f (e x)) (fun r S'' => r = g x ∧ Fr [] S' S'') S') (k : ∀ S', Fr [] S S' → Q (xs.filterMap g) S') : wq (compL s f (xs.map e) []) Q S := by
  refine compL_gen (L := []) (P := fun _ => True) (R := fun x r => r = g x) hs (fun S' a _ => hg S' a) trivial (fun x hx S' a _ => wq_mono (h x hx S' a) fun r S'' ⟨k1, k2⟩ => ⟨k1, k2, trivial⟩) fun os S' e1 e2 e3 _ => ?_
  have := zip_fun e1 e2
  subst this
  rw [List.filterMap_map]
  exact k S' e3
/-- the same, with no test -/
theorem compL_tot {α : Type} {s : Src} {f : D → M (Option D)} {S : Store} {e : α → D} (g : α → D) {xs : List α} {Q : List D → Store → Prop} (hs : xs.length ≤ 1000) (hg : ∀ S', Fr [] S S' → s.Gd S')
    (h : ∀ x, x ∈ xs → ∀ S', Fr [] S S' → wq (f (e x)) (fun r S'' => r = some (g x) ∧ Fr [] S' S'') S') (k : ∀ S', Fr [] S S' → Q (xs.map g) S') : wq (compL s f (xs.map e) []) Q S := by
  refine compL_filt (fun x => some (g x)) hs hg h fun S' a => ?_
  have : xs.filterMap (fun x => some (g x)) = xs.map g := by
    clear k h hs
    induction xs with
    | nil => rfl
    | cons x xs ih => simp only [List.filterMap_cons, List.map_cons, ih]
  rw [this]
  exact k S' a
/-- a comprehension with no test that draws -/
theorem compL_drw {α β : Type} {s : Src} {f : D → M (Option D)} {S : Store} {l : Nat} {e : α → D} {e2 : β → D} {R : α → β → Prop} {xs : List α} {Q : List D → Store → Prop} (hs : xs.length ≤ 1000) (hg : ∀ S', Dr l S S' → s.Gd S') (hd : Dw l S)
    (h : ∀ x, x ∈ xs → ∀ S', Dr l S S' → wq (f (e x)) (fun r S'' => (∃ y, r = some (e2 y) ∧ R x y) ∧ Dr l S' S'') S')
    (k : ∀ (ys : List β) S', ys.length = xs.length → (∀ p ∈ xs.zip ys, R p.1 p.2) → Dr l S S' → Q (ys.map e2) S') : wq (compL s f (xs.map e) []) Q S := by
  refine compL_gen (L := [l]) (P := Dw l) (R := fun x r => ∃ y, r = some (e2 y) ∧ R x y) hs (fun S' a b => hg S' ⟨b, a⟩) hd (fun x hx S' a b => wq_mono (h x hx S' ⟨b, a⟩) fun r S'' ⟨k1, k2⟩ => ⟨k1, k2.f, k2.d⟩) fun os S' e1 e2' e3 e4 => ?_
  have : ∃ ys : List β, ys.length = xs.length ∧ (∀ p ∈ xs.zip ys, R p.1 p.2) ∧ os.filterMap id = ys.map e2 := by
    clear k h hs e3 e4
    induction xs generalizing os with
    | nil =>
      cases os with
      | nil => exact ⟨[], rfl, fun p hp => by simp at hp, rfl⟩
      | cons _ _ => cases e1
    | cons x xs ih =>
      cases os with
      | nil => cases e1
      | cons o os =>
        obtain ⟨y, rfl, hy⟩ := e2' (x, o) (by simp)
        obtain ⟨ys, a1, a2, a3⟩ := ih os (Nat.succ.inj e1) fun p hp => e2' p (by simp only [List.zip_cons_cons, List.mem_cons]; exact .inr hp)
        refine ⟨y :: ys, by simp [a1], fun p hp => ?_, by simp [a3]⟩
        simp only [List.zip_cons_cons, List.mem_cons] at hp
        rcases hp with rfl | hp
        · exact hy
        · exact a2 p hp
  obtain ⟨ys, a1, a2, a3⟩ := this
  rw [a3]
  exact k ys S' a1 a2 ⟨e4, e3⟩
/-- a comprehension that draws whether it keeps its item -/
theorem compL_sub {α : Type} {s : Src} {f : D → M (Option D)} {S : Store} {l : Nat} {e : α → D} {xs : List α} {Q : List D → Store → Prop} (hs : xs.length ≤ 1000) (hg : ∀ S', Dr l S S' → s.Gd S') (hd : Dw l S)
    (h : ∀ x, x ∈ xs → ∀ S', Dr l S S' → wq (f (e x)) (fun r S'' => (r = none ∨ r = some (e x)) ∧ Dr l S' S'') S')
    (k : ∀ (ys : List α) S', List.Sublist ys xs → Dr l S S' → Q (ys.map e) S') : wq (compL s f (xs.map e) []) Q S := by
  refine compL_gen (L := [l]) (P := Dw l) (R := fun x r => r = none ∨ r = some (e x)) hs (fun S' a b => hg S' ⟨b, a⟩) hd (fun x hx S' a b => wq_mono (h x hx S' ⟨b, a⟩) fun r S'' ⟨k1, k2⟩ => ⟨k1, k2.f, k2.d⟩) fun os S' e1 e2' e3 e4 => ?_
  have : ∃ ys : List α, List.Sublist ys xs ∧ os.filterMap id = ys.map e := by
    clear k h hs e3 e4
    induction xs generalizing os with
    | nil =>
      cases os with
      | nil => exact ⟨[], .slnil, rfl⟩
      | cons _ _ => cases e1
    | cons x xs ih =>
      cases os with
      | nil => cases e1
      | cons o os =>
        obtain ⟨ys, a1, a3⟩ := ih os (Nat.succ.inj e1) fun p hp => e2' p (by simp only [List.zip_cons_cons, List.mem_cons]; exact .inr hp)
        rcases e2' (x, o) (by simp) with h | h
        · exact ⟨ys, .cons _ a1, by simp at h; subst h; simp [a3]⟩
        · exact ⟨x :: ys, .cons₂ _ a1, by simp at h; subst h; simp [a3]⟩
  obtain ⟨ys, a1, a3⟩ := this
  rw [a3]
  exact k ys S' a1 ⟨e4, e3⟩
theorem Gd_none {ds : List D} {S : Store} : (Src.mk ds none none).Gd S := ⟨trivial, trivial⟩
theorem Gd_ref {ds es : List D} {l : Nat} {S : Store} (h : S[l]? = some (.lst es)) : (Src.mk ds (some (l, es)) none).Gd S := ⟨h, trivial⟩
/-- a for over mapped items -/
theorem forL_gen {α : Type} {s : Src} {f : D → Sl → M (Fl × Sl)} {Q : Fl × Sl → Store → Prop} {e : α → D} (I : List α → List α → Sl → Store → Prop) {xs : List α} {env : Sl} {S : Store} (hg : ∀ a b e S, I a b e S → s.Gd S)
    (h0 : I [] xs env S) (he : ∀ e S, I xs [] e S → Q (.nx, e) S)
    (h : ∀ (done : List α) (x : α) (rest : List α) (e1 : Sl) (S : Store), xs = done ++ x :: rest → I done (x :: rest) e1 S → wq (f (e x) e1) (fun r S' => match r with | (.nx, e2) => I (done ++ [x]) rest e2 S' | (.ct, e2) => I (done ++ [x]) rest e2 S' | (.bk, e2) => Q (.nx, e2) S' | (.rt v, e2) => Q (.rt v, e2) S') S) :
    wq (forL s f (xs.map e) env) Q S := by
  refine forL_inv (fun ds e1 S => ∃ done rest, xs = done ++ rest ∧ ds = rest.map e ∧ I done rest e1 S) ?_ ?_ ?_ (xs.map e) env S ⟨[], xs, rfl, rfl, h0⟩
  · rintro ds e1 S ⟨done, rest, _, _, k⟩
    exact hg _ _ _ _ k
  · rintro e1 S ⟨done, rest, a, b, k⟩
    cases rest with
    | cons _ _ => cases b
    | nil =>
      rw [List.append_nil] at a
      subst a
      exact he _ _ k
  · rintro d ds e1 S ⟨done, rest, a, b, k⟩
    cases rest with
    | nil => cases b
    | cons x rest =>
      cases b
      refine wq_mono (h done x rest e1 S a k) fun r S' z => ?_
      obtain ⟨fl, e2⟩ := r
      cases fl with
      | nx => exact ⟨done ++ [x], rest, by rw [a]; simp, rfl, z⟩
      | ct => exact ⟨done ++ [x], rest, by rw [a]; simp, rfl, z⟩
      | bk => exact z
      | rt v => exact z
/-- a for over mapped items whose invariant does not name the items -/
theorem forL_inv1 {α : Type} {s : Src} {f : D → Sl → M (Fl × Sl)} {Q : Fl × Sl → Store → Prop} {e : α → D} (I : Nat → Sl → Store → Prop) {xs : List α} {env : Sl} {S : Store} (hg : ∀ n e S, I n e S → s.Gd S)
    (h0 : I 0 env S) (he : ∀ e S, I xs.length e S → Q (.nx, e) S)
    (h : ∀ (n : Nat) (x : α) (e1 : Sl) (S : Store), xs[n]? = some x → I n e1 S → wq (f (e x) e1) (fun r S' => match r with | (.nx, e2) => I (n + 1) e2 S' | (.ct, e2) => I (n + 1) e2 S' | (.bk, e2) => Q (.nx, e2) S' | (.rt v, e2) => Q (.rt v, e2) S') S) :
    wq (forL s f (xs.map e) env) Q S := by
  refine forL_gen (fun done _ e1 S => I done.length e1 S) (fun a b e S k => hg _ _ _ k) h0 he fun done x rest e1 S a k => ?_
  have := h done.length x e1 S (by rw [a]; simp) k
  simpa only [List.length_append, List.length_cons, List.length_nil] using this
theorem filter_sub {α : Type} [DecidableEq α] : ∀ {ks xs : List α}, List.Sublist ks xs → xs.Nodup → xs.filter (fun x => decide (x ∈ ks)) = ks
  | _, _, .slnil, _ => rfl
  | ks, _, .cons (l₂ := xs) a h, nd => by
    have nd' := List.nodup_cons.mp nd
    have hn : a ∉ ks := fun m => nd'.1 (h.subset m)
    rw [List.filter_cons_of_neg (by simpa using hn)]
    exact filter_sub h nd'.2
  | _, _, .cons₂ (l₁ := ks) (l₂ := xs) a h, nd => by
    have nd' := List.nodup_cons.mp nd
    rw [List.filter_cons_of_pos (by simp)]
    congr 1
    have : xs.filter (fun x => decide (x ∈ a :: ks)) = xs.filter (fun x => decide (x ∈ ks)) := by
      refine List.filter_congr fun x hx => ?_
      have : x ≠ a := fun e => nd'.1 (e ▸ hx)
      simp [this]
    rw [this]
    exact filter_sub h nd'.2
end Dl
end

section
set_option Elab.async false
set_option linter.all false
set_option maxRecDepth 100000
/-! Dl: wq of each form of the language, bodies of loops kept shut. -/
namespace Dl
open PySem PySem.Spec PyProof.Rows L2
section
variable {gl : Nat → D} {cf : Nat → List D → M D} {env : Sl} {S : Store} {Q : D → Store → Prop} {QB : Bool → Store → Prop} {QL : List D → Store → Prop} {QO : Option Int → Store → Prop} {QS : Src → Store → Prop} {QE : Sl → Store → Prop} {QF : Fl × Sl → Store → Prop} {QD : Option D → Store → Prop}
/-- the body of a comprehension -/
def cB (gl : Nat → D) (cf : Nat → List D → M D) (t : TG) (cond : IC) (e : IE) (env0 : Sl) (d : D) : M (Option D) := do
  let env1 ← asg gl cf t d env0
  if ← evc gl cf cond env1 then
    let y ← ev gl cf e env1
    pure (some y)
  else pure none
/-- the body of a for -/
def fB (gl : Nat → D) (cf : Nat → List D → M D) (t : TG) (b : ISs) (d : D) (e : Sl) : M (Fl × Sl) := do let e1 ← asg gl cf t d e; exs gl cf b e1
theorem e_cB {t : TG} {cond : IC} {e : IE} {d : D} : wq (cB gl cf t cond e env d) QD S = wq (asg gl cf t d env) (fun env1 S' => wq (evc gl cf cond env1) (fun b S'' => if b = true then wq (ev gl cf e env1) (fun y => QD (some y)) S'' else QD none S'') S') S := by
  unfold cB
  simp only [wq_bind, wq_ite, wq_pure]
theorem e_fB {t : TG} {b : ISs} {d : D} : wq (fB gl cf t b d env) QF S = wq (asg gl cf t d env) (fun e1 S' => wq (exs gl cf b e1) QF S') S := by
  unfold fB
  simp only [wq_bind]
theorem e_var {i : Nat} : wq (ev gl cf (.var i) env) Q S = match env[i]? with | some (some d) => Q d S | _ => False := by
  simp only [ev]
  cases env[i]? with
  | none => exact wq_l rfl
  | some o => cases o <;> first | exact wq_l rfl | rfl
theorem e_int {z : Int} : wq (ev gl cf (.int z) env) Q S = Q (.int z) S := by simp only [ev, wq_pure]
theorem e_bl {b : Bool} : wq (ev gl cf (.bl b) env) Q S = Q (.bl b) S := by simp only [ev, wq_pure]
theorem e_non : wq (ev gl cf .non env) Q S = Q .non S := by simp only [ev, wq_pure]
theorem e_str {x : Str} : wq (ev gl cf (.str x) env) Q S = Q (.str x) S := by simp only [ev, wq_pure]
theorem e_glo {g : Nat} : wq (ev gl cf (.glo g) env) Q S = Q (gl g) S := by simp only [ev, wq_pure]
theorem e_tup {es : IEs} : wq (ev gl cf (.tup es) env) Q S = wq (evs gl cf es env) (fun ds S' => lens ds.length = true ∧ Q (.tup ds) S') S := by simp only [ev, wq_bind, wq_need, wq_pure]
theorem e_lst {es : IEs} : wq (ev gl cf (.lst es) env) Q S = wq (evs gl cf es env) (fun ds S' => lens ds.length = true ∧ Q (.ref S'.length) (S' ++ [.lst ds])) S := by simp only [ev, wq_bind, wq_need, wq_newO]
theorem e_op {o : Operator} {a b : IE} : wq (ev gl cf (.op o a b) env) Q S = wq (ev gl cf a env) (fun x S' => wq (ev gl cf b env) (fun y S'' => wq (bop o x y) Q S'') S') S := by simp only [ev, wq_bind]
def negD : D → M D
  | .int i => pure (.int (-i))
  | _ => fail
theorem w_neg {i : Int} : wq (negD (.int i)) Q S = Q (.int (-i)) S := by unfold negD; rw [wq_pure]
theorem e_neg {a : IE} : wq (ev gl cf (.neg a) env) Q S = wq (ev gl cf a env) (fun x S' => wq (negD x) Q S') S := by
  simp only [ev, wq_bind]
  congr 1
theorem e_not {a : IE} : wq (ev gl cf (.not a) env) Q S = wq (ev gl cf a env) (fun x S' => wq (truth x) (fun b S'' => Q (.bl (!b)) S'') S') S := by simp only [ev, wq_bind, wq_pure]
theorem e_and {a b : IE} : wq (ev gl cf (.and a b) env) Q S = wq (ev gl cf a env) (fun x S' => wq (truth x) (fun t S'' => if t = true then wq (ev gl cf b env) Q S'' else Q x S'') S') S := by simp only [ev, wq_bind, wq_ite, wq_pure]
theorem e_or {a b : IE} : wq (ev gl cf (.or a b) env) Q S = wq (ev gl cf a env) (fun x S' => wq (truth x) (fun t S'' => if t = true then Q x S'' else wq (ev gl cf b env) Q S'') S') S := by simp only [ev, wq_bind, wq_ite, wq_pure]
theorem e_cmp {o : CmpOp} {a b : IE} : wq (ev gl cf (.cmp o a b) env) Q S = wq (ev gl cf a env) (fun x S' => wq (ev gl cf b env) (fun y S'' => wq (cop o x y) (fun r => Q (.bl r)) S'') S') S := by simp only [ev, wq_bind, wq_pure]
theorem e_chain {o o2 : CmpOp} {a b c : IE} : wq (ev gl cf (.chain o o2 a b c) env) Q S = wq (ev gl cf a env) (fun x S' => wq (ev gl cf b env) (fun y S'' => wq (cop o x y) (fun t S3 => if t = true then wq (ev gl cf c env) (fun z S4 => wq (cop o2 y z) (fun r => Q (.bl r)) S4) S3 else Q (.bl false) S3) S'') S') S := by simp only [ev, wq_bind, wq_ite, wq_pure]
theorem e_ite {c a b : IE} : wq (ev gl cf (.ite c a b) env) Q S = wq (tst gl cf c env) (fun t S' => if t = true then wq (ev gl cf a env) Q S' else wq (ev gl cf b env) Q S') S := by simp only [ev, wq_bind, wq_ite]
theorem e_ix {a b : IE} : wq (ev gl cf (.ix a b) env) Q S = wq (ev gl cf a env) (fun x S' => wq (ev gl cf b env) (fun y S'' => wq (ixD x y) Q S'') S') S := by simp only [ev, wq_bind]
theorem e_sl {a : IE} {lo hi : IO} : wq (ev gl cf (.sl a lo hi) env) Q S = wq (ev gl cf a env) (fun x S' => wq (evo gl cf lo env) (fun u S'' => wq (evo gl cf hi env) (fun v S3 => wq (slD x u v) Q S3) S'') S') S := by simp only [ev, wq_bind]
theorem e_rev {a : IE} : wq (ev gl cf (.rev a) env) Q S = wq (ev gl cf a env) (fun x S' => wq (revD x) Q S') S := by simp only [ev, wq_bind]
theorem e_call {f : Nat} {es : IEs} : wq (ev gl cf (.call f es) env) Q S = wq (evs gl cf es env) (fun ds S' => wq (cf f ds) Q S') S := by simp only [ev, wq_bind]
theorem e_bi {b : Bi} {es : IEs} : wq (ev gl cf (.bi b es) env) Q S = wq (evs gl cf es env) (fun ds S' => wq (biRun b ds) Q S') S := by simp only [ev, wq_bind]
theorem e_me {m : Me} {o : IE} {es : IEs} : wq (ev gl cf (.me m o es) env) Q S = wq (ev gl cf o env) (fun x S' => wq (isL x) (fun _ S'' => wq (evs gl cf es env) (fun ds S3 => wq (meRun m x ds) Q S3) S'') S') S := by simp only [ev, wq_bind]
theorem e_isi {a : IE} {t : Ty} : wq (ev gl cf (.isi a t) env) Q S = wq (ev gl cf a env) (fun x S' => wq (isiRun x [t]) Q S') S := by simp only [ev, wq_bind]
theorem e_isis {a : IE} {ts : List Ty} : wq (ev gl cf (.isis a ts) env) Q S = wq (ev gl cf a env) (fun x S' => wq (isiRun x ts) Q S') S := by simp only [ev, wq_bind]
theorem e_comp {t : TG} {own : List Nat} {it : II} {cond : IC} {e : IE} : wq (ev gl cf (.comp t own it cond e) env) Q S = wq (evi gl cf it env) (fun s S' => wq (compL s (cB gl cf t cond e (wipeE env own)) s.items []) (fun r S'' => Q (.ref S''.length) (S'' ++ [.lst r])) S') S := by
  simp only [ev, wq_bind, wq_newO]
  rfl
def tuprD : D → M D
  | .int i => do need (rngOk i); pure (.tup (rngItems 0 i))
  | _ => fail
theorem w_tupr {i : Int} : wq (tuprD (.int i)) Q S = (rngOk i = true ∧ Q (.tup (rngItems 0 i)) S) := by unfold tuprD; rw [wq_bind, wq_need, wq_pure]
theorem e_tupr {a : IE} : wq (ev gl cf (.tupr a) env) Q S = wq (ev gl cf a env) (fun x S' => wq (tuprD x) Q S') S := by
  simp only [ev, wq_bind]
  congr 1
def lstrD : D → M D
  | .int i => do need (rngOk i); newO (.lst (rngItems 0 i))
  | _ => fail
theorem w_lstr {i : Int} : wq (lstrD (.int i)) Q S = (rngOk i = true ∧ Q (.ref S.length) (S ++ [.lst (rngItems 0 i)])) := by unfold lstrD; rw [wq_bind, wq_need, wq_newO]
theorem e_lstr {a : IE} : wq (ev gl cf (.lstr a) env) Q S = wq (ev gl cf a env) (fun x S' => wq (lstrD x) Q S') S := by
  simp only [ev, wq_bind]
  congr 1
theorem e_nil : wq (evs gl cf .nil env) QL S = QL [] S := by simp only [evs, wq_pure]
theorem e_cons {e : IE} {es : IEs} : wq (evs gl cf (.cons e es) env) QL S = wq (ev gl cf e env) (fun d S' => wq (evs gl cf es env) (fun ds S'' => QL (d :: ds) S'') S') S := by simp only [evs, wq_bind, wq_pure]
theorem e_ono : wq (evo gl cf .no env) QO S = QO none S := by simp only [evo, wq_pure]
theorem e_oso {e : IE} : wq (evo gl cf (.so e) env) QO S = wq (ev gl cf e env) (fun d S' => wq (asInt d) QO S') S := by simp only [evo, wq_bind]
theorem e_cno : wq (evc gl cf .no env) QB S = QB true S := by simp only [evc, wq_pure]
theorem e_cso {e : IE} : wq (evc gl cf (.so e) env) QB S = wq (tst gl cf e env) QB S := by simp only [evc]
theorem vt_and {a b : IE} : wq (tst gl cf (.and a b) env) QB S = wq (tst gl cf a env) (fun t S'' => if t = true then wq (tst gl cf b env) QB S'' else QB false S'') S := by simp only [tst, wq_bind, wq_ite, wq_pure]
theorem vt_or {a b : IE} : wq (tst gl cf (.or a b) env) QB S = wq (tst gl cf a env) (fun t S'' => if t = true then QB true S'' else wq (tst gl cf b env) QB S'') S := by simp only [tst, wq_bind, wq_ite, wq_pure]
theorem vt_not {a : IE} : wq (tst gl cf (.not a) env) QB S = wq (tst gl cf a env) (fun t S'' => QB (!t) S'') S := by simp only [tst, wq_bind, wq_pure]
theorem vt_cmp {o : CmpOp} {a b : IE} : wq (tst gl cf (.cmp o a b) env) QB S = wq (ev gl cf a env) (fun x S' => wq (ev gl cf b env) (fun y S'' => wq (cop o x y) QB S'') S') S := by simp only [tst, wq_bind]
theorem vt_chain {o o2 : CmpOp} {a b c : IE} : wq (tst gl cf (.chain o o2 a b c) env) QB S = wq (ev gl cf a env) (fun x S' => wq (ev gl cf b env) (fun y S'' => wq (cop o x y) (fun t S3 => if t = true then wq (ev gl cf c env) (fun z S4 => wq (cop o2 y z) QB S4) S3 else QB false S3) S'') S') S := by simp only [tst, wq_bind, wq_ite, wq_pure]
theorem vt_var {i : Nat} : wq (tst gl cf (.var i) env) QB S = match env[i]? with | some (some d) => wq (truth d) QB S | _ => False := by
  simp only [tst]
  cases env[i]? with
  | none => exact wq_l rfl
  | some o => cases o <;> first | exact wq_l rfl | rfl
theorem vt_bl {b : Bool} : wq (tst gl cf (.bl b) env) QB S = QB b S := by simp only [tst, wq_pure]
theorem vt_call {f : Nat} {es : IEs} : wq (tst gl cf (.call f es) env) QB S = wq (evs gl cf es env) (fun ds S' => wq (cf f ds) (fun d S'' => wq (truth d) QB S'') S') S := by simp only [tst, wq_bind]
theorem vt_bi {b : Bi} {es : IEs} : wq (tst gl cf (.bi b es) env) QB S = wq (evs gl cf es env) (fun ds S' => wq (biRun b ds) (fun d S'' => wq (truth d) QB S'') S') S := by simp only [tst, wq_bind]
theorem vt_isi {a : IE} {t : Ty} : wq (tst gl cf (.isi a t) env) QB S = wq (ev gl cf a env) (fun x S' => wq (isiRun x [t]) (fun d S'' => wq (truth d) QB S'') S') S := by simp only [tst, wq_bind]
theorem vt_isis {a : IE} {ts : List Ty} : wq (tst gl cf (.isis a ts) env) QB S = wq (ev gl cf a env) (fun x S' => wq (isiRun x ts) (fun d S'' => wq (truth d) QB S'') S') S := by simp only [tst, wq_bind]
theorem vi_seq {e : IE} : wq (evi gl cf (.seq e) env) QS S = wq (ev gl cf e env) (fun d S' => wq (seqSrc d) QS S') S := by simp only [evi, wq_bind]
theorem vi_rng1 {e : IE} : wq (evi gl cf (.rng1 e) env) QS S = wq (ev gl cf e env) (fun d S' => wq (rngSrc (.int 0) d) QS S') S := by simp only [evi, wq_bind]
theorem vi_rng2 {a b : IE} : wq (evi gl cf (.rng2 a b) env) QS S = wq (ev gl cf a env) (fun x S' => wq (ev gl cf b env) (fun y S'' => wq (rngSrc x y) QS S'') S') S := by simp only [evi, wq_bind]
theorem vi_zip {a b : IE} : wq (evi gl cf (.zip a b) env) QS S = wq (ev gl cf a env) (fun x S' => wq (ev gl cf b env) (fun y S'' => wq (zipSrc x y) QS S'') S') S := by simp only [evi, wq_bind]
theorem vg_nm {i : Nat} {d : D} : wq (asg gl cf (.nm i) d env) QE S = (i < env.length ∧ QE (env.set i (some d)) S) := by simp only [asg, wq_bind, wq_need, wq_pure, decide_eq_true_eq]
theorem vg_tp {ts : TGs} {d : D} : wq (asg gl cf (.tp ts) d env) QE S = wq (unpk d ts.len) (fun ds S' => wq (asgs gl cf ts ds env) QE S') S := by simp only [asg, wq_bind]
theorem vg_ixs {o i : IE} {d : D} : wq (asg gl cf (.ixs o i) d env) QE S = wq (ev gl cf o env) (fun x S' => wq (ev gl cf i env) (fun y S'' => wq (setIx x y d) (fun _ S3 => QE env S3) S'') S') S := by simp only [asg, wq_bind, wq_pure]
theorem gs_nil : wq (asgs gl cf .nil [] env) QE S = QE env S := by simp only [asgs, wq_pure]
theorem gs_cons {t : TG} {ts : TGs} {d : D} {ds : List D} : wq (asgs gl cf (.cons t ts) (d :: ds) env) QE S = wq (asg gl cf t d env) (fun e S' => wq (asgs gl cf ts ds e) QE S') S := by simp only [asgs, wq_bind]
theorem x_asg {t : TG} {e : IE} : wq (ex gl cf (.asg t e) env) QF S = wq (ev gl cf e env) (fun d S' => wq (asg gl cf t d env) (fun e2 S'' => QF (.nx, e2) S'') S') S := by simp only [ex, wq_bind, wq_pure]
theorem x_par {i j : Nat} {a b : IE} : wq (ex gl cf (.par i j a b) env) QF S = wq (ev gl cf a env) (fun x S' => wq (ev gl cf b env) (fun y S'' => (i < env.length ∧ j < env.length) ∧ QF (.nx, (env.set i (some x)).set j (some y)) S'') S') S := by simp only [ex, wq_bind, wq_need, wq_pure, Bool.and_eq_true, decide_eq_true_eq]
theorem x_aug {i : Nat} {o : Operator} {e : IE} : wq (ex gl cf (.aug i o e) env) QF S = match env[i]? with | some (some x) => wq (ev gl cf e env) (fun y S' => augOk o x y = true ∧ wq (bop o x y) (fun z S'' => QF (.nx, env.set i (some z)) S'') S') S | _ => False := by
  simp only [ex]
  cases env[i]? with
  | none => exact wq_l rfl
  | some x =>
    cases x with
    | none => exact wq_l rfl
    | some x => simp only [wq_bind, wq_need, wq_pure]
theorem x_expr {e : IE} : wq (ex gl cf (.expr e) env) QF S = wq (ev gl cf e env) (fun _ S' => QF (.nx, env) S') S := by simp only [ex, wq_bind, wq_pure]
theorem x_ret {e : IE} : wq (ex gl cf (.ret e) env) QF S = wq (ev gl cf e env) (fun d S' => QF (.rt d, env) S') S := by simp only [ex, wq_bind, wq_pure]
theorem x_retN : wq (ex gl cf .retN env) QF S = QF (.rt .non, env) S := by simp only [ex, wq_pure]
theorem x_ite {c : IE} {a b : ISs} : wq (ex gl cf (.ite c a b) env) QF S = wq (tst gl cf c env) (fun t S' => if t = true then wq (exs gl cf a env) QF S' else wq (exs gl cf b env) QF S') S := by simp only [ex, wq_bind, wq_ite]
theorem x_for {t : TG} {it : II} {b : ISs} : wq (ex gl cf (.forr t it b) env) QF S = wq (evi gl cf it env) (fun s S' => wq (forL s (fB gl cf t b) s.items env) QF S') S := by
  simp only [ex, wq_bind]
  rfl
theorem x_whl {c : IE} {b : ISs} : wq (ex gl cf (.whl c b) env) QF S = wq (whlL (tst gl cf c) (exs gl cf b) bigN env) QF S := by
  simp only [ex]
theorem x_pass : wq (ex gl cf .pass env) QF S = QF (.nx, env) S := by simp only [ex, wq_pure]
theorem x_brk : wq (ex gl cf .brk env) QF S = QF (.bk, env) S := by simp only [ex, wq_pure]
theorem x_cnt : wq (ex gl cf .cnt env) QF S = QF (.ct, env) S := by simp only [ex, wq_pure]
theorem xs_nil : wq (exs gl cf .nil env) QF S = QF (.nx, env) S := by simp only [exs, wq_pure]
theorem xs_cons {s : IS} {ss : ISs} : wq (exs gl cf (.cons s ss) env) QF S = wq (ex gl cf s env) (fun r S' => match r with | (.nx, e) => wq (exs gl cf ss e) QF S' | r => QF r S') S := by
  simp only [exs, wq_bind]
  congr 1
  funext r S'
  obtain ⟨f, e⟩ := r
  cases f <;> first | exact wq_l rfl | rfl
theorem r_nx : wq (ofFl (.nx, env)) Q S = Q .non S := by unfold ofFl; rw [wq_pure]
theorem r_rt {d : D} : wq (ofFl (.rt d, env)) Q S = Q d S := by unfold ofFl; rw [wq_pure]
/-- what follows a statement, kept shut -/
structure kQ (gl : Nat → D) (cf : Nat → List D → M D) (ss : ISs) (QF : Fl × Sl → Store → Prop) (r : Fl × Sl) (S : Store) : Prop where
  out : match r with | (.nx, e) => wq (exs gl cf ss e) QF S | r => QF r S
theorem kQ_eq {ss : ISs} {r : Fl × Sl} : kQ gl cf ss QF r S = match r with | (.nx, e) => wq (exs gl cf ss e) QF S | r => QF r S := propext ⟨fun h => h.out, fun h => ⟨h⟩⟩
theorem k_cons {s : IS} {ss : ISs} : wq (exs gl cf (.cons s ss) env) QF S = wq (ex gl cf s env) (kQ gl cf ss QF) S := by
  rw [xs_cons]
  congr 1
  funext r S'
  rw [kQ_eq]
theorem k_one {s : IS} : wq (exs gl cf (.cons s .nil) env) QF S = wq (ex gl cf s env) QF S := by
  rw [xs_cons]
  congr 1
  funext r S'
  obtain ⟨f, e⟩ := r
  cases f <;> simp only [xs_nil]
theorem k_nx {ss : ISs} : kQ gl cf ss QF (.nx, env) S = wq (exs gl cf ss env) QF S := by rw [kQ_eq]
theorem k_rt {ss : ISs} {d : D} : kQ gl cf ss QF (.rt d, env) S = QF (.rt d, env) S := by rw [kQ_eq]
theorem k_bk {ss : ISs} : kQ gl cf ss QF (.bk, env) S = QF (.bk, env) S := by rw [kQ_eq]
theorem k_ct {ss : ISs} : kQ gl cf ss QF (.ct, env) S = QF (.ct, env) S := by rw [kQ_eq]
end
end Dl
end

section
set_option Elab.async false
set_option linter.all false
set_option maxRecDepth 100000
/-! plain matter: kernels of rows of rationals under elimination; Euclid's steps -/
namespace Dl
def dotQ : List Rat → List Rat → Rat
  | a :: as, b :: bs => a * b + dotQ as bs
  | _, _ => 0
def KerQ (n : Nat) (rows : List (List Rat)) : Prop := ∃ v : List Rat, v.length = n ∧ (∃ x ∈ v, x ≠ 0) ∧ ∀ r ∈ rows, dotQ r v = 0
theorem dotQ_scale (c : Rat) : ∀ r v : List Rat, dotQ r (v.map (c * ·)) = c * dotQ r v
  | [], _ => by simp only [dotQ]; grind
  | _ :: _, [] => by simp only [dotQ, List.map_nil]; grind
  | a :: as, b :: bs => by
    simp only [dotQ, List.map_cons, dotQ_scale c as bs]
    grind
theorem dotQ_zero : ∀ (r v : List Rat), (∀ x ∈ v, x = 0) → dotQ r v = 0
  | [], _, _ => by simp only [dotQ]
  | _ :: _, [], _ => by simp only [dotQ]
  | a :: as, b :: bs, h => by
    simp only [dotQ, dotQ_zero as bs fun x hx => h x (List.mem_cons_of_mem _ hx), h b List.mem_cons_self]
    grind
/-- r' is what is left of the row y :: s under the pivot x :: t -/
def RelQ (n : Nat) (x : Rat) (t : List Rat) (r r' : List Rat) : Prop := ∃ y s c, r = y :: s ∧ c ≠ 0 ∧ ∀ w : List Rat, w.length = n → dotQ r' w = c * (dotQ s w - y / x * dotQ t w)
theorem ker_step {n : Nat} {x : Rat} {t : List Rat} {R R' : List (List Rat)} (hx : x ≠ 0) (h1 : ∀ r ∈ R, ∃ r' ∈ R', RelQ n x t r r') (h2 : ∀ r' ∈ R', ∃ r ∈ R, RelQ n x t r r') : KerQ (n + 1) ((x :: t) :: R) ↔ KerQ n R' := by
  constructor
  · rintro ⟨v, hv, hz, hr⟩
    cases v with
    | nil => simp at hv
    | cons a w =>
      have hw : w.length = n := by simpa using hv
      have hp := hr (x :: t) List.mem_cons_self
      simp only [dotQ] at hp
      refine ⟨w, hw, ?_, fun r' hr' => ?_⟩
      · apply Classical.byContradiction
        intro hn
        have hw0 : ∀ y ∈ w, y = 0 := fun y hy => Classical.byContradiction fun e => hn ⟨y, hy, e⟩
        rw [dotQ_zero t w hw0] at hp
        have ha : a = 0 := by grind
        obtain ⟨y, hy, hy0⟩ := hz
        rcases List.mem_cons.mp hy with rfl | hy
        · exact hy0 ha
        · exact hy0 (hw0 y hy)
      · obtain ⟨r, hr0, y, s, c, rfl, hc, hd⟩ := h2 r' hr'
        have := hr (y :: s) (List.mem_cons_of_mem _ hr0)
        simp only [dotQ] at this
        rw [hd w hw]
        grind
  · rintro ⟨w, hw, ⟨z, hz, hz0⟩, hr⟩
    refine ⟨(-(dotQ t w) / x) :: w, by simpa using hw, ⟨z, List.mem_cons_of_mem _ hz, hz0⟩, fun r hr1 => ?_⟩
    rcases List.mem_cons.mp hr1 with rfl | hr1
    · simp only [dotQ]
      grind
    · obtain ⟨r', hr', y, s, c, rfl, hc, hd⟩ := h1 r hr1
      have := hr r' hr'
      rw [hd w hw] at this
      simp only [dotQ]
      have : dotQ s w - y / x * dotQ t w = 0 := by grind
      grind
theorem ker_none {n : Nat} {R : List (List Rat)} (h : ∀ r ∈ R, ∃ s, r = 0 :: s) : KerQ (n + 1) R := by
  refine ⟨1 :: List.replicate n 0, by simp, ⟨1, List.mem_cons_self, by decide⟩, fun r hr => ?_⟩
  obtain ⟨s, rfl⟩ := h r hr
  simp only [dotQ]
  rw [dotQ_zero s _ fun x hx => List.eq_of_mem_replicate hx]
  grind
theorem ker_zero {R : List (List Rat)} : ¬ KerQ 0 R := by
  rintro ⟨v, hv, ⟨x, hx, _⟩, _⟩
  have := List.eq_nil_of_length_eq_zero hv
  subst this
  cases hx
theorem ker_mem {n : Nat} {R R' : List (List Rat)} (h : ∀ r, r ∈ R ↔ r ∈ R') : KerQ n R ↔ KerQ n R' :=
  ⟨fun ⟨v, a, b, c⟩ => ⟨v, a, b, fun r hr => c r ((h r).mpr hr)⟩, fun ⟨v, a, b, c⟩ => ⟨v, a, b, fun r hr => c r ((h r).mp hr)⟩⟩
/-- the row that a step makes: pointwise -/
theorem dotQ_comb {n : Nat} (p q : Rat) : ∀ (s t w : List Rat), s.length = n → t.length = n → w.length = n → dotQ (List.zipWith (fun a b => a * p - b * q) s t) w = p * dotQ s w - q * dotQ t w := by
  induction n with
  | zero =>
    intro s t w h1 h2 h3
    rw [List.eq_nil_of_length_eq_zero h1, List.eq_nil_of_length_eq_zero h2]
    simp only [List.zipWith_nil_left, dotQ]
    grind
  | succ n ih =>
    intro s t w h1 h2 h3
    match s, t, w, h1, h2, h3 with
    | a :: s, b :: t, c :: w, h1, h2, h3 =>
      simp only [List.zipWith_cons_cons, dotQ]
      rw [ih s t w (by simpa using h1) (by simpa using h2) (by simpa using h3)]
      grind
/-- Euclid: a step makes the product less than half -/
theorem euclid_half {a b : Nat} (hb : 0 < b) (h : b < a) : a % b < b ∧ 2 * (b * (a % b)) ≤ a * b := by
  have h1 := Nat.mod_lt a hb
  refine ⟨h1, ?_⟩
  have h2 : a % b + b ≤ a := by
    have := Nat.div_add_mod a b
    have h3 : 1 ≤ a / b := (Nat.le_div_iff_mul_le hb).mpr (by omega)
    have h4 : b * 1 ≤ b * (a / b) := Nat.mul_le_mul_left b h3
    omega
  have h5 : 2 * (a % b) ≤ a := by omega
  calc 2 * (b * (a % b)) = (2 * (a % b)) * b := by grind
    _ ≤ a * b := Nat.mul_le_mul_right b h5
end Dl
end

section
set_option Elab.async false
set_option linter.all false
set_option maxRecDepth 100000
/-! plain matter: elimination over rows of whole numbers -/
namespace Dl
def toQ (r : List Int) : List Rat := r.map fun (x : Int) => (x : Rat)
def remQ (c : Nat) (A : List (List Int)) : List (List Rat) := (A.drop c).map fun r => toQ (r.drop c)
def combI (c : Nat) (p a : List Int) : List Int := List.zipWith (fun x y => x * p.getD c 0 - y * a.getD c 0) a p
theorem drop_at {r : List Int} {c : Nat} (h : c < r.length) : r.drop c = r.getD c 0 :: r.drop (c + 1) := by
  rw [List.drop_eq_getElem_cons h, List.getD_eq_getElem?_getD, List.getElem?_eq_getElem h]
  rfl
theorem toQ_cons (x : Int) (r : List Int) : toQ (x :: r) = (x : Rat) :: toQ r := rfl
theorem toQ_len (r : List Int) : (toQ r).length = r.length := by simp [toQ]
theorem toQ_zip (p q : Int) : ∀ s t : List Int, toQ (List.zipWith (fun x y => x * p - y * q) s t) = List.zipWith (fun a b => a * (p : Rat) - b * (q : Rat)) (toQ s) (toQ t)
  | [], _ => by simp [toQ]
  | _ :: _, [] => by simp [toQ]
  | a :: s, b :: t => by
    simp only [List.zipWith_cons_cons, toQ_cons, toQ_zip p q s t, Rat.intCast_sub, Rat.intCast_mul]
theorem remQ_mem {c : Nat} {A : List (List Int)} {r : List Rat} : r ∈ remQ c A ↔ ∃ i a, c ≤ i ∧ A[i]? = some a ∧ r = toQ (a.drop c) := by
  unfold remQ
  rw [List.mem_map]
  constructor
  · rintro ⟨a, ha, rfl⟩
    obtain ⟨i, hi⟩ := List.getElem?_of_mem ha
    rw [List.getElem?_drop] at hi
    exact ⟨c + i, a, by omega, hi, rfl⟩
  · rintro ⟨i, a, h1, h2, rfl⟩
    refine ⟨a, List.mem_of_getElem? (i := i - c) ?_, rfl⟩
    rw [List.getElem?_drop, show c + (i - c) = i by omega]
    exact h2
theorem elim_ok {m c : Nat} {A A2 : List (List Int)} {p : List Int} (hA : A.length = m) (hA2 : A2.length = m) (hl : ∀ a ∈ A, a.length = m) (hc : c < m) (hp : A[c]? = some p) (hx : p.getD c 0 ≠ 0)
    (h : ∀ i a, c < i → A[i]? = some a → A2[i]? = some (combI c p a)) : KerQ (m - c) (remQ c A) ↔ KerQ (m - (c + 1)) (remQ (c + 1) A2) := by
  have hpl : p.length = m := hl p (List.mem_of_getElem? hp)
  have hxq : ((p.getD c 0 : Int) : Rat) ≠ 0 := by exact_mod_cast hx
  have e1 : remQ c A = (((p.getD c 0 : Int) : Rat) :: toQ (p.drop (c + 1))) :: (A.drop (c + 1)).map fun r => toQ (r.drop c) := by
    unfold remQ
    rw [List.drop_eq_getElem_cons (show c < A.length by omega), List.map_cons]
    have : A[c] = p := by
      rw [List.getElem?_eq_getElem (show c < A.length by omega)] at hp
      exact Option.some.inj hp
    rw [this, drop_at (show c < p.length by omega), toQ_cons]
  have e2 : m - c = (m - (c + 1)) + 1 := by omega
  have rel : ∀ a : List Int, a.length = m → RelQ (m - (c + 1)) (p.getD c 0 : Int) (toQ (p.drop (c + 1))) (toQ (a.drop c)) (toQ ((combI c p a).drop (c + 1))) := by
    intro a ha
    refine ⟨(a.getD c 0 : Int), toQ (a.drop (c + 1)), (p.getD c 0 : Int), by rw [drop_at (show c < a.length by omega), toQ_cons], hxq, fun w hw => ?_⟩
    unfold combI
    rw [List.drop_zipWith, toQ_zip, dotQ_comb (n := m - (c + 1)) _ _ _ _ _ (by rw [toQ_len, List.length_drop]; omega) (by rw [toQ_len, List.length_drop]; omega) hw]
    grind
  rw [e1, e2]
  refine ker_step hxq (fun r hr => ?_) (fun r' hr' => ?_)
  · obtain ⟨a, ha, rfl⟩ := List.mem_map.mp hr
    obtain ⟨i, hi⟩ := List.getElem?_of_mem ha
    rw [List.getElem?_drop] at hi
    exact ⟨_, remQ_mem.mpr ⟨c + 1 + i, _, by omega, h _ _ (by omega) hi, rfl⟩, rel a (hl a (List.mem_of_getElem? hi))⟩
  · obtain ⟨i, b, h1, h2, rfl⟩ := remQ_mem.mp hr'
    have hi : i < A.length := by
      have := (List.getElem?_eq_some_iff.mp h2).1
      omega
    have h3 := h i A[i] (by omega) (List.getElem?_eq_getElem hi)
    rw [h2] at h3
    cases Option.some.inj h3
    refine ⟨toQ (A[i].drop c), List.mem_map.mpr ⟨A[i], List.mem_of_getElem? (i := i - (c + 1)) ?_, rfl⟩, rel _ (hl _ (List.getElem_mem hi))⟩
    rw [List.getElem?_drop, show c + 1 + (i - (c + 1)) = i by omega]
    exact List.getElem?_eq_getElem hi
theorem none_ok {m c : Nat} {A : List (List Int)} (hl : ∀ a ∈ A, a.length = m) (hc : c < m) (h : ∀ i a, c ≤ i → A[i]? = some a → a.getD c 0 = 0) : KerQ (m - c) (remQ c A) := by
  rw [show m - c = (m - (c + 1)) + 1 by omega]
  refine ker_none fun r hr => ?_
  obtain ⟨i, a, h1, h2, rfl⟩ := remQ_mem.mp hr
  have ha := hl a (List.mem_of_getElem? h2)
  refine ⟨toQ (a.drop (c + 1)), ?_⟩
  rw [drop_at (show c < a.length by omega), h i a h1 h2, toQ_cons]
  rfl
theorem swap_get {α : Type} {A : List α} {c p : Nat} {x y : α} (hc : A[c]? = some x) (hp : A[p]? = some y) (i : Nat) : ((A.set c y).set p x)[i]? = if i = p then some x else if i = c then some y else A[i]? := by
  have h1 := (List.getElem?_eq_some_iff.mp hc).1
  have h2 := (List.getElem?_eq_some_iff.mp hp).1
  by_cases e : i = p
  · subst e
    rw [if_pos rfl, List.getElem?_set_self (by simpa using h2)]
  · rw [if_neg e, List.getElem?_set_ne (by omega)]
    by_cases e2 : i = c
    · subst e2
      rw [if_pos rfl, List.getElem?_set_self h1]
    · rw [if_neg e2, List.getElem?_set_ne (by omega)]
theorem swap_ok {n c p : Nat} {A : List (List Int)} {x y : List Int} (hc : A[c]? = some x) (hp : A[p]? = some y) (hcp : c ≤ p) : KerQ n (remQ c A) ↔ KerQ n (remQ c ((A.set c y).set p x)) := by
  refine ker_mem fun r => ?_
  rw [remQ_mem, remQ_mem]
  constructor
  · rintro ⟨i, a, h1, h2, rfl⟩
    by_cases e : i = p
    · subst e
      rw [hp] at h2
      cases h2
      refine ⟨c, y, Nat.le_refl _, ?_, rfl⟩
      rw [swap_get hc hp]
      by_cases e : c = i
      · subst e
        rw [if_pos rfl, hc.symm.trans hp]
      · rw [if_neg e, if_pos rfl]
    · by_cases e2 : i = c
      · subst e2
        rw [hc] at h2
        cases h2
        refine ⟨p, x, hcp, ?_, rfl⟩
        rw [swap_get hc hp, if_pos rfl]
      · refine ⟨i, a, h1, ?_, rfl⟩
        rw [swap_get hc hp, if_neg e, if_neg e2]
        exact h2
  · rintro ⟨i, a, h1, h2, rfl⟩
    rw [swap_get hc hp] at h2
    split at h2
    · cases h2
      exact ⟨c, x, Nat.le_refl _, hc, rfl⟩
    · split at h2
      · cases h2
        exact ⟨p, y, hcp, hp, rfl⟩
      · exact ⟨i, a, h1, h2, rfl⟩
/-- a comprehension that makes a new list for each item -/
theorem compL_alloc {α : Type} {s : Src} {f : D → M (Option D)} {S : Store} {e : α → D} (c : α → List D) {xs : List α} {Q : List D → Store → Prop} (hs : xs.length ≤ 1000) (hg : ∀ S', Fr [] S S' → s.Gd S')
    (h : ∀ x, x ∈ xs → ∀ S', Fr [] S S' → wq (f (e x)) (fun r S'' => ∃ a, r = some (.ref a) ∧ S'.length ≤ a ∧ S''[a]? = some (.lst (c x)) ∧ Fr [] S' S'') S')
    (k : ∀ (rs : List Nat) (S' : Store), rs.length = xs.length → (∀ (i r : Nat) (x : α), rs[i]? = some r → xs[i]? = some x → S'[r]? = some (.lst (c x)) ∧ S.length ≤ r) → Fr [] S S' → Q (rs.map .ref) S') : wq (compL s f (xs.map e) []) Q S := by
  have key := compL_inv (s := s) (f := f) (fun rest acc S' => ∃ (done rem : List α) (rs : List Nat), xs = done ++ rem ∧ rest = rem.map e ∧ rs.length = done.length ∧ acc = rs.map D.ref ∧ (∀ (i r : Nat) (x : α), rs[i]? = some r → done[i]? = some x → S'[r]? = some (.lst (c x)) ∧ S.length ≤ r) ∧ Fr [] S S') ?_ ?_ (xs.map e) [] S
    ⟨[], xs, [], rfl, rfl, rfl, rfl, fun i r x h => by simp at h, .refl⟩
  · refine wq_mono key fun r S' ⟨done, rem, rs, e1, e2, e3, e4, e5, e6⟩ => ?_
    cases rem with
    | cons _ _ => cases e2
    | nil =>
      rw [List.append_nil] at e1
      subst e1
      rw [e4]
      exact k rs S' e3 e5 e6
  · rintro rest acc S' ⟨done, rem, rs, e1, e2, e3, e4, e5, e6⟩
    exact hg S' e6
  · rintro d rest acc S' ⟨done, rem, rs, e1, e2, e3, e4, e5, e6⟩
    cases rem with
    | nil => cases e2
    | cons x rem =>
    cases e2
    have hm : x ∈ xs := by rw [e1]; simp
    refine wq_mono (h x hm S' e6) fun r S'' ⟨a, k1, k2, k3, k4⟩ => ?_
    subst k1
    refine ⟨?_, done ++ [x], rem, rs ++ [a], by rw [e1]; simp, rfl, by simp [e3], by rw [e4]; simp, fun i r y h1 h2 => ?_, e6.trans k4⟩
    · have : xs.length = done.length + (rem.length + 1) := by rw [e1]; simp
      rw [e4, List.length_map]
      exact Nat.lt_of_le_of_lt (show rs.length ≤ 1000 by omega) (by decide)
    · by_cases hi : i < rs.length
      · rw [List.getElem?_append_left hi] at h1
        rw [List.getElem?_append_left (by omega)] at h2
        obtain ⟨q1, q2⟩ := e5 i r y h1 h2
        exact ⟨k4.get _ _ (by simp) q1, q2⟩
      · rw [List.getElem?_append_right (by omega)] at h1
        rw [List.getElem?_append_right (by omega)] at h2
        have h0 : i - rs.length = 0 := by
          cases q : i - rs.length with
          | zero => rfl
          | succ j => rw [q] at h1; simp at h1
        rw [h0] at h1
        rw [show i - done.length = 0 by omega] at h2
        simp at h1 h2
        subst h1 h2
        exact ⟨k3, Nat.le_trans e6.le k2⟩
/-- a list of lists of whole numbers -/
def RL (S : Store) (l : Nat) (A : List (List Int)) : Prop := ∃ rs : List Nat, S[l]? = some (.lst (rs.map .ref)) ∧ rs.length = A.length ∧ ∀ (i r : Nat) (a : List Int), rs[i]? = some r → A[i]? = some a → S[r]? = some (.lst (a.map .int)) ∧ r ≠ l
theorem w_zipL {S : Store} {l l2 : Nat} {ds es : List D} {Q : Src → Store → Prop} (h1 : S[l]? = some (.lst ds)) (h2 : S[l2]? = some (.lst es)) : wq (zipSrc (.ref l) (.ref l2)) Q S = Q ⟨(ds.zip es).map fun p => .tup [p.1, p.2], some (l, ds), some (l2, es)⟩ S := by
  unfold zipSrc
  simp only [isTup, wq_bind, wq_need, w_srcL h1, w_srcL h2, wq_pure, beq_self_eq_true, true_and]
theorem rngItems_from (c m : Nat) (h : c ≤ m) : rngItems (c : Int) (m : Int) = (List.range (m - c)).map fun (k : Nat) => D.int ((c + k : Nat) : Int) := by
  unfold rngItems
  rw [show ((m : Int) - (c : Int)).toNat = m - c by omega]
  exact List.map_congr_left fun k _ => by rw [Int.natCast_add]
theorem RL.get {S : Store} {l : Nat} {A : List (List Int)} (h : RL S l A) {i : Nat} {a : List Int} (hi : A[i]? = some a) : ∃ (rs : List Nat) (r : Nat), S[l]? = some (.lst (rs.map .ref)) ∧ rs.length = A.length ∧ rs[i]? = some r ∧ S[r]? = some (.lst (a.map .int)) ∧ r ≠ l := by
  obtain ⟨rs, h1, h2, h3⟩ := h
  have := (List.getElem?_eq_some_iff.mp hi).1
  obtain ⟨q1, q2⟩ := h3 i rs[i] a (List.getElem?_eq_getElem (by omega)) hi
  exact ⟨rs, _, h1, h2, List.getElem?_eq_getElem (by omega), q1, q2⟩
theorem RL.ix {S : Store} {l : Nat} {A : List (List Int)} {Q : D → Store → Prop} (h : RL S l A) {i : Nat} {a : List Int} (hi : A[i]? = some a) (k : ∀ r, S[r]? = some (.lst (a.map .int)) → r ≠ l → Q (.ref r) S) : wq (ixD (.ref l) (.int (i : Int))) Q S := by
  obtain ⟨rs, r, h1, h2, h3, h4, h5⟩ := h.get hi
  rw [w_ixL h1 (atI_map h3)]
  exact k r h4 h5
theorem RL.len {S : Store} {l : Nat} {A : List (List Int)} {Q : D → Store → Prop} (h : RL S l A) (k : Q (.int (A.length : Int)) S) : wq (biRun .len [.ref l]) Q S := by
  obtain ⟨rs, h1, h2, h3⟩ := h
  rw [w_lenL h1, List.length_map, h2]
  exact k
theorem RL.fr {S S' : Store} {l : Nat} {A : List (List Int)} (h : RL S l A) (f : Fr [] S S') : RL S' l A := by
  obtain ⟨rs, h1, h2, h3⟩ := h
  exact ⟨rs, f.get _ _ (by simp) h1, h2, fun i r a q1 q2 => ⟨f.get _ _ (by simp) (h3 i r a q1 q2).1, (h3 i r a q1 q2).2⟩⟩
/-- left[i] = a new row -/
theorem RL.put {S : Store} {l r : Nat} {A : List (List Int)} {QU : Unit → Store → Prop} (h : RL S l A) {i : Nat} {a : List Int} (hi : i < A.length) (hr : S[r]? = some (.lst (a.map .int))) (hne : r ≠ l)
    (k : ∀ o, RL (S.set l o) l (A.set i a) → QU () (S.set l o)) : wq (setIx (.ref l) (.int (i : Int)) (.ref r)) QU S := by
  obtain ⟨rs, h1, h2, h3⟩ := h
  rw [w_set h1 (by omega) (by simp; omega)]
  rw [Int.toNat_natCast, ← List.map_set]
  refine k _ ⟨rs.set i r, get_set h1, by simp [h2], fun j q b e1 e2 => ?_⟩
  by_cases e : j = i
  · subst e
    rw [List.getElem?_set_self (by omega)] at e1
    rw [List.getElem?_set_self hi] at e2
    cases e1
    cases e2
    exact ⟨by rw [List.getElem?_set_ne (by omega)]; exact hr, hne⟩
  · rw [List.getElem?_set_ne (by omega)] at e1
    rw [List.getElem?_set_ne (by omega)] at e2
    obtain ⟨q1, q2⟩ := h3 j q b e1 e2
    exact ⟨by rw [List.getElem?_set_ne (by omega)]; exact q1, q2⟩
end Dl
end

section
set_option Elab.async false
set_option linter.all false
set_option maxRecDepth 100000
namespace Dl
open PySem PySem.Spec PyProof.Rows L2
theorem remAt_ok {S : Store} {xs : List D} {d : D} {ps : List PyData} {p : PyData} {j : Nat} (h1 : pysAt S xs = some ps) (h2 : pyAt S d = some p) (h3 : SeqAt.shaped (.list ps) = true) (h4 : SeqAt.shaped p = true) (h5 : (ps.findIdx? fun z => PyData.eqv z p) = some j) : remAt xs d S = some (j, S) := by
  unfold remAt
  simp only [h1, h2, h3, h4, Bool.and_self, if_true, h5]
theorem w_remove {S : Store} {l : Nat} {ds : List D} {d : D} {ps : List PyData} {p : PyData} {j : Nat} {Q : D → Store → Prop} (h : S[l]? = some (.lst ds)) (h1 : pysAt S ds = some ps) (h2 : pyAt S d = some p) (h3 : SeqAt.shaped (.list ps) = true) (h4 : SeqAt.shaped p = true) (h5 : (ps.findIdx? fun z => PyData.eqv z p) = some j)
    (k : Q .non (S.set l (.lst (ds.eraseIdx j)))) : wq (meRun .remove (.ref l) [d]) Q S := by
  unfold meRun
  dsimp only
  rw [wq_bind, wq_getO]
  refine ⟨_, h, ?_⟩
  dsimp only
  rw [wq_bind]
  refine ⟨wp_of (remAt_ok h1 h2 h3 h4 h5) ?_⟩
  rw [wq_bind, wq_setO]
  exact ⟨lt_of_get h, by rw [wq_pure]; exact k⟩
theorem w_slL {S : Store} {l : Nat} {ds : List D} {lo hi : Option Int} {Q : D → Store → Prop} (h : S[l]? = some (.lst ds)) : wq (slD (.ref l) lo hi) Q S = Q (.ref S.length) (S ++ [.lst (cutD ds lo hi)]) := by
  unfold slD
  dsimp only
  rw [wq_bind, wq_getO]
  exact propext ⟨fun ⟨o, e, k⟩ => by rw [h] at e; cases e; simpa only [wq_newO] using k, fun k => ⟨_, h, by simpa only [wq_newO] using k⟩⟩
theorem w_slT {S : Store} {ds : List D} {lo hi : Option Int} {Q : D → Store → Prop} : wq (slD (.tup ds) lo hi) Q S = Q (.tup (cutD ds lo hi)) S := wq_l rfl
/-- a comprehension with no test whose elements are told but for a relation -/
theorem compL_rel {α β : Type} {s : Src} {f : D → M (Option D)} {S : Store} {e : α → D} {e2 : β → D} {R : α → β → Prop} {xs : List α} {Q : List D → Store → Prop} (hs : xs.length ≤ 1000) (hg : ∀ S', Fr [] S S' → s.Gd S')
    (h : ∀ x, x ∈ xs → ∀ S', Fr [] S S' → wq (f (e x)) (fun r S'' => (∃ y, r = some (e2 y) ∧ R x y) ∧ Fr [] S' S'') S')
    (k : ∀ (ys : List β) S', ys.length = xs.length → (∀ p ∈ xs.zip ys, R p.1 p.2) → Fr [] S S' → Q (ys.map e2) S') : wq (compL s f (xs.map e) []) Q S := by
  refine compL_gen (L := []) (P := fun _ => True) (R := fun x r => ∃ y, r = some (e2 y) ∧ R x y) hs (fun S' a b => hg S' a) trivial (fun x hx S' a b => wq_mono (h x hx S' a) fun r S'' ⟨k1, k2⟩ => ⟨k1, k2, trivial⟩) fun os S' e1 e2' e3 e4 => ?_
  have : ∃ ys : List β, ys.length = xs.length ∧ (∀ p ∈ xs.zip ys, R p.1 p.2) ∧ os.filterMap id = ys.map e2 := by
    clear k h hs e3 e4
    induction xs generalizing os with
    | nil =>
      cases os with
      | nil => exact ⟨[], rfl, fun p hp => by simp at hp, rfl⟩
      | cons _ _ => cases e1
    | cons x xs ih =>
      cases os with
      | nil => cases e1
      | cons o os =>
        obtain ⟨y, rfl, hy⟩ := e2' (x, o) (by simp)
        obtain ⟨ys, a1, a2, a3⟩ := ih os (Nat.succ.inj e1) fun p hp => e2' p (by simp only [List.zip_cons_cons, List.mem_cons]; exact .inr hp)
        refine ⟨y :: ys, by simp [a1], fun p hp => ?_, by simp [a3]⟩
        simp only [List.zip_cons_cons, List.mem_cons] at hp
        rcases hp with rfl | hp
        · exact hy
        · exact a2 p hp
  obtain ⟨ys, a1, a2, a3⟩ := this
  rw [a3]
  exact k ys S' a1 a2 e3
/-- over any items, no test -/
theorem compL_each {s : Src} {f : D → M (Option D)} {S : Store} (g : D → D) {ds : List D} {Q : List D → Store → Prop} (hs : ds.length ≤ 1000) (hg : ∀ S', Fr [] S S' → s.Gd S')
    (h : ∀ d, d ∈ ds → ∀ S', Fr [] S S' → wq (f d) (fun r S'' => r = some (g d) ∧ Fr [] S' S'') S') (k : ∀ S', Fr [] S S' → Q (ds.map g) S') : wq (compL s f ds []) Q S := by
  refine compL_pure (g := fun d => some (g d)) (Nat.le_trans hs (by decide)) hg h fun S' a => ?_
  have : ds.filterMap (fun d => some (g d)) = ds.map g := by
    clear k h hs
    induction ds with
    | nil => rfl
    | cons x xs ih => simp only [List.filterMap_cons, List.map_cons, ih]
  rw [this]
  exact k S' a
/-- a for over any items -/
theorem forL_each {s : Src} {f : D → Sl → M (Fl × Sl)} {Q : Fl × Sl → Store → Prop} (I : List D → List D → Sl → Store → Prop) {xs : List D} {env : Sl} {S : Store} (hg : ∀ a b e S, I a b e S → s.Gd S)
    (h0 : I [] xs env S) (he : ∀ e S, I xs [] e S → Q (.nx, e) S)
    (h : ∀ (done : List D) (x : D) (rest : List D) (e1 : Sl) (S : Store), xs = done ++ x :: rest → I done (x :: rest) e1 S → wq (f x e1) (fun r S' => match r with | (.nx, e2) => I (done ++ [x]) rest e2 S' | (.ct, e2) => I (done ++ [x]) rest e2 S' | (.bk, e2) => Q (.nx, e2) S' | (.rt v, e2) => Q (.rt v, e2) S') S) :
    wq (forL s f xs env) Q S := by
  have := forL_gen (s := s) (f := f) (Q := Q) (e := id) I (xs := xs) (env := env) (S := S) hg h0 he h
  rwa [List.map_id] at this
theorem w_allL {S : Store} {l : Nat} {bs : List Bool} {Q : D → Store → Prop} (h : S[l]? = some (.lst (bs.map .bl))) : wq (biRun .all [.ref l]) Q S = Q (.bl (bs.all id)) S := by
  show wq (getL (.ref l) >>= fun ds => match blsOf ds with | some bs => pure (.bl (bs.all id)) | none => fail) Q S = _
  rw [wq_bind, w_getL_ref h, blsOf_map, wq_pure]
theorem rngItems_from' (c m : Nat) : rngItems (c : Int) (m : Int) = (List.range (m - c)).map fun (k : Nat) => D.int ((c + k : Nat) : Int) := by
  unfold rngItems
  rw [show ((m : Int) - (c : Int)).toNat = m - c by omega]
  exact List.map_congr_left fun k _ => by rw [Int.natCast_add]
/-- plain data: words of W, numbers within B, tuples of at most L, n deep -/
def pl (W : List Str) (B : Int) (L : Nat) : Nat → D → Bool
  | n, .non => true
  | n, .int i => decide (-B ≤ i) && decide (i ≤ B)
  | n, .str x => W.contains x
  | n + 1, .tup ds => decide (ds.length ≤ L) && ds.all (pl W B L n)
  | _, _ => false
theorem pl_tup {W : List Str} {B : Int} {L n : Nat} {ds : List D} (h : pl W B L n (.tup ds) = true) : ds.length ≤ L ∧ ∀ d ∈ ds, pl W B L (n - 1) d = true := by
  cases n with
  | zero => simp [pl] at h
  | succ n =>
    simp only [pl, Bool.and_eq_true, decide_eq_true_eq, List.all_eq_true] at h
    exact h
theorem pl_bf {W : List Str} {B : Int} {L : Nat} (hW : ∀ x ∈ W, PyData.canLay0 (.str x) = true) : ∀ (n : Nat) (d : D), pl W B L n d = true → d.bf = true ∧ d.dp ≤ n
  | n, .non, _ => ⟨rfl, Nat.zero_le _⟩
  | n, .int _, _ => ⟨rfl, Nat.zero_le _⟩
  | n, .str x, h => by
    refine ⟨?_, Nat.zero_le _⟩
    have : x ∈ W := by simpa [pl] using h
    unfold D.bf
    exact hW x this
  | 0, .tup ds, h => by simp [pl] at h
  | n + 1, .tup ds, h => by
    obtain ⟨h1, h2⟩ := pl_tup h
    have : D.bfs ds = true ∧ D.dps ds ≤ n := by
      clear h h1
      induction ds with
      | nil => exact ⟨rfl, Nat.zero_le _⟩
      | cons d ds ih =>
        obtain ⟨a1, a2⟩ := pl_bf hW n d (h2 d List.mem_cons_self)
        obtain ⟨b1, b2⟩ := ih fun e he => h2 e (List.mem_cons_of_mem _ he)
        simp only [D.bfs, D.dps, a1, b1, Bool.and_self, true_and]
        omega
    simp only [D.bf, D.dp]
    exact ⟨this.1, by omega⟩
  | n, .bl _, h => by cases n <;> simp [pl] at h
  | n, .ref _, h => by cases n <;> simp [pl] at h
  | n, .ro _, h => by cases n <;> simp [pl] at h
theorem pl_mono {W : List Str} {B B' : Int} {L L' : Nat} (hB : B ≤ B') (hL : L ≤ L') : ∀ (n n' : Nat) (d : D), n ≤ n' → pl W B L n d = true → pl W B' L' n' d = true
  | n, n', .non, _, _ => by cases n' <;> rfl
  | n, n', .int i, _, h => by
    have : -B ≤ i ∧ i ≤ B := by cases n <;> simpa [pl] using h
    have h2 : (decide (-B' ≤ i) && decide (i ≤ B')) = true := by
      rw [decide_eq_true (by omega), decide_eq_true (by omega)]; rfl
    cases n' <;> exact h2
  | n, n', .str x, _, h => by cases n <;> cases n' <;> exact h
  | 0, n', .tup ds, _, h => by simp [pl] at h
  | n + 1, 0, .tup ds, hn, h => by omega
  | n + 1, n' + 1, .tup ds, hn, h => by
    obtain ⟨h1, h2⟩ := pl_tup h
    simp only [pl, Bool.and_eq_true, decide_eq_true_eq, List.all_eq_true]
    exact ⟨by omega, fun d hd => pl_mono hB hL n n' d (by omega) (h2 d hd)⟩
  | n, n', .bl _, _, h => by cases n <;> simp [pl] at h
  | n, n', .ref _, _, h => by cases n <;> simp [pl] at h
  | n, n', .ro _, _, h => by cases n <;> simp [pl] at h
theorem map_erase {α β : Type} (f : α → β) : ∀ (xs : List α) (i : Nat), (xs.map f).eraseIdx i = (xs.eraseIdx i).map f
  | [], _ => rfl
  | _ :: _, 0 => rfl
  | x :: xs, i + 1 => by
    simp only [List.map_cons, List.eraseIdx_cons_succ, map_erase f xs i]
/-- a list of lists -/
def RG {α : Type} (enc : α → D) (S : Store) (l : Nat) (rs : List Nat) (A : List (List α)) : Prop := S[l]? = some (.lst (rs.map .ref)) ∧ rs.length = A.length ∧ ∀ (i r : Nat) (a : List α), rs[i]? = some r → A[i]? = some a → S[r]? = some (.lst (a.map enc)) ∧ r ≠ l
theorem RG.fr {α : Type} {enc : α → D} {S S' : Store} {l : Nat} {rs : List Nat} {A : List (List α)} (h : RG enc S l rs A) (f : Fr [] S S') : RG enc S' l rs A :=
  ⟨f.get _ _ (by simp) h.1, h.2.1, fun i r a q1 q2 => ⟨f.get _ _ (by simp) (h.2.2 i r a q1 q2).1, (h.2.2 i r a q1 q2).2⟩⟩
theorem RG.erase {α : Type} {enc : α → D} {S : Store} {l i : Nat} {rs : List Nat} {A : List (List α)} (h : RG enc S l rs A) (hi : i < A.length) : RG enc (S.set l (.lst ((rs.map .ref).eraseIdx i))) l (rs.eraseIdx i) (A.eraseIdx i) := by
  refine ⟨by rw [get_set h.1, map_erase], by rw [List.length_eraseIdx_of_lt (by rw [h.2.1]; exact hi), List.length_eraseIdx_of_lt hi, h.2.1], fun j r a q1 q2 => ?_⟩
  rw [List.getElem?_eraseIdx] at q1 q2
  have : S[r]? = some (.lst (a.map enc)) ∧ r ≠ l := by
    split at q1
    · rename_i c
      rw [if_pos c] at q2
      exact h.2.2 _ r a q1 q2
    · rename_i c
      rw [if_neg c] at q2
      exact h.2.2 _ r a q1 q2
  exact ⟨by rw [List.getElem?_set_ne (fun e => this.2 e.symm)]; exact this.1, this.2⟩
theorem RG.push {α : Type} {enc : α → D} {S : Store} {l r : Nat} {rs : List Nat} {A : List (List α)} {a : List α} (h : RG enc S l rs A) (hr : S[r]? = some (.lst (a.map enc))) (hne : r ≠ l) : RG enc (S.set l (.lst (rs.map .ref ++ [.ref r]))) l (rs ++ [r]) (A ++ [a]) := by
  refine ⟨by rw [get_set h.1]; simp, by simp [h.2.1], fun j q b q1 q2 => ?_⟩
  have : S[q]? = some (.lst (b.map enc)) ∧ q ≠ l := by
    by_cases c : j < rs.length
    · rw [List.getElem?_append_left c] at q1
      rw [List.getElem?_append_left (by rw [← h.2.1]; exact c)] at q2
      exact h.2.2 j q b q1 q2
    · rw [List.getElem?_append_right (by omega)] at q1
      rw [List.getElem?_append_right (by rw [← h.2.1]; omega)] at q2
      have h0 : j - rs.length = 0 := by
        cases e : j - rs.length with
        | zero => rfl
        | succ k => rw [e] at q1; simp at q1
      rw [h0] at q1
      rw [show j - A.length = 0 by rw [← h.2.1]; omega] at q2
      simp at q1 q2
      subst q1 q2
      exact ⟨hr, hne⟩
  exact ⟨by rw [List.getElem?_set_ne (fun e => this.2 e.symm)]; exact this.1, this.2⟩
theorem first_of {α β : Type} (c : α → Bool) (g : α → β) : ∀ xs : List α, (xs.filterMap (fun x => if c x = true then some (g x) else none) = [] ∧ ∀ x ∈ xs, c x = false) ∨
    (∃ (i : Nat) (x : α) (t : List β), xs[i]? = some x ∧ c x = true ∧ xs.filterMap (fun x => if c x = true then some (g x) else none) = g x :: t ∧ ∀ (j : Nat) (y : α), j < i → xs[j]? = some y → c y = false)
  | [] => .inl ⟨rfl, fun x h => by cases h⟩
  | x :: xs => by
    cases hc : c x with
    | true => exact .inr ⟨0, x, xs.filterMap (fun x => if c x = true then some (g x) else none), rfl, hc, by rw [List.filterMap_cons, hc]; rfl, fun j y h => by omega⟩
    | false =>
      rcases first_of c g xs with ⟨h1, h2⟩ | ⟨i, y, t, h1, h2, h3, h4⟩
      · exact .inl ⟨by rw [List.filterMap_cons, hc]; exact h1, fun z hz => by
          rcases List.mem_cons.mp hz with rfl | hz
          · exact hc
          · exact h2 z hz⟩
      · refine .inr ⟨i + 1, y, t, h1, h2, by rw [List.filterMap_cons, hc]; exact h3, fun j z hj hz => ?_⟩
        cases j with
        | zero => simp at hz; subst hz; exact hc
        | succ j => exact h4 j z (by omega) (by simpa using hz)
theorem cut1 (ds : List D) : cutD ds none (some 1) = ds.take 1 := by
  unfold cutD
  rw [HT.sIx_none, show (some (1 : Int)) = some ((1 : Nat) : Int) from rfl, HT.sIx_nat, Nat.sub_zero, List.drop_zero]
  cases ds with
  | nil => rfl
  | cons d ds => simp
/-- the values of a row of fractions that is left -/
def remG {α : Type} (v : α → Rat) (c : Nat) (A : List (List α)) : List (List Rat) := A.map fun a => (a.drop c).map v
theorem drop_atG {α : Type} {r : List α} {c : Nat} {x : α} (h : r[c]? = some x) : r.drop c = x :: r.drop (c + 1) := by
  have hl := (List.getElem?_eq_some_iff.mp h).1
  rw [List.drop_eq_getElem_cons hl]
  rw [List.getElem?_eq_getElem hl] at h
  rw [Option.some.inj h]
theorem noneG {α : Type} {v : α → Rat} {n c : Nat} {A : List (List α)} (h : ∀ a ∈ A, ∃ x, a[c]? = some x ∧ v x = 0) : KerQ (n + 1) (remG v c A) := by
  refine ker_none fun r hr => ?_
  obtain ⟨a, ha, rfl⟩ := List.mem_map.mp hr
  obtain ⟨x, h1, h2⟩ := h a ha
  exact ⟨_, by rw [drop_atG h1, List.map_cons, h2]⟩
theorem elimG {α : Type} {v : α → Rat} {m c i : Nat} {A A2 : List (List α)} {p : List α} {x : α} (hl : ∀ a ∈ A, a.length = m) (hc : c < m) (hp : A[i]? = some p) (hpx : p[c]? = some x) (hx : v x ≠ 0)
    (h : A2.length = (A.eraseIdx i).length) (h2 : ∀ (j : Nat) (a b : List α), (A.eraseIdx i)[j]? = some a → A2[j]? = some b → b.length = m ∧ ∀ (k : Nat) (y z w u : α), a[k]? = some y → b[k]? = some z → p[k]? = some w → a[c]? = some u → v z = v y - v u / v x * v w) :
    KerQ (m - c) (remG v c A) ↔ KerQ (m - (c + 1)) (remG v (c + 1) A2) := by
  have hi := (List.getElem?_eq_some_iff.mp hp).1
  have hpl : p.length = m := hl p (List.mem_of_getElem? hp)
  have e1 : KerQ (m - c) (remG v c A) ↔ KerQ (m - c) ((v x :: (p.drop (c + 1)).map v) :: remG v c (A.eraseIdx i)) := by
    refine ker_mem fun r => ?_
    unfold remG
    rw [List.mem_map, List.mem_cons, List.mem_map]
    have perm : ∀ a : List α, a ∈ A ↔ a = p ∨ a ∈ A.eraseIdx i := fun a => by
      have e : A[i] = p := by
        rw [List.getElem?_eq_getElem hi] at hp
        exact Option.some.inj hp
      constructor
      · intro ha
        obtain ⟨j, hj⟩ := List.getElem?_of_mem ha
        by_cases c1 : j = i
        · subst c1
          rw [hp] at hj
          exact .inl (Option.some.inj hj).symm
        · refine .inr (List.mem_eraseIdx_iff_getElem?.mpr ⟨j, c1, hj⟩)
      · rintro (rfl | h)
        · exact List.mem_of_getElem? hp
        · exact List.mem_of_mem_eraseIdx h
    constructor
    · rintro ⟨a, ha, rfl⟩
      rcases (perm a).mp ha with rfl | ha
      · exact .inl (by rw [drop_atG hpx, List.map_cons])
      · exact .inr ⟨a, ha, rfl⟩
    · rintro (rfl | ⟨a, ha, rfl⟩)
      · exact ⟨p, List.mem_of_getElem? hp, by rw [drop_atG hpx, List.map_cons]⟩
      · exact ⟨a, (perm a).mpr (.inr ha), rfl⟩
  rw [e1, show m - c = (m - (c + 1)) + 1 by omega]
  have rel : ∀ (j : Nat) (a b : List α), (A.eraseIdx i)[j]? = some a → A2[j]? = some b → RelQ (m - (c + 1)) (v x) ((p.drop (c + 1)).map v) ((a.drop c).map v) ((b.drop (c + 1)).map v) := by
    intro j a b h3 h4
    obtain ⟨q1, q2⟩ := h2 j a b h3 h4
    have hal : a.length = m := hl a (List.mem_of_mem_eraseIdx (List.mem_of_getElem? h3))
    have hau : a[c]? = some a[c] := List.getElem?_eq_getElem (by omega)
    refine ⟨v a[c], (a.drop (c + 1)).map v, 1, by rw [drop_atG hau, List.map_cons], by decide, fun w hw => ?_⟩
    have e : (b.drop (c + 1)).map v = List.zipWith (fun s t => s * 1 - t * (v a[c] / v x)) ((a.drop (c + 1)).map v) ((p.drop (c + 1)).map v) := by
      refine List.ext_getElem (by simp; omega) fun k g1 g2 => ?_
      simp only [List.getElem_map, List.getElem_drop, List.getElem_zipWith]
      simp only [List.length_map, List.length_drop] at g1
      rw [q2 (c + 1 + k) a[c + 1 + k] b[c + 1 + k] p[c + 1 + k] a[c] (List.getElem?_eq_getElem (by omega)) (List.getElem?_eq_getElem (by omega)) (List.getElem?_eq_getElem (by omega)) hau]
      grind
    rw [e, dotQ_comb (n := m - (c + 1)) _ _ _ _ _ (by simp; omega) (by simp; omega) hw]
    grind
  refine ker_step hx (fun r hr => ?_) (fun r' hr' => ?_)
  · obtain ⟨a, ha, rfl⟩ := List.mem_map.mp hr
    obtain ⟨j, hj⟩ := List.getElem?_of_mem ha
    have hj2 := (List.getElem?_eq_some_iff.mp hj).1
    have hb : A2[j]? = some A2[j] := List.getElem?_eq_getElem (by omega)
    exact ⟨_, List.mem_map.mpr ⟨A2[j], List.getElem_mem _, rfl⟩, rel j a _ hj hb⟩
  · obtain ⟨b, hb, rfl⟩ := List.mem_map.mp hr'
    obtain ⟨j, hj⟩ := List.getElem?_of_mem hb
    have hj2 := (List.getElem?_eq_some_iff.mp hj).1
    have ha : (A.eraseIdx i)[j]? = some (A.eraseIdx i)[j] := List.getElem?_eq_getElem (by omega)
    exact ⟨_, List.mem_map.mpr ⟨_, List.getElem_mem _, rfl⟩, rel j _ b ha hj⟩
end Dl
end

section
set_option linter.all false
set_option maxRecDepth 100000
namespace K01
open PySem Dl
/-! the terms of the text's defs (printed by mkir.py) -/
abbrev f_has_rank : Nat := 0
abbrev f_first_weight : Nat := 1
abbrev f_are_weights : Nat := 2
abbrev f_are_indexes : Nat := 3
abbrev f_is_order : Nat := 4
abbrev f__law_draws : Nat := 5
abbrev f__law_take : Nat := 6
abbrev f__law_pick : Nat := 7
abbrev f__law_same : Nat := 8
abbrev f__law_shuffled : Nat := 9
abbrev f__law_is_int : Nat := 10
abbrev f__law_is_index : Nat := 11
abbrev f__law_gcd : Nat := 12
abbrev f__law_frac : Nat := 13
abbrev f__law_minus : Nat := 14
abbrev f__law_product : Nat := 15
abbrev f__law_quotient : Nat := 16
abbrev f__law_order : Nat := 17
abbrev f__law_spoilt : Nat := 18
abbrev f__law_are_free : Nat := 19
abbrev f__law_are_rows : Nat := 20
abbrev f__law_is_order : Nat := 21
abbrev f__law_drawn_rows : Nat := 22
abbrev f__law_has_none : Nat := 23
abbrev f_law : Nat := 24
def b_has_rank : ISs := (.cons (.asg (.nm 1) (.comp (.nm 7) [7] (.seq (.var 0)) .no (.bi .list (.cons (.var 7) .nil))))
  (.cons (.forr (.nm 2) (.rng1 (.bi .len (.cons (.var 1) .nil))) (.cons (.asg (.nm 3) .non)
  (.cons (.forr (.nm 4) (.rng2 (.var 2) (.bi .len (.cons (.var 1) .nil))) (.cons (.ite (.cmp .NotEq (.ix (.ix (.var 1) (.var 4)) (.var 2)) (.int 0)) (.cons (.asg (.nm 3) (.var 4))
  (.cons .brk
  .nil)) .nil)
  .nil))
  (.cons (.ite (.cmp .Is (.var 3) .non) (.cons (.ret (.bl false))
  .nil) .nil)
  (.cons (.asg (.tp (.cons (.ixs (.var 1) (.var 2)) (.cons (.ixs (.var 1) (.var 3)) .nil))) (.tup (.cons (.ix (.var 1) (.var 3)) (.cons (.ix (.var 1) (.var 2)) .nil))))
  (.cons (.forr (.nm 4) (.rng2 (.op .Add (.var 2) (.int 1)) (.bi .len (.cons (.var 1) .nil))) (.cons (.asg (.nm 5) (.ix (.ix (.var 1) (.var 4)) (.var 2)))
  (.cons (.asg (.nm 6) (.ix (.ix (.var 1) (.var 2)) (.var 2)))
  (.cons (.asg (.ixs (.var 1) (.var 4)) (.comp (.tp (.cons (.nm 8) (.cons (.nm 9) .nil))) [8, 9] (.zip (.ix (.var 1) (.var 4)) (.ix (.var 1) (.var 2))) .no (.op .Sub (.op .Mult (.var 8) (.var 6)) (.op .Mult (.var 9) (.var 5)))))
  .nil))))
  .nil))))))
  (.cons (.ret (.bl true))
  .nil)))
abbrev d_has_rank : Fd := ⟨1, 10, b_has_rank⟩
def b_first_weight : ISs := (.cons (.forr (.nm 2) (.seq (.var 0)) (.cons (.ite (.cmp .NotEq (.ix (.var 2) (.var 1)) (.int 0)) (.cons (.ret (.ix (.var 2) (.var 1)))
  .nil) .nil)
  .nil))
  (.cons (.ret (.int 0))
  .nil))
abbrev d_first_weight : Fd := ⟨2, 3, b_first_weight⟩
def b_are_weights : ISs := (.cons (.ite (.or (.not (.isi (.var 0) .tuple)) (.cmp .NotEq (.bi .len (.cons (.var 0) .nil)) (.var 1))) (.cons (.ret (.bl false))
  .nil) .nil)
  (.cons (.forr (.nm 2) (.seq (.var 0)) (.cons (.ite (.or (.not (.isi (.var 2) .tuple)) (.or (.cmp .NotEq (.bi .len (.cons (.var 2) .nil)) (.var 1)) (.not (.bi .all (.cons (.comp (.nm 3) [3] (.seq (.var 2)) .no (.isi (.var 3) .int)) .nil))))) (.cons (.ret (.bl false))
  .nil) .nil)
  .nil))
  (.cons (.ret (.and (.bi .all (.cons (.comp (.nm 4) [4] (.rng1 (.var 1)) .no (.cmp .Gt (.call f_first_weight (.cons (.var 0) (.cons (.var 4) .nil))) (.int 0))) .nil)) (.call f_has_rank (.cons (.var 0) .nil))))
  .nil)))
abbrev d_are_weights : Fd := ⟨2, 5, b_are_weights⟩
def b_are_indexes : ISs := (.cons (.ite (.or (.not (.isi (.var 0) .tuple)) (.not (.bi .all (.cons (.comp (.nm 2) [2] (.seq (.var 0)) .no (.and (.isi (.var 2) .int) (.chain .LtE .Lt (.int 0) (.var 2) (.var 1)))) .nil)))) (.cons (.ret (.bl false))
  .nil) .nil)
  (.cons (.ret (.bi .all (.cons (.comp (.nm 3) [3] (.rng2 (.int 1) (.bi .len (.cons (.var 0) .nil))) .no (.cmp .Lt (.ix (.var 0) (.op .Sub (.var 3) (.int 1))) (.ix (.var 0) (.var 3)))) .nil)))
  .nil))
abbrev d_are_indexes : Fd := ⟨2, 4, b_are_indexes⟩
def b_is_order : ISs := (.cons (.ite (.isi (.var 1) .str) (.cons (.ret (.cmp .In (.var 1) (.glo 0)))
  .nil) .nil)
  (.cons (.ite (.or (.not (.isi (.var 1) .tuple)) (.cmp .NotEq (.bi .len (.cons (.var 1) .nil)) (.int 2))) (.cons (.ret (.bl false))
  .nil) .nil)
  (.cons (.ite (.cmp .Eq (.ix (.var 1) (.int 0)) (.str "blocks")) (.cons (.ret (.call f_are_indexes (.cons (.ix (.var 1) (.int 1)) (.cons (.var 0) .nil))))
  .nil) .nil)
  (.cons (.ret (.and (.cmp .Eq (.ix (.var 1) (.int 0)) (.str "weights")) (.call f_are_weights (.cons (.ix (.var 1) (.int 1)) (.cons (.var 0) .nil)))))
  .nil))))
abbrev d_is_order : Fd := ⟨2, 2, b_is_order⟩
def b__law_draws : ISs := (.cons (.asg (.nm 2) (.comp (.nm 8) [8] (.seq (.sl (.var 0) .no (.so (.int 63)))) .no (.op .Mod (.bi .int (.cons (.var 8) .nil)) (.op .LShift (.int 1) (.int 7200)))))
  (.cons (.ite (.cmp .Eq (.bi .len (.cons (.var 2) .nil)) (.int 0)) (.cons (.expr (.me .append (.var 2) (.cons (.int 0) .nil)))
  .nil) .nil)
  (.cons (.asg (.nm 3) (.bi .list (.cons (.var 2) .nil)))
  (.cons (.asg (.nm 4) (.lst .nil))
  (.cons (.forr (.nm 5) (.rng1 (.var 1)) (.cons (.asg (.nm 6) (.op .Mod (.bi .int (.cons (.var 5) .nil)) (.bi .len (.cons (.var 2) .nil))))
  (.cons (.ite (.and (.cmp .GtE (.ix (.var 2) (.var 6)) (.op .Pow (.int 10) (.int 18))) (.cmp .Gt (.ix (.var 3) (.var 6)) (.int 0))) (.cons (.expr (.me .append (.var 4) (.cons (.op .Mod (.bi .int (.cons (.ix (.var 3) (.var 6)) .nil)) (.int 1000)) .nil)))
  (.cons (.asg (.ixs (.var 3) (.var 6)) (.op .FloorDiv (.ix (.var 3) (.var 6)) (.int 1000)))
  .nil)) (.cons (.asg (.nm 7) (.op .Mod (.bi .int (.cons (.op .Add (.op .Add (.op .Mult (.ix (.var 2) (.var 6)) (.int 48271)) (.op .Mult (.var 5) (.int 69621))) (.int 11)) .nil)) (.int 2147483647)))
  (.cons (.expr (.me .append (.var 4) (.cons (.op .Mod (.bi .int (.cons (.op .Add (.op .Add (.op .Mult (.var 7) (.var 7)) (.op .Mult (.int 3) (.var 7))) (.var 5)) .nil)) (.int 1000003)) .nil)))
  .nil)))
  .nil)))
  (.cons (.expr (.me .reverse (.var 4) .nil))
  (.cons (.ret (.var 4))
  .nil)))))))
abbrev d__law_draws : Fd := ⟨2, 9, b__law_draws⟩
def b__law_take : ISs := (.cons (.ite (.cmp .Eq (.bi .len (.cons (.var 0) .nil)) (.int 0)) (.cons (.ret (.int 0))
  .nil) .nil)
  (.cons (.ret (.op .Mod (.bi .int (.cons (.me .pop (.var 0) .nil) .nil)) (.var 1)))
  .nil))
abbrev d__law_take : Fd := ⟨2, 2, b__law_take⟩
def b__law_pick : ISs := (.cons (.ret (.ix (.var 1) (.call f__law_take (.cons (.var 0) (.cons (.bi .len (.cons (.var 1) .nil)) .nil)))))
  .nil)
abbrev d__law_pick : Fd := ⟨2, 2, b__law_pick⟩
def b__law_same : ISs := (.cons (.ite (.isis (.var 1) [.tuple, .list]) (.cons (.ite (.or (.cmp .NotEq (.isi (.var 0) .tuple) (.isi (.var 1) .tuple)) (.cmp .NotEq (.isi (.var 0) .list) (.isi (.var 1) .list))) (.cons (.ret (.bl false))
  .nil) .nil)
  (.cons (.ite (.cmp .NotEq (.bi .len (.cons (.var 0) .nil)) (.bi .len (.cons (.var 1) .nil))) (.cons (.ret (.bl false))
  .nil) .nil)
  (.cons (.ret (.cmp .NotIn (.bl false) (.comp (.nm 2) [2] (.rng1 (.bi .len (.cons (.var 1) .nil))) .no (.call f__law_same (.cons (.ix (.var 0) (.var 2)) (.cons (.ix (.var 1) (.var 2)) .nil))))))
  .nil))) .nil)
  (.cons (.ite (.or (.cmp .NotEq (.isi (.var 0) .bool) (.isi (.var 1) .bool)) (.cmp .NotEq (.isi (.var 0) .int) (.isi (.var 1) .int))) (.cons (.ret (.bl false))
  .nil) .nil)
  (.cons (.ite (.or (.cmp .NotEq (.isi (.var 0) .str) (.isi (.var 1) .str)) (.cmp .NotEq (.cmp .Is (.var 0) .non) (.cmp .Is (.var 1) .non))) (.cons (.ret (.bl false))
  .nil) .nil)
  (.cons (.ret (.cmp .Eq (.var 0) (.var 1)))
  .nil))))
abbrev d__law_same : Fd := ⟨2, 3, b__law_same⟩
def b__law_shuffled : ISs := (.cons (.asg (.nm 2) (.bi .list (.cons (.var 1) .nil)))
  (.cons (.asg (.nm 3) (.lst .nil))
  (.cons (.forr (.nm 4) (.rng1 (.bi .len (.cons (.var 2) .nil))) (.cons (.expr (.me .append (.var 3) (.cons (.me .popAt (.var 2) (.cons (.call f__law_take (.cons (.var 0) (.cons (.bi .len (.cons (.var 2) .nil)) .nil))) .nil)) .nil)))
  .nil))
  (.cons (.ret (.var 3))
  .nil))))
abbrev d__law_shuffled : Fd := ⟨2, 5, b__law_shuffled⟩
def b__law_is_int : ISs := (.cons (.ret (.and (.isi (.var 0) .int) (.not (.isi (.var 0) .bool))))
  .nil)
abbrev d__law_is_int : Fd := ⟨1, 1, b__law_is_int⟩
def b__law_is_index : ISs := (.cons (.ret (.and (.call f__law_is_int (.cons (.var 0) .nil)) (.and (.cmp .LtE (.int 0) (.var 0)) (.cmp .Lt (.var 0) (.var 1)))))
  .nil)
abbrev d__law_is_index : Fd := ⟨2, 2, b__law_is_index⟩
def b__law_gcd : ISs := (.cons (.asg (.nm 2) (.bi .abs (.cons (.var 0) .nil)))
  (.cons (.asg (.nm 3) (.bi .abs (.cons (.var 1) .nil)))
  (.cons (.forr (.nm 4) (.rng1 (.int 20000)) (.cons (.ite (.cmp .Eq (.var 3) (.int 0)) (.cons .brk
  .nil) .nil)
  (.cons (.asg (.nm 5) (.op .Mod (.bi .int (.cons (.var 2) .nil)) (.var 3)))
  (.cons (.asg (.nm 2) (.var 3))
  (.cons (.asg (.nm 3) (.var 5))
  .nil)))))
  (.cons (.ret (.var 2))
  .nil))))
abbrev d__law_gcd : Fd := ⟨2, 6, b__law_gcd⟩
def b__law_frac : ISs := (.cons (.asg (.nm 2) (.bi .max (.cons (.int 1) (.cons (.call f__law_gcd (.cons (.var 0) (.cons (.var 1) .nil))) .nil))))
  (.cons (.ite (.cmp .Lt (.var 1) (.int 0)) (.cons (.asg (.nm 2) (.op .Sub (.int 0) (.var 2)))
  .nil) .nil)
  (.cons (.ret (.tup (.cons (.op .FloorDiv (.var 0) (.var 2)) (.cons (.op .FloorDiv (.var 1) (.var 2)) .nil))))
  .nil)))
abbrev d__law_frac : Fd := ⟨2, 3, b__law_frac⟩
def b__law_minus : ISs := (.cons (.ret (.call f__law_frac (.cons (.op .Sub (.op .Mult (.ix (.var 0) (.int 0)) (.ix (.var 1) (.int 1))) (.op .Mult (.ix (.var 1) (.int 0)) (.ix (.var 0) (.int 1)))) (.cons (.op .Mult (.ix (.var 0) (.int 1)) (.ix (.var 1) (.int 1))) .nil))))
  .nil)
abbrev d__law_minus : Fd := ⟨2, 2, b__law_minus⟩
def b__law_product : ISs := (.cons (.ret (.call f__law_frac (.cons (.op .Mult (.ix (.var 0) (.int 0)) (.ix (.var 1) (.int 0))) (.cons (.op .Mult (.ix (.var 0) (.int 1)) (.ix (.var 1) (.int 1))) .nil))))
  .nil)
abbrev d__law_product : Fd := ⟨2, 2, b__law_product⟩
def b__law_quotient : ISs := (.cons (.ret (.call f__law_frac (.cons (.op .Mult (.ix (.var 0) (.int 0)) (.ix (.var 1) (.int 1))) (.cons (.op .Mult (.ix (.var 0) (.int 1)) (.ix (.var 1) (.int 0))) .nil))))
  .nil)
abbrev d__law_quotient : Fd := ⟨2, 2, b__law_quotient⟩
def b__law_order : ISs := (.cons (.asg (.nm 2) (.call f__law_pick (.cons (.var 0) (.cons (.lst (.cons (.str "lex") (.cons (.str "degree") (.cons (.str "back") (.cons (.str "blocks") (.cons (.str "weights") (.cons (.str "lex") (.cons (.str "back") .nil)))))))) .nil))))
  (.cons (.ite (.cmp .Eq (.var 2) (.str "blocks")) (.cons (.ret (.tup (.cons (.str "blocks") (.cons (.bi .tuple (.cons (.comp (.nm 6) [6] (.rng1 (.var 1)) (.so (.cmp .Eq (.call f__law_take (.cons (.var 0) (.cons (.int 2) .nil))) (.int 0))) (.var 6)) .nil)) .nil))))
  .nil) .nil)
  (.cons (.ite (.cmp .NotEq (.var 2) (.str "weights")) (.cons (.ret (.var 2))
  .nil) .nil)
  (.cons (.asg (.nm 3) (.comp (.nm 6) [6] (.rng1 (.var 1)) .no (.call f__law_pick (.cons (.var 0) (.cons (.lst (.cons (.int 0) (.cons (.int 1) (.cons (.int 2) (.cons (.int 3) (.cons (.int 1) (.cons (.int 99) .nil))))))) .nil)))))
  (.cons (.asg (.nm 4) (.call f__law_take (.cons (.var 0) (.cons (.var 1) .nil))))
  (.cons (.asg (.ixs (.var 3) (.var 4)) (.op .Add (.int 1) (.call f__law_take (.cons (.var 0) (.cons (.int 5) .nil)))))
  (.cons (.asg (.nm 5) (.lst .nil))
  (.cons (.forr (.nm 6) (.rng1 (.var 1)) (.cons (.ite (.cmp .NotEq (.var 6) (.var 4)) (.cons (.asg (.nm 7) (.ix (.lst (.cons (.op .Sub (.int 1) (.op .Mult (.int 2) (.call f__law_take (.cons (.var 0) (.cons (.int 2) .nil))))) (.cons (.int 1) .nil))) (.bi .int (.cons (.cmp .Eq (.ix (.var 3) (.var 6)) (.int 0)) .nil))))
  (.cons (.expr (.me .append (.var 5) (.cons (.bi .tuple (.cons (.comp (.nm 8) [8] (.rng1 (.var 1)) .no (.op .Mult (.op .Mult (.var 7) (.op .Add (.int 1) (.call f__law_take (.cons (.var 0) (.cons (.int 3) .nil))))) (.bi .int (.cons (.cmp .Eq (.var 8) (.var 6)) .nil)))) .nil)) .nil)))
  .nil)) .nil)
  .nil))
  (.cons (.ret (.tup (.cons (.str "weights") (.cons (.op .Add (.tup (.cons (.bi .tuple (.cons (.var 3) .nil)) .nil)) (.bi .tuple (.cons (.call f__law_shuffled (.cons (.var 0) (.cons (.var 5) .nil))) .nil))) .nil))))
  .nil)))))))))
abbrev d__law_order : Fd := ⟨2, 9, b__law_order⟩
def b__law_spoilt : ISs := (.cons (.asg (.nm 2) (.lst .nil))
  (.cons (.asg (.nm 3) (.var 1))
  (.cons (.forr (.nm 4) (.rng1 (.int 12)) (.cons (.ite (.or (.not (.isi (.var 3) .tuple)) (.or (.cmp .Eq (.bi .len (.cons (.var 3) .nil)) (.int 0)) (.and (.cmp .Gt (.var 4) (.int 0)) (.cmp .Eq (.call f__law_take (.cons (.var 0) (.cons (.int 7) .nil))) (.int 0))))) (.cons .brk
  .nil) .nil)
  (.cons (.asg (.nm 5) (.call f__law_take (.cons (.var 0) (.cons (.bi .len (.cons (.var 3) .nil)) .nil))))
  (.cons (.expr (.me .append (.var 2) (.cons (.lst (.cons (.var 3) (.cons (.var 5) .nil))) .nil)))
  (.cons (.asg (.nm 3) (.ix (.var 3) (.var 5)))
  .nil)))))
  (.cons (.ite (.isi (.var 3) .tuple) (.cons (.asg (.nm 5) (.call f__law_take (.cons (.var 0) (.cons (.op .Add (.bi .len (.cons (.var 3) .nil)) (.int 1)) .nil))))
  (.cons (.asg (.nm 6) (.call f__law_pick (.cons (.var 0) (.cons (.lst (.cons (.op .Add (.sl (.var 3) .no (.so (.var 5))) (.sl (.var 3) (.so (.op .Add (.var 5) (.int 1))) .no)) (.cons (.op .Add (.op .Add (.sl (.var 3) .no (.so (.var 5))) (.sl (.sl (.var 3) (.so (.var 5)) .no) .no (.so (.int 1)))) (.sl (.var 3) (.so (.var 5)) .no)) (.cons (.op .Add (.sl (.var 3) (.so (.var 5)) .no) (.sl (.var 3) .no (.so (.var 5)))) (.cons (.op .Add (.var 3) (.tup (.cons (.tup .nil) .nil))) (.cons (.tup .nil) (.cons (.op .Add (.op .Add (.sl (.var 3) .no (.so (.var 5))) (.tup (.cons (.int 0) .nil))) (.sl (.var 3) (.so (.op .Add (.var 5) (.int 1))) .no)) (.cons (.op .Add (.op .Add (.sl (.var 3) .no (.so (.var 5))) (.tup (.cons .non .nil))) (.sl (.var 3) (.so (.op .Add (.var 5) (.int 1))) .no)) .nil)))))))) .nil))))
  .nil)) (.cons (.ite (.isi (.var 3) .str) (.cons (.asg (.nm 6) (.call f__law_pick (.cons (.var 0) (.cons (.lst (.cons (.op .Add (.var 3) (.str "a")) (.cons (.sl (.var 3) (.so (.int 1)) .no) (.cons (.int 0) (.cons (.str "in") (.cons (.str "out") (.cons (.str "within") (.cons (.str "first") .nil)))))))) .nil))))
  .nil) (.cons (.asg (.nm 6) (.call f__law_pick (.cons (.var 0) (.cons (.lst (.cons (.op .Add (.var 3) (.int 1)) (.cons (.op .Sub (.var 3) (.int 1)) (.cons (.op .Add (.var 3) (.int 1)) (.cons (.op .Mult (.int 2) (.var 3)) (.cons (.op .Sub (.int 0) (.var 3)) (.cons (.int 0) (.cons (.str "a") (.cons (.tup (.cons (.var 3) .nil)) .nil))))))))) .nil))))
  .nil))
  .nil))
  (.cons (.forr (.tp (.cons (.nm 7) (.cons (.nm 5) .nil))) (.seq (.rev (.var 2))) (.cons (.asg (.nm 6) (.op .Add (.op .Add (.sl (.var 7) .no (.so (.var 5))) (.tup (.cons (.var 6) .nil))) (.sl (.var 7) (.so (.op .Add (.var 5) (.int 1))) .no)))
  .nil))
  (.cons (.ret (.var 6))
  .nil))))))
abbrev d__law_spoilt : Fd := ⟨2, 8, b__law_spoilt⟩
def b__law_are_free : ISs := (.cons (.asg (.nm 1) (.comp (.nm 5) [5] (.seq (.var 0)) .no (.comp (.nm 7) [7] (.seq (.var 5)) .no (.tup (.cons (.var 7) (.cons (.int 1) .nil))))))
  (.cons (.forr (.nm 2) (.rng1 (.bi .len (.cons (.var 0) .nil))) (.cons (.asg (.nm 3) (.sl (.comp (.nm 5) [5] (.seq (.var 1)) (.so (.cmp .NotEq (.ix (.ix (.var 5) (.var 2)) (.int 0)) (.int 0))) (.var 5)) .no (.so (.int 1))))
  (.cons (.ite (.cmp .Eq (.bi .len (.cons (.var 3) .nil)) (.int 0)) (.cons (.ret (.bl false))
  .nil) .nil)
  (.cons (.expr (.me .remove (.var 1) (.cons (.ix (.var 3) (.int 0)) .nil)))
  (.cons (.asg (.nm 4) (.lst .nil))
  (.cons (.forr (.nm 5) (.seq (.var 1)) (.cons (.asg (.nm 6) (.call f__law_quotient (.cons (.ix (.var 5) (.var 2)) (.cons (.ix (.ix (.var 3) (.int 0)) (.var 2)) .nil))))
  (.cons (.expr (.me .append (.var 4) (.cons (.comp (.nm 8) [8] (.rng1 (.bi .len (.cons (.var 5) .nil))) .no (.call f__law_minus (.cons (.ix (.var 5) (.var 8)) (.cons (.call f__law_product (.cons (.var 6) (.cons (.ix (.ix (.var 3) (.int 0)) (.var 8)) .nil))) .nil)))) .nil)))
  .nil)))
  (.cons (.asg (.nm 1) (.var 4))
  .nil)))))))
  (.cons (.ret (.bl true))
  .nil)))
abbrev d__law_are_free : Fd := ⟨1, 9, b__law_are_free⟩
def b__law_are_rows : ISs := (.cons (.ite (.or (.not (.isi (.var 1) .tuple)) (.cmp .NotEq (.bi .len (.cons (.var 1) .nil)) (.var 0))) (.cons (.ret (.bl false))
  .nil) .nil)
  (.cons (.forr (.nm 2) (.seq (.var 1)) (.cons (.ite (.or (.not (.isi (.var 2) .tuple)) (.or (.cmp .NotEq (.bi .len (.cons (.var 2) .nil)) (.var 0)) (.cmp .In (.bl false) (.comp (.nm 4) [4] (.seq (.var 2)) .no (.call f__law_is_int (.cons (.var 4) .nil)))))) (.cons (.ret (.bl false))
  .nil) .nil)
  .nil))
  (.cons (.forr (.nm 3) (.rng1 (.var 0)) (.cons (.ite (.cmp .Lt (.sl (.comp (.nm 2) [2] (.seq (.var 1)) (.so (.cmp .NotEq (.ix (.var 2) (.var 3)) (.int 0))) (.ix (.var 2) (.var 3))) .no (.so (.int 1))) (.lst (.cons (.int 1) .nil))) (.cons (.ret (.bl false))
  .nil) .nil)
  .nil))
  (.cons (.ret (.call f__law_are_free (.cons (.var 1) .nil)))
  .nil))))
abbrev d__law_are_rows : Fd := ⟨2, 5, b__law_are_rows⟩
def b__law_is_order : ISs := (.cons (.ite (.isi (.var 1) .str) (.cons (.ret (.cmp .In (.var 1) (.tup (.cons (.str "lex") (.cons (.str "degree") (.cons (.str "back") .nil))))))
  .nil) .nil)
  (.cons (.ite (.or (.not (.isi (.var 1) .tuple)) (.or (.cmp .NotEq (.bi .len (.cons (.var 1) .nil)) (.int 2)) (.not (.isi (.ix (.var 1) (.int 0)) .str)))) (.cons (.ret (.bl false))
  .nil) .nil)
  (.cons (.ite (.cmp .Eq (.ix (.var 1) (.int 0)) (.str "weights")) (.cons (.ret (.call f__law_are_rows (.cons (.var 0) (.cons (.ix (.var 1) (.int 1)) .nil))))
  .nil) .nil)
  (.cons (.ite (.or (.cmp .NotEq (.ix (.var 1) (.int 0)) (.str "blocks")) (.not (.isi (.ix (.var 1) (.int 1)) .tuple))) (.cons (.ret (.bl false))
  .nil) .nil)
  (.cons (.ite (.cmp .In (.bl false) (.comp (.nm 2) [2] (.seq (.ix (.var 1) (.int 1))) .no (.call f__law_is_index (.cons (.var 2) (.cons (.var 0) .nil))))) (.cons (.ret (.bl false))
  .nil) .nil)
  (.cons (.ret (.cmp .NotIn (.bl false) (.comp (.nm 3) [3] (.rng2 (.int 1) (.bi .len (.cons (.ix (.var 1) (.int 1)) .nil))) .no (.cmp .Lt (.ix (.ix (.var 1) (.int 1)) (.op .Sub (.var 3) (.int 1))) (.ix (.ix (.var 1) (.int 1)) (.var 3))))))
  .nil))))))
abbrev d__law_is_order : Fd := ⟨2, 4, b__law_is_order⟩
def b__law_drawn_rows : ISs := (.cons (.ret (.bi .tuple (.cons (.comp (.nm 2) [2] (.rng1 (.var 1)) .no (.bi .tuple (.cons (.comp (.nm 3) [3] (.rng1 (.var 1)) .no (.call f__law_pick (.cons (.var 0) (.cons (.lst (.cons (.int 0) (.cons (.int 1) (.cons (.int 2) (.cons (.neg (.int 1)) (.cons (.int 1) .nil)))))) .nil)))) .nil))) .nil)))
  .nil)
abbrev d__law_drawn_rows : Fd := ⟨2, 4, b__law_drawn_rows⟩
def b__law_has_none : ISs := (.cons (.asg (.nm 1) (.lst (.cons (.var 0) .nil)))
  (.cons (.forr (.nm 2) (.rng1 (.int 2000)) (.cons (.ite (.cmp .Eq (.bi .len (.cons (.var 1) .nil)) (.int 0)) (.cons .brk
  .nil) .nil)
  (.cons (.asg (.nm 3) (.me .pop (.var 1) .nil))
  (.cons (.ite (.cmp .Is (.var 3) .non) (.cons (.ret (.bl true))
  .nil) .nil)
  (.cons (.ite (.isi (.var 3) .tuple) (.cons (.asg (.nm 1) (.op .Add (.var 1) (.bi .list (.cons (.var 3) .nil))))
  .nil) .nil)
  .nil)))))
  (.cons (.ret (.bl false))
  .nil)))
abbrev d__law_has_none : Fd := ⟨1, 4, b__law_has_none⟩
def b_law : ISs := (.cons (.asg (.nm 1) (.call f__law_draws (.cons (.var 0) (.cons (.int 600) .nil))))
  (.cons (.forr (.nm 2) (.rng1 (.int 3)) (.cons (.asg (.nm 3) (.op .Add (.int 1) (.call f__law_take (.cons (.var 1) (.cons (.int 4) .nil)))))
  (.cons (.asg (.nm 4) (.call f__law_order (.cons (.var 1) (.cons (.var 3) .nil))))
  (.cons (.asg (.nm 5) (.lst (.cons (.str "lex") (.cons (.str "degree") (.cons (.str "back") (.cons (.str "") (.cons (.str "Lex") (.cons (.str "lexx") (.cons (.str "blocks") (.cons (.str "weights") (.cons (.tup (.cons (.str "lex") .nil)) (.cons (.tup (.cons (.str "back") (.cons (.tup .nil) .nil))) (.cons (.tup .nil) .nil)))))))))))))
  (.cons (.asg (.nm 6) (.lst (.cons (.var 4) (.cons (.tup (.cons (.str "weights") (.cons (.call f__law_drawn_rows (.cons (.var 1) (.cons (.var 3) .nil))) .nil))) (.cons (.tup (.cons (.str "weights") (.cons (.call f__law_drawn_rows (.cons (.var 1) (.cons (.var 3) .nil))) .nil))) .nil)))))
  (.cons (.forr (.nm 7) (.seq (.lst (.cons (.tup .nil) (.cons (.tup (.cons (.int 0) .nil)) (.cons (.tup (.cons (.var 3) .nil)) (.cons (.tup (.cons (.neg (.int 1)) .nil)) (.cons (.tup (.cons (.int 0) (.cons (.int 0) .nil))) (.cons (.tup (.cons (.int 1) (.cons (.int 0) .nil))) (.cons (.tup (.cons (.int 0) (.cons (.int 1) .nil))) (.cons (.tup (.cons (.str "a") .nil)) (.cons (.tup (.cons (.tup (.cons (.int 0) .nil)) .nil)) (.cons (.int 0) (.cons (.str "") (.cons (.tup (.cons (.int 0) (.cons (.op .Sub (.var 3) (.int 1)) .nil))) .nil)))))))))))))) (.cons (.expr (.me .append (.var 6) (.cons (.tup (.cons (.str "blocks") (.cons (.var 7) .nil))) .nil)))
  .nil))
  (.cons (.asg (.nm 8) (.bi .tuple (.cons (.comp (.nm 10) [10] (.rng1 (.var 3)) .no (.bi .tuple (.cons (.comp (.nm 11) [11] (.rng1 (.var 3)) .no (.bi .int (.cons (.cmp .Eq (.var 11) (.var 10)) .nil))) .nil))) .nil)))
  (.cons (.forr (.nm 9) (.seq (.lst (.cons (.var 8) (.cons (.rev (.var 8)) (.cons (.sl (.var 8) (.so (.int 1)) .no) (.cons (.op .Add (.var 8) (.sl (.var 8) .no (.so (.int 1)))) (.cons (.op .Mult (.sl (.var 8) .no (.so (.int 1))) (.var 3)) (.cons (.tup .nil) (.cons (.int 1) (.cons (.op .Mult (.tup (.cons (.tup .nil) .nil)) (.var 3)) .nil)))))))))) (.cons (.expr (.me .append (.var 6) (.cons (.tup (.cons (.str "weights") (.cons (.var 9) .nil))) .nil)))
  .nil))
  (.cons (.expr (.me .append (.var 6) (.cons (.tup (.cons (.str "weights") (.cons (.op .Add (.tup (.cons (.bi .tuple (.cons (.op .Mult (.lst (.cons (.int 1) .nil)) (.var 3)) .nil)) .nil)) (.bi .tuple (.cons (.comp (.nm 12) [12] (.seq (.sl (.var 8) (.so (.int 1)) .no)) .no (.bi .tuple (.cons (.comp (.nm 13) [13] (.seq (.var 12)) .no (.op .Sub (.int 0) (.var 13))) .nil))) .nil))) .nil))) .nil)))
  (.cons (.forr (.nm 7) (.seq (.op .Add (.op .Add (.var 5) (.var 6)) (.lst (.cons (.call f__law_spoilt (.cons (.var 1) (.cons (.tup (.cons (.str "weights") (.cons (.var 8) .nil))) .nil))) (.cons (.call f__law_spoilt (.cons (.var 1) (.cons (.ix (.var 6) (.int 1)) .nil))) .nil))))) (.cons (.ite (.and (.not (.call f__law_has_none (.cons (.var 7) .nil))) (.not (.call f__law_same (.cons (.call f_is_order (.cons (.var 3) (.cons (.var 7) .nil))) (.cons (.call f__law_is_order (.cons (.var 3) (.cons (.var 7) .nil))) .nil))))) (.cons (.ret (.bl false))
  .nil) .nil)
  .nil))
  .nil))))))))))
  (.cons (.ret (.and (.cmp .Is (.call f_is_order (.cons (.int 2) (.cons (.tup (.cons (.str "weights") (.cons (.tup (.cons (.tup (.cons (.int 1) (.cons (.int 1) .nil))) (.cons (.tup (.cons (.int 0) (.cons (.neg (.int 1)) .nil))) .nil))) .nil))) .nil))) (.bl true)) (.cmp .Is (.call f_is_order (.cons (.int 2) (.cons (.tup (.cons (.str "weights") (.cons (.tup (.cons (.tup (.cons (.int 1) (.cons (.neg (.int 1)) .nil))) (.cons (.tup (.cons (.int 0) (.cons (.int 1) .nil))) .nil))) .nil))) .nil))) (.bl false))))
  .nil)))
abbrev d_law : Fd := ⟨1, 14, b_law⟩
abbrev fds : List Fd := [d_has_rank, d_first_weight, d_are_weights, d_are_indexes, d_is_order, d__law_draws, d__law_take, d__law_pick, d__law_same, d__law_shuffled, d__law_is_int, d__law_is_index, d__law_gcd, d__law_frac, d__law_minus, d__law_product, d__law_quotient, d__law_order, d__law_spoilt, d__law_are_free, d__law_are_rows, d__law_is_order, d__law_drawn_rows, d__law_has_none, d_law]
def gl : Nat → D := fun g => match g with
  | 0 => (.tup [(.str "lex"), (.str "degree"), (.str "back")])
  | _ => .non
end K01
end

section
set_option Elab.async false
set_option linter.all false
set_option maxRecDepth 100000
set_option maxHeartbeats 1000000
set_option exponentiation.threshold 20000
namespace K01
open PySem PySem.Spec L2 Dl
theorem atI_0 {α : Type} {a : α} {l : List α} : atI (a :: l) 0 = some a := atI_of (by omega) rfl
theorem atI_1 {α : Type} {a b : α} {l : List α} : atI (a :: b :: l) 1 = some b := atI_of (by omega) rfl
theorem atI_2 {α : Type} {a b c : α} {l : List α} : atI (a :: b :: c :: l) 2 = some c := atI_of (by omega) rfl
theorem w_eqS {x y : Str} {QB : Bool → Store → Prop} {S : Store} (hx : PyData.canLay0 (.str x) = true) (hy : PyData.canLay0 (.str y) = true) : wq (eqD (.str x) (.str y)) QB S = QB (decide (x = y)) S := by
  rw [w_eqD (by unfold D.bf; exact hx) (by unfold D.bf; exact hy) (Nat.zero_le _) (Nat.zero_le _)]
  congr 1
  simp only [D.str.injEq]
theorem w_eqTS {ds : List D} {y : Str} {QB : Bool → Store → Prop} {S : Store} (hx : D.bfs ds = true ∧ D.dps ds ≤ 60) (hy : PyData.canLay0 (.str y) = true) : wq (eqD (.tup ds) (.str y)) QB S = QB false S := by
  rw [w_eqD (by unfold D.bf; exact hx.1) (by unfold D.bf; exact hy) (by unfold D.dp; omega) (Nat.zero_le _)]
  congr 1
theorem ok_lex : PyData.canLay0 (.str "lex") = true := by decide +kernel
theorem wd_lex_lex : decide (("lex" : Str) = "lex") = true := by decide +kernel
theorem wd_lex_degree : decide (("lex" : Str) = "degree") = false := by decide +kernel
theorem wd_lex_back : decide (("lex" : Str) = "back") = false := by decide +kernel
theorem wd_lex_blocks : decide (("lex" : Str) = "blocks") = false := by decide +kernel
theorem wd_lex_weights : decide (("lex" : Str) = "weights") = false := by decide +kernel
theorem ok_degree : PyData.canLay0 (.str "degree") = true := by decide +kernel
theorem wd_degree_lex : decide (("degree" : Str) = "lex") = false := by decide +kernel
theorem wd_degree_degree : decide (("degree" : Str) = "degree") = true := by decide +kernel
theorem wd_degree_back : decide (("degree" : Str) = "back") = false := by decide +kernel
theorem wd_degree_blocks : decide (("degree" : Str) = "blocks") = false := by decide +kernel
theorem wd_degree_weights : decide (("degree" : Str) = "weights") = false := by decide +kernel
theorem ok_back : PyData.canLay0 (.str "back") = true := by decide +kernel
theorem wd_back_lex : decide (("back" : Str) = "lex") = false := by decide +kernel
theorem wd_back_degree : decide (("back" : Str) = "degree") = false := by decide +kernel
theorem wd_back_back : decide (("back" : Str) = "back") = true := by decide +kernel
theorem wd_back_blocks : decide (("back" : Str) = "blocks") = false := by decide +kernel
theorem wd_back_weights : decide (("back" : Str) = "weights") = false := by decide +kernel
theorem ok_blocks : PyData.canLay0 (.str "blocks") = true := by decide +kernel
theorem wd_blocks_lex : decide (("blocks" : Str) = "lex") = false := by decide +kernel
theorem wd_blocks_degree : decide (("blocks" : Str) = "degree") = false := by decide +kernel
theorem wd_blocks_back : decide (("blocks" : Str) = "back") = false := by decide +kernel
theorem wd_blocks_blocks : decide (("blocks" : Str) = "blocks") = true := by decide +kernel
theorem wd_blocks_weights : decide (("blocks" : Str) = "weights") = false := by decide +kernel
theorem ok_weights : PyData.canLay0 (.str "weights") = true := by decide +kernel
theorem wd_weights_lex : decide (("weights" : Str) = "lex") = false := by decide +kernel
theorem wd_weights_degree : decide (("weights" : Str) = "degree") = false := by decide +kernel
theorem wd_weights_back : decide (("weights" : Str) = "back") = false := by decide +kernel
theorem wd_weights_blocks : decide (("weights" : Str) = "blocks") = false := by decide +kernel
theorem wd_weights_weights : decide (("weights" : Str) = "weights") = true := by decide +kernel
local macro_rules | `(tactic| walk_at "dl") => `(tactic| simp (disch := first | assumption | exact get_new | (refine get_app ?_; first | assumption | exact get_new | (refine get_app ?_; first | assumption | exact get_new)) | (refine get_set ?_; assumption) | exact atI_0 | exact atI_1 | exact atI_2 | exact ok_lex | exact ok_degree | exact ok_back | exact ok_blocks | exact ok_weights) only [
  e_cB, e_fB, e_var, e_int, e_bl, e_non, e_str, e_glo, e_tup, e_lst, e_op, e_neg, e_not, e_and, e_or, e_cmp, e_chain, e_ite, e_ix, e_sl, e_rev, e_call, e_bi, e_me, e_isi, e_isis, e_comp, e_tupr, e_lstr, e_nil, e_cons, e_ono, e_oso, e_cno, e_cso, vt_and, vt_or, vt_not, vt_cmp, vt_chain, vt_var, vt_bl, vt_call, vt_bi, vt_isi, vt_isis, vi_seq, vi_rng1, vi_rng2, vi_zip, vg_nm, vg_tp, vg_ixs, gs_nil, gs_cons, x_asg, x_par, x_aug, x_expr, x_ret, x_retN, x_ite, x_for, x_whl, x_pass, x_brk, x_cnt, xs_nil, xs_cons, r_nx, r_rt, w_neg, w_tupr, w_lstr,
  TGs.len, wq_pure, List.getElem?_cons_zero, List.getElem?_cons_succ, List.set_cons_zero, List.set_cons_succ, List.length_cons, List.length_nil, List.length_map, if_true, Bool.false_eq_true, if_false, startE, List.map_cons, List.map_nil, List.replicate, List.cons_append, List.nil_append, wipeE, Nat.zero_add, Nat.reduceAdd, Nat.reduceSub, true_and,
  w_getL_ref, w_getS_ref, w_getL_ro, w_getS_ro, w_getS_tup, w_add, w_sub, w_mul, w_addT, w_addL, w_mulL, w_fdiv, w_mod, w_pow, w_shl, w_lt, w_le, w_gt, w_ge, w_ltT, w_gtT, w_eq, w_ne, w_isN, w_isnN, w_in, w_nin, w_trB, w_trN, w_trI, w_trT, w_trL, w_lenT, w_lenR, w_lenL, w_sumT, w_sumL, w_int, w_intB, w_tupL, w_listL, w_listT, w_append, w_pop, w_reverse, w_isL, w_revT, w_asInt, w_slR, w_srcT, w_srcR, w_srcL, w_rng, w_zipT, w_unpkT, w_unpkL, w_eqB, w_eqT, w_eqI, w_ixT, w_eqS, w_eqTS, Bool.not_true, Bool.not_false, decide_true, decide_false, wd_lex_lex, wd_lex_degree, wd_lex_back, wd_lex_blocks, wd_lex_weights, wd_degree_lex, wd_degree_degree, wd_degree_back, wd_degree_blocks, wd_degree_weights, wd_back_lex, wd_back_degree, wd_back_back, wd_back_blocks, wd_back_weights, wd_blocks_lex, wd_blocks_degree, wd_blocks_back, wd_blocks_blocks, wd_blocks_weights, wd_weights_lex, wd_weights_degree, wd_weights_back, wd_weights_blocks, wd_weights_weights])
theorem take_wq {n l : Nat} {m : Int} {S : Store} {Q : D → Store → Prop} (hd : Dw l S) (hm : 0 < m)
    (h : ∀ (r : Int) (S' : Store), 0 ≤ r → r < m → Dr l S S' → Q (.int r) S') : wq (call gl fds (n + 1) f__law_take [.ref l, .int m]) Q S := by
  obtain ⟨xs, hl⟩ := hd
  rw [wq_call (fd := d__law_take) rfl rfl]
  dsimp only [d__law_take]
  unfold b__law_take
  try walk_at "dl"
  rcases List.eq_nil_or_concat xs with rfl | ⟨ys, y, rfl⟩
  · exact h 0 S (by omega) hm (Dw.refl ⟨_, hl⟩)
  · rw [if_neg (by simp; omega)]
    rw [List.concat_eq_append, List.map_append, List.map_cons, List.map_nil] at hl
    try walk_at "dl"
    have hf : Fr [l] S (S.set l (.lst (ys.map .int))) := Fr.set .refl _ (.inl (by simp))
    refine ⟨decide_eq_true (by omega), h _ _ (Int.fmod_nonneg_of_pos _ hm) (Int.fmod_lt_of_pos _ hm) ⟨⟨ys, get_set hl⟩, hf⟩⟩
theorem pick_wq {n l r : Nat} {ds : List D} {S : Store} {Q : D → Store → Prop} (hd : Dw l S) (hr : S[r]? = some (.lst ds)) (hne : r ≠ l) (h0 : 0 < ds.length)
    (h : ∀ (d : D) (S' : Store), d ∈ ds → Dr l S S' → Q d S') : wq (call gl fds (n + 2) f__law_pick [.ref l, .ref r]) Q S := by
  rw [wq_call (fd := d__law_pick) rfl rfl]
  dsimp only [d__law_pick]
  unfold b__law_pick
  try walk_at "dl"
  refine take_wq hd (by omega) fun k S' k0 k1 k2 => ?_
  have hr' := k2.get hr hne
  have hk : k.toNat < ds.length := by omega
  rw [w_ixL hr' (atI_of k0 (List.getElem?_eq_getElem hk))]
  exact h _ _ (List.getElem_mem _) k2
def Rg (a b : Int) (p : List Int) : Prop := ∀ x ∈ p, a ≤ x ∧ x ≤ b
theorem Rg.set {a b : Int} {p : List Int} (h : Rg a b p) {i : Nat} {x : Int} (h1 : a ≤ x) (h2 : x ≤ b) : Rg a b (p.set i x) := fun y hy => by
  rcases List.mem_or_eq_of_mem_set hy with m | rfl
  · exact h y m
  · exact ⟨h1, h2⟩
theorem Rg.mono {a b a' b' : Int} {p : List Int} (h : Rg a b p) (h1 : a' ≤ a) (h2 : b ≤ b') : Rg a' b' p := fun y hy => by
  have := h y hy
  omega
theorem Rg.getD {a b : Int} {p : List Int} (h : Rg a b p) {i : Nat} (hi : i < p.length) : a ≤ p.getD i 0 ∧ p.getD i 0 ≤ b := h _ (Dl.getD_mem hi)
theorem perm_erase : ∀ {α : Type} (xs : List α) (k : Nat) (h : k < xs.length), List.Perm (xs[k] :: xs.eraseIdx k) xs
  | _, [], k, h => by simp at h
  | _, x :: xs, 0, h => by simp
  | _, x :: xs, k + 1, h => by
    simp only [List.getElem_cons_succ, List.eraseIdx_cons_succ]
    exact (List.Perm.swap _ _ _).trans ((perm_erase xs k (by simpa using h)).cons x)
theorem shuffled_wq {n l r : Nat} {ds : List D} {S : Store} {Q : D → Store → Prop} (hd : Dw l S) (hr : S[r]? = some (.lst ds)) (hne : r ≠ l) (hl : ds.length ≤ 1000)
    (h : ∀ (es : List D) (r' : Nat) (S' : Store), es.Perm ds → S.length ≤ r' → r' ≠ l → S'[r']? = some (.lst es) → Dr l S S' → Q (.ref r') S') : wq (call gl fds (n + 2) f__law_shuffled [.ref l, .ref r]) Q S := by
  rw [wq_call (fd := d__law_shuffled) rfl rfl]
  dsimp only [d__law_shuffled]
  unfold b__law_shuffled
  try walk_at "dl"
  refine ⟨by decide, by decide, by decide, small_rng (by omega), ?_⟩
  rw [rngItems_nat]
  have hlt := hd.lt
  have e1 : (S ++ [Ob.lst ds]).length = S.length + 1 := by simp
  refine forL_inv1 (e := fun (k : Nat) => D.int (k : Int)) (fun i e S' => Dr l S S' ∧ (∃ xs ys : List D, S'[S.length]? = some (.lst xs) ∧ S'[S.length + 1]? = some (.lst ys) ∧ (ys ++ xs).Perm ds ∧ ys.length = i) ∧ ∃ o4, e = [some (.ref l), some (.ref r), some (.ref S.length), some (.ref (S.length + 1)), o4]) (fun _ _ _ _ => Gd_none) ?_ ?_ ?_
  · refine ⟨(hd.refl.new _).new _, ⟨ds, [], get_app get_new, ?_, by simp, rfl⟩, none, ?_⟩
    · rw [← e1]; exact get_new
    · rw [e1]
  · rintro e S4 ⟨d4, ⟨xs, ys, g1, g2, pm, hy⟩, o4, rfl⟩
    try walk_at "dl"
    have hx : xs = [] := by
      have := pm.length_eq
      simp only [List.length_append, List.length_range] at this hy
      exact List.eq_nil_of_length_eq_zero (by omega)
    subst hx
    exact h ys _ S4 (by simpa using pm) (by omega) (by omega) g2 d4
  · rintro i x e S4 hx ⟨d4, ⟨xs, ys, g1, g2, pm, hy⟩, o4, rfl⟩
    try walk_at "dl"
    have hxl : 0 < xs.length := by
      have := pm.length_eq
      have hi := (List.getElem?_eq_some_iff.mp hx).1
      simp only [List.length_append, List.length_range] at this hi
      omega
    have hxx : xs.length ≤ 1000 := by
      have := pm.length_eq
      simp only [List.length_append] at this
      omega
    refine ⟨by decide, take_wq d4.d (by omega) fun k S5 k0 k1 d5 => ?_⟩
    have hk : k.toNat < xs.length := by omega
    have g1' := d5.get g1 (by omega)
    have g2' := d5.get g2 (by omega)
    rw [w_popAt g1' k0 hxx (List.getElem?_eq_getElem hk)]
    have d6 : Dr l S (S5.set S.length (.lst (xs.eraseIdx k.toNat))) := (d4.trans d5).set _ (by omega) (by omega)
    have g2'' : (S5.set S.length (.lst (xs.eraseIdx k.toNat)))[S.length + 1]? = some (.lst ys) := by rw [List.getElem?_set_ne (by omega)]; exact g2'
    have g1'' : (S5.set S.length (.lst (xs.eraseIdx k.toNat)))[S.length]? = some (.lst (xs.eraseIdx k.toNat)) := get_set g1'
    rw [w_append g2'']
    have hyl : ys.length < sizeLine := by
      have := pm.length_eq
      simp only [List.length_append] at this
      exact Nat.lt_of_lt_of_le (show ys.length < 1001 by omega) (by decide)
    refine ⟨hyl, d6.set _ (by omega) (by omega), ⟨xs.eraseIdx k.toNat, ys ++ [xs[k.toNat]], ?_, get_set g2'', ?_, by simp [hy]⟩, _, rfl⟩
    · rw [List.getElem?_set_ne (by omega)]; exact g1''
    · rw [List.append_assoc]
      refine List.Perm.trans (List.Perm.append_left ys ?_) pm
      exact perm_erase xs k.toNat hk
end K01
end

section
set_option Elab.async false
set_option linter.all false
set_option maxRecDepth 100000
set_option maxHeartbeats 1000000
set_option exponentiation.threshold 20000
namespace K01
open PySem PySem.Spec L2 Dl
local macro_rules | `(tactic| walk_at "dl") => `(tactic| simp (disch := first | assumption | exact get_new | (refine get_app ?_; first | assumption | exact get_new | (refine get_app ?_; first | assumption | exact get_new)) | (refine get_set ?_; assumption) | exact atI_0 | exact atI_1 | exact atI_2 | exact ok_lex | exact ok_degree | exact ok_back | exact ok_blocks | exact ok_weights) only [
  e_cB, e_fB, e_var, e_int, e_bl, e_non, e_str, e_glo, e_tup, e_lst, e_op, e_neg, e_not, e_and, e_or, e_cmp, e_chain, e_ite, e_ix, e_sl, e_rev, e_call, e_bi, e_me, e_isi, e_isis, e_comp, e_tupr, e_lstr, e_nil, e_cons, e_ono, e_oso, e_cno, e_cso, vt_and, vt_or, vt_not, vt_cmp, vt_chain, vt_var, vt_bl, vt_call, vt_bi, vt_isi, vt_isis, vi_seq, vi_rng1, vi_rng2, vi_zip, vg_nm, vg_tp, vg_ixs, gs_nil, gs_cons, x_asg, x_par, x_aug, x_expr, x_ret, x_retN, x_ite, x_for, x_whl, x_pass, x_brk, x_cnt, xs_nil, k_one, k_cons, k_rt, k_bk, k_ct, r_nx, r_rt, w_neg, w_tupr, w_lstr,
  TGs.len, wq_pure, List.getElem?_cons_zero, List.getElem?_cons_succ, List.set_cons_zero, List.set_cons_succ, List.length_cons, List.length_nil, List.length_map, if_true, Bool.false_eq_true, if_false, startE, List.map_cons, List.map_nil, List.replicate, List.cons_append, List.nil_append, wipeE, Nat.zero_add, Nat.reduceAdd, Nat.reduceSub, true_and,
  w_getL_ref, w_getS_ref, w_getL_ro, w_getS_ro, w_getS_tup, w_add, w_sub, w_mul, w_addT, w_addL, w_mulL, w_fdiv, w_mod, w_pow, w_shl, w_lt, w_le, w_gt, w_ge, w_ltT, w_gtT, w_eq, w_ne, w_isN, w_isnN, w_in, w_nin, w_trB, w_trN, w_trI, w_trT, w_trL, w_lenT, w_lenR, w_lenL, w_sumT, w_sumL, w_int, w_intB, w_tupL, w_listL, w_listT, w_append, w_pop, w_reverse, w_isL, w_revT, w_asInt, w_slR, w_srcT, w_srcR, w_srcL, w_rng, w_zipT, w_unpkT, w_unpkL, w_eqB, w_eqT, w_eqI, w_ixT, w_eqS, w_eqTS, Bool.not_true, Bool.not_false, decide_true, decide_false, wd_lex_lex, wd_lex_degree, wd_lex_back, wd_lex_blocks, wd_lex_weights, wd_degree_lex, wd_degree_degree, wd_degree_back, wd_degree_blocks, wd_degree_weights, wd_back_lex, wd_back_degree, wd_back_back, wd_back_blocks, wd_back_weights, wd_blocks_lex, wd_blocks_degree, wd_blocks_back, wd_blocks_blocks, wd_blocks_weights, wd_weights_lex, wd_weights_degree, wd_weights_back, wd_weights_blocks, wd_weights_weights])
local macro_rules | `(tactic| walk_at "nx") => `(tactic| (rw [k_nx]; try walk_at "dl"))
local macro_rules | `(tactic| walk_at "cj") => `(tactic| repeat refine And.intro (by first | decide | exact lens_of (by decide) | exact lens_of (by simp) | simp) ?_)
theorem fits_nat {i : Int} (h : i.natAbs < 2 ^ 8000) (j : Int) (h2 : j.natAbs < 2 ^ 8000) : mulFits i j = true := mulFits_of h h2
theorem natAbs_sub_lt {a b : Int} {e : Nat} (ha : a.natAbs < 2 ^ e) (hb : b.natAbs < 2 ^ e) : (a - b).natAbs < 2 ^ (e + 1) := by
  rw [Nat.pow_succ]
  generalize 2 ^ e = u at *
  omega
theorem natAbs_mul_lt {a b : Int} {e f : Nat} (ha : a.natAbs < 2 ^ e) (hb : b.natAbs < 2 ^ f) : (a * b).natAbs < 2 ^ (e + f) := by
  rw [Int.natAbs_mul, Nat.pow_add]
  exact Nat.mul_lt_mul'' ha hb
theorem pow_le {a : Nat} {e f : Nat} (h : a < 2 ^ e) (hf : e ≤ f) : a < 2 ^ f := Nat.lt_of_lt_of_le h (Nat.pow_le_pow_right (by omega) hf)
theorem gcd_wq {n : Nat} {a b : Int} {S : Store} {Q : D → Store → Prop} (ha : a.natAbs < 2 ^ 8000) (hb : b.natAbs < 2 ^ 8000) (h : Q (.int (Nat.gcd a.natAbs b.natAbs : Nat)) S) : wq (call gl fds (n + 1) f__law_gcd [.int a, .int b]) Q S := by
  rw [wq_call (fd := d__law_gcd) rfl rfl]
  dsimp only [d__law_gcd]
  unfold b__law_gcd
  have ab : ∀ i : Int, (if i < 0 then -i else i) = (i.natAbs : Int) := fun i => by split <;> omega
  walk_at "dl"
  rw [w_abs, ab]
  refine ⟨by decide, ?_⟩
  walk_at "nx"
  rw [w_abs, ab]
  refine ⟨by decide, ?_⟩
  walk_at "nx"
  refine ⟨by decide, ?_⟩
  rw [show rngItems 0 20000 = (List.range 20000).map fun (k : Nat) => D.int (k : Int) from rngItems_nat 20000]
  generalize hg : Nat.gcd a.natAbs b.natAbs = g at *
  have fin : ∀ (x : Nat), Nat.gcd x 0 = g → Q (.int (x : Int)) S := fun x hx => by
    rw [Nat.gcd_zero_right] at hx
    rw [hx]; exact h
  refine forL_inv1 (e := fun (k : Nat) => D.int (k : Int)) (fun i e S' => S' = S ∧ ∃ x y : Nat, Nat.gcd x y = g ∧ ((i = 0 ∧ x < 2 ^ 8000 ∧ y < 2 ^ 8000) ∨ (0 < i ∧ y < x ∧ x * y < 2 ^ (16001 - i))) ∧ ∃ o4 o5, e = [some (.int a), some (.int b), some (.int x), some (.int y), o4, o5]) (fun _ _ _ _ => Gd_none) ?_ ?_ ?_
  · exact ⟨rfl, a.natAbs, b.natAbs, hg, .inl ⟨rfl, ha, hb⟩, _, _, rfl⟩
  · rintro e S' ⟨rfl, x, y, h1, h2, o4, o5, rfl⟩
    rw [List.length_range] at h2
    walk_at "nx"
    have hy : y = 0 := by
      rcases h2 with ⟨e, _⟩ | ⟨_, h3, h4⟩
      · omega
      · rw [show 16001 - 20000 = 0 from rfl, Nat.pow_zero] at h4
        have : x * y = 0 := by omega
        rcases Nat.mul_eq_zero.mp this with e | e <;> omega
    subst hy
    exact fin x h1
  · rintro i k e S' hk ⟨rfl, x, y, h1, h2, o4, o5, rfl⟩
    have hi : i < 20000 := by
      have := (List.getElem?_eq_some_iff.mp hk).1
      rwa [List.length_range] at this
    walk_at "dl"
    refine ⟨by decide, ?_⟩
    by_cases hy : y = 0
    · subst hy
      rw [if_pos (by simp)]
      try walk_at "dl"
      try walk_at "nx"
      exact fin x h1
    · rw [if_neg (by simpa using hy)]
      try walk_at "dl"
      walk_at "nx"
      refine ⟨decide_eq_true (by omega), by decide, ?_⟩
      walk_at "nx"
      refine ⟨by decide, ?_⟩
      walk_at "nx"
      refine ⟨by decide, rfl, y, x % y, ?_, .inr ⟨by omega, Nat.mod_lt _ (by omega), ?_⟩, some (.int k), some (.int ((x : Int).fmod y)), ?_⟩
      · rw [Nat.gcd_comm, ← Nat.gcd_rec, Nat.gcd_comm]; exact h1
      · rcases h2 with ⟨rfl, h3, h4⟩ | ⟨h3, h4, h5⟩
        · have h6 : x % y ≤ x := Nat.mod_le _ _
          have h7 : y * (x % y) < 2 ^ 8000 * 2 ^ 8000 := Nat.mul_lt_mul'' h4 (by omega)
          rwa [← Nat.pow_add] at h7
        · obtain ⟨_, h6⟩ := euclid_half (show 0 < y by omega) h4
          by_cases hz : i ≤ 16000
          · have e : 16001 - i = (16001 - (i + 1)) + 1 := by omega
            rw [e, Nat.pow_succ] at h5
            omega
          · have e : 16001 - i = 0 := by omega
            have e2 : 16001 - (i + 1) = 0 := by omega
            rw [e, Nat.pow_zero] at h5
            rw [e2, Nat.pow_zero]
            omega
      · rw [Int.fmod_eq_emod_of_nonneg _ (by omega)]
        rfl
/-- n / d made least: the same value, not greater in its parts -/
theorem frac_wq {n : Nat} {a b : Int} {S : Store} {Q : D → Store → Prop} (ha : a.natAbs < 2 ^ 8000) (hb : b.natAbs < 2 ^ 8000) (hb0 : b ≠ 0)
    (h : ∀ c d : Int, 0 < d → c * b = a * d → c.natAbs ≤ a.natAbs → d.natAbs ≤ b.natAbs → Nat.gcd c.natAbs d.natAbs = 1 → Q (.tup [.int c, .int d]) S) : wq (call gl fds (n + 2) f__law_frac [.int a, .int b]) Q S := by
  rw [wq_call (fd := d__law_frac) rfl rfl]
  dsimp only [d__law_frac]
  unfold b__law_frac
  walk_at "dl"
  refine gcd_wq ha hb ?_
  rw [w_max]
  have hg0 : 0 < Nat.gcd a.natAbs b.natAbs := Nat.gcd_pos_of_pos_right _ (by omega)
  have hgb : Nat.gcd a.natAbs b.natAbs ≤ b.natAbs := Nat.gcd_le_right _ (by omega)
  have hda : (Nat.gcd a.natAbs b.natAbs) ∣ a.natAbs := Nat.gcd_dvd_left _ _
  have hdb : (Nat.gcd a.natAbs b.natAbs) ∣ b.natAbs := Nat.gcd_dvd_right _ _
  have hcop : Nat.gcd (a.natAbs / Nat.gcd a.natAbs b.natAbs) (b.natAbs / Nat.gcd a.natAbs b.natAbs) = 1 := by
    rw [Nat.gcd_div hda hdb, Nat.div_self hg0]
  generalize Nat.gcd a.natAbs b.natAbs = g at *
  rw [show (if (g : Int) > 1 then (g : Int) else 1) = g by split <;> omega]
  refine ⟨by decide, ?_⟩
  obtain ⟨x, hx⟩ : (g : Int) ∣ a := Int.ofNat_dvd_left.mpr hda
  obtain ⟨y, hy⟩ : (g : Int) ∣ b := Int.ofNat_dvd_left.mpr hdb
  have hgl : g.log2 < 9000 := log2_lt (Nat.lt_of_le_of_lt hgb (pow_le hb (by decide))) (by decide)
  have ha2 : a.natAbs = g * x.natAbs := by rw [hx, Int.natAbs_mul, Int.natAbs_natCast]
  have hb2 : b.natAbs = g * y.natAbs := by rw [hy, Int.natAbs_mul, Int.natAbs_natCast]
  rw [ha2, hb2, Nat.mul_div_cancel_left _ hg0, Nat.mul_div_cancel_left _ hg0] at hcop
  have hxl : x.natAbs ≤ a.natAbs := by rw [ha2]; exact Nat.le_mul_of_pos_left _ hg0
  have hyl : y.natAbs ≤ b.natAbs := by rw [hb2]; exact Nat.le_mul_of_pos_left _ hg0
  have hgi : (0 : Int) < g := by omega
  walk_at "nx"
  by_cases c : b < 0
  · rw [if_pos (decide_eq_true c)]
    try walk_at "dl"
    refine ⟨by decide, ?_⟩
    walk_at "nx"
    try rw [k_nx]
    try walk_at "dl"
    have hy0 : y < 0 := by
      rw [hy] at c
      exact Classical.byContradiction fun e => absurd (Int.mul_nonneg (show 0 ≤ (g : Int) by omega) (show 0 ≤ y by omega)) (by omega)
    have l1 : (0 - (g : Int)).natAbs.log2 < 9000 := by rw [show (0 - (g : Int)).natAbs = g by omega]; exact hgl
    have q1 : a.fdiv (0 - g) = -x := by
      rw [hx, show (g : Int) * x = (0 - g) * (-x) by rw [Int.zero_sub, Int.neg_mul_neg]]
      exact Int.mul_fdiv_cancel_left _ (by omega)
    have q2 : b.fdiv (0 - g) = -y := by
      rw [hy, show (g : Int) * y = (0 - g) * (-y) by rw [Int.zero_sub, Int.neg_mul_neg]]
      exact Int.mul_fdiv_cancel_left _ (by omega)
    have hd : (decide (0 - (g : Int) ≠ 0) && decide ((0 - (g : Int)).natAbs.log2 < 9000)) = true := by
      rw [decide_eq_true (show (0 - (g : Int)) ≠ 0 by omega), decide_eq_true l1]; rfl
    rw [q1, q2]
    refine ⟨hd, hd, lens_of (by decide), h _ _ (by omega) ?_ (by omega) (by omega) (by rw [Int.natAbs_neg, Int.natAbs_neg]; exact hcop)⟩
    rw [hx, hy]
    grind
  · rw [if_neg (by simpa using c)]
    walk_at "nx"
    have hy0 : 0 < y := by
      have : 0 < b := by omega
      rw [hy] at this
      exact Classical.byContradiction fun e => absurd (Int.mul_nonneg (show 0 ≤ (g : Int) by omega) (show 0 ≤ -y by omega)) (by rw [Int.mul_neg]; omega)
    have q1 : a.fdiv g = x := by
      rw [hx]
      exact Int.mul_fdiv_cancel_left _ (by omega)
    have q2 : b.fdiv g = y := by
      rw [hy]
      exact Int.mul_fdiv_cancel_left _ (by omega)
    have hd : (decide ((g : Int) ≠ 0) && decide ((g : Int).natAbs.log2 < 9000)) = true := by
      rw [decide_eq_true (show (g : Int) ≠ 0 by omega), decide_eq_true (show (g : Int).natAbs.log2 < 9000 by rw [Int.natAbs_natCast]; exact hgl)]; rfl
    rw [q1, q2]
    refine ⟨hd, hd, lens_of (by decide), h _ _ hy0 ?_ hxl hyl hcop⟩
    rw [hx, hy]
    grind
end K01
end

section
set_option Elab.async false
set_option linter.all false
set_option maxRecDepth 100000
set_option maxHeartbeats 1000000
set_option exponentiation.threshold 20000
namespace K01
open PySem PySem.Spec L2 Dl
local macro_rules | `(tactic| walk_at "dl") => `(tactic| simp (disch := first | assumption | exact get_new | (refine get_app ?_; first | assumption | exact get_new | (refine get_app ?_; first | assumption | exact get_new)) | (refine get_set ?_; assumption) | exact atI_0 | exact atI_1 | exact atI_2 | exact ok_lex | exact ok_degree | exact ok_back | exact ok_blocks | exact ok_weights) only [
  e_cB, e_fB, e_var, e_int, e_bl, e_non, e_str, e_glo, e_tup, e_lst, e_op, e_neg, e_not, e_and, e_or, e_cmp, e_chain, e_ite, e_ix, e_sl, e_rev, e_call, e_bi, e_me, e_isi, e_isis, e_comp, e_tupr, e_lstr, e_nil, e_cons, e_ono, e_oso, e_cno, e_cso, vt_and, vt_or, vt_not, vt_cmp, vt_chain, vt_var, vt_bl, vt_call, vt_bi, vt_isi, vt_isis, vi_seq, vi_rng1, vi_rng2, vi_zip, vg_nm, vg_tp, vg_ixs, gs_nil, gs_cons, x_asg, x_par, x_aug, x_expr, x_ret, x_retN, x_ite, x_for, x_whl, x_pass, x_brk, x_cnt, xs_nil, k_one, k_cons, k_rt, k_bk, k_ct, r_nx, r_rt, w_neg, w_tupr, w_lstr,
  TGs.len, wq_pure, List.getElem?_cons_zero, List.getElem?_cons_succ, List.set_cons_zero, List.set_cons_succ, List.length_cons, List.length_nil, List.length_map, if_true, Bool.false_eq_true, if_false, startE, List.map_cons, List.map_nil, List.replicate, List.cons_append, List.nil_append, wipeE, Nat.zero_add, Nat.reduceAdd, Nat.reduceSub, true_and,
  w_getL_ref, w_getS_ref, w_getL_ro, w_getS_ro, w_getS_tup, w_add, w_sub, w_mul, w_addT, w_addL, w_mulL, w_fdiv, w_mod, w_pow, w_shl, w_lt, w_le, w_gt, w_ge, w_ltT, w_gtT, w_eq, w_ne, w_isN, w_isnN, w_in, w_nin, w_trB, w_trN, w_trI, w_trT, w_trL, w_lenT, w_lenR, w_lenL, w_sumT, w_sumL, w_int, w_intB, w_tupL, w_listL, w_listT, w_append, w_pop, w_reverse, w_isL, w_revT, w_asInt, w_slR, w_srcT, w_srcR, w_srcL, w_rng, w_zipT, w_unpkT, w_unpkL, w_eqB, w_eqT, w_eqI, w_ixT, w_eqS, w_eqTS, Bool.not_true, Bool.not_false, decide_true, decide_false, wd_lex_lex, wd_lex_degree, wd_lex_back, wd_lex_blocks, wd_lex_weights, wd_degree_lex, wd_degree_degree, wd_degree_back, wd_degree_blocks, wd_degree_weights, wd_back_lex, wd_back_degree, wd_back_back, wd_back_blocks, wd_back_weights, wd_blocks_lex, wd_blocks_degree, wd_blocks_back, wd_blocks_blocks, wd_blocks_weights, wd_weights_lex, wd_weights_degree, wd_weights_back, wd_weights_blocks, wd_weights_weights])
local macro_rules | `(tactic| walk_at "nx") => `(tactic| (rw [k_nx]; try walk_at "dl"))
local macro_rules | `(tactic| walk_at "cj") => `(tactic| repeat refine And.intro (by first | decide | exact lens_of (by decide) | exact lens_of (by simp) | simp) ?_)
def valF (p : Int × Int) : Rat := (p.1 : Rat) / (p.2 : Rat)
def frD (p : Int × Int) : D := .tup [.int p.1, .int p.2]
structure GoodF (e : Nat) (p : Int × Int) : Prop where
  n : p.1.natAbs < 2 ^ e
  pos : 0 < p.2
  d : p.2.natAbs < 2 ^ e
theorem val_eq {a b c d : Int} (hb : b ≠ 0) (hd : d ≠ 0) (h : c * b = a * d) : valF (c, d) = (a : Rat) / (b : Rat) := by
  unfold valF
  have h1 : (c : Rat) * b = a * d := by exact_mod_cast h
  have h2 : (b : Rat) ≠ 0 := by exact_mod_cast hb
  have h3 : (d : Rat) ≠ 0 := by exact_mod_cast hd
  grind
theorem GoodF.mono {e f : Nat} {p : Int × Int} (h : GoodF e p) (k : e ≤ f) : GoodF f p := ⟨pow_le h.n k, h.pos, pow_le h.d k⟩
theorem GoodF.ne {e : Nat} {p : Int × Int} (h : GoodF e p) : ((p.2 : Int) : Rat) ≠ 0 := by
  have := h.pos
  have : p.2 ≠ 0 := by omega
  exact_mod_cast this
theorem valF_zero {e : Nat} {p : Int × Int} (h : GoodF e p) : valF p = 0 ↔ p.1 = 0 := by
  have h2 := h.ne
  unfold valF
  constructor
  · intro q
    have : ((p.1 : Int) : Rat) = 0 := by grind
    exact_mod_cast this
  · intro q
    rw [q]
    grind
theorem product_wq {n e f : Nat} {p q : Int × Int} {S : Store} {Q : D → Store → Prop} (hp : GoodF e p) (hq : GoodF f q) (hef : e + f ≤ 7999) (h : ∀ r : Int × Int, GoodF (e + f) r → valF r = valF p * valF q → Q (frD r) S) : wq (call gl fds (n + 3) f__law_product [frD p, frD q]) Q S := by
  unfold frD
  rw [wq_call (fd := d__law_product) rfl rfl]
  dsimp only [d__law_product]
  unfold b__law_product
  walk_at "dl"
  have m1 := natAbs_mul_lt hp.n hq.n
  have m2 := natAbs_mul_lt hp.d hq.d
  have b1 := pow_le hp.n (show e ≤ 8000 by omega)
  have b2 := pow_le hq.n (show f ≤ 8000 by omega)
  have b3 := pow_le hp.d (show e ≤ 8000 by omega)
  have b4 := pow_le hq.d (show f ≤ 8000 by omega)
  have hd : 0 < p.2 * q.2 := Int.mul_pos hp.pos hq.pos
  refine ⟨fits_nat b1 _ b2, fits_nat b3 _ b4, frac_wq (pow_le m1 (by omega)) (pow_le m2 (by omega)) (by omega) fun c d hd0 hcd hc hdb _ => ?_⟩
  refine h (c, d) ⟨Nat.lt_of_le_of_lt hc m1, hd0, Nat.lt_of_le_of_lt hdb m2⟩ ?_
  rw [val_eq (show p.2 * q.2 ≠ 0 by omega) (by omega) hcd]
  have h1 := hp.ne
  have h2 := hq.ne
  unfold valF
  rw [Rat.intCast_mul, Rat.intCast_mul]
  grind
theorem quotient_wq {n e f : Nat} {p q : Int × Int} {S : Store} {Q : D → Store → Prop} (hp : GoodF e p) (hq : GoodF f q) (hq0 : q.1 ≠ 0) (hef : e + f ≤ 7999) (h : ∀ r : Int × Int, GoodF (e + f) r → valF r = valF p / valF q → Q (frD r) S) : wq (call gl fds (n + 3) f__law_quotient [frD p, frD q]) Q S := by
  unfold frD
  rw [wq_call (fd := d__law_quotient) rfl rfl]
  dsimp only [d__law_quotient]
  unfold b__law_quotient
  walk_at "dl"
  have m1 := natAbs_mul_lt hp.n hq.d
  have m2 := natAbs_mul_lt hp.d hq.n
  have b1 := pow_le hp.n (show e ≤ 8000 by omega)
  have b2 := pow_le hq.n (show f ≤ 8000 by omega)
  have b3 := pow_le hp.d (show e ≤ 8000 by omega)
  have b4 := pow_le hq.d (show f ≤ 8000 by omega)
  have hpp := hp.pos
  have hd : p.2 * q.1 ≠ 0 := Int.mul_ne_zero (by omega) hq0
  refine ⟨fits_nat b1 _ b4, fits_nat b3 _ b2, frac_wq (pow_le m1 (by omega)) (pow_le m2 (by omega)) hd fun c d hd0 hcd hc hdb _ => ?_⟩
  refine h (c, d) ⟨Nat.lt_of_le_of_lt hc m1, hd0, Nat.lt_of_le_of_lt hdb m2⟩ ?_
  rw [val_eq hd (by omega) hcd]
  have h1 := hp.ne
  have h2 := hq.ne
  have h3 : ((q.1 : Int) : Rat) ≠ 0 := by exact_mod_cast hq0
  unfold valF
  rw [Rat.intCast_mul, Rat.intCast_mul]
  grind
theorem minus_wq {n e f : Nat} {p q : Int × Int} {S : Store} {Q : D → Store → Prop} (hp : GoodF e p) (hq : GoodF f q) (hef : e + f + 1 ≤ 7999) (h : ∀ r : Int × Int, GoodF (e + f + 1) r → valF r = valF p - valF q → Q (frD r) S) : wq (call gl fds (n + 3) f__law_minus [frD p, frD q]) Q S := by
  unfold frD
  rw [wq_call (fd := d__law_minus) rfl rfl]
  dsimp only [d__law_minus]
  unfold b__law_minus
  walk_at "dl"
  have m1 := natAbs_mul_lt hp.n hq.d
  have m2 := natAbs_mul_lt hp.d hq.d
  have m3 := natAbs_mul_lt hq.n hp.d
  rw [Nat.add_comm f e] at m3
  have m4 := natAbs_sub_lt m1 m3
  have b1 := pow_le hp.n (show e ≤ 8000 by omega)
  have b2 := pow_le hq.n (show f ≤ 8000 by omega)
  have b3 := pow_le hp.d (show e ≤ 8000 by omega)
  have b4 := pow_le hq.d (show f ≤ 8000 by omega)
  have hd : 0 < p.2 * q.2 := Int.mul_pos hp.pos hq.pos
  refine ⟨fits_nat b1 _ b4, fits_nat b2 _ b3, fits_nat b3 _ b4, frac_wq (pow_le m4 (by omega)) (pow_le m2 (by omega)) (by omega) fun c d hd0 hcd hc hdb _ => ?_⟩
  refine h (c, d) ⟨Nat.lt_of_le_of_lt hc m4, hd0, Nat.lt_of_le_of_lt hdb (pow_le m2 (by omega))⟩ ?_
  rw [val_eq (show p.2 * q.2 ≠ 0 by omega) (by omega) hcd]
  have h1 := hp.ne
  have h2 := hq.ne
  unfold valF
  rw [Rat.intCast_mul, Rat.intCast_sub, Rat.intCast_mul, Rat.intCast_mul]
  grind
end K01
end

section
set_option Elab.async false
set_option linter.all false
set_option maxRecDepth 100000
set_option maxHeartbeats 1000000
set_option exponentiation.threshold 20000
namespace K01
open PySem PySem.Spec L2 Dl
local macro_rules | `(tactic| walk_at "dl") => `(tactic| simp (disch := first | assumption | exact get_new | (refine get_app ?_; first | assumption | exact get_new | (refine get_app ?_; first | assumption | exact get_new)) | (refine get_set ?_; assumption) | exact atI_0 | exact atI_1 | exact atI_2 | exact ok_lex | exact ok_degree | exact ok_back | exact ok_blocks | exact ok_weights) only [
  e_cB, e_fB, e_var, e_int, e_bl, e_non, e_str, e_glo, e_tup, e_lst, e_op, e_neg, e_not, e_and, e_or, e_cmp, e_chain, e_ite, e_ix, e_sl, e_rev, e_call, e_bi, e_me, e_isi, e_isis, e_comp, e_tupr, e_lstr, e_nil, e_cons, e_ono, e_oso, e_cno, e_cso, vt_and, vt_or, vt_not, vt_cmp, vt_chain, vt_var, vt_bl, vt_call, vt_bi, vt_isi, vt_isis, vi_seq, vi_rng1, vi_rng2, vi_zip, vg_nm, vg_tp, vg_ixs, gs_nil, gs_cons, x_asg, x_par, x_aug, x_expr, x_ret, x_retN, x_ite, x_for, x_whl, x_pass, x_brk, x_cnt, xs_nil, k_one, k_cons, k_rt, k_bk, k_ct, r_nx, r_rt, w_neg, w_tupr, w_lstr,
  TGs.len, wq_pure, List.getElem?_cons_zero, List.getElem?_cons_succ, List.set_cons_zero, List.set_cons_succ, List.length_cons, List.length_nil, List.length_map, if_true, Bool.false_eq_true, if_false, startE, List.map_cons, List.map_nil, List.replicate, List.cons_append, List.nil_append, wipeE, Nat.zero_add, Nat.reduceAdd, Nat.reduceSub, true_and,
  w_getL_ref, w_getS_ref, w_getL_ro, w_getS_ro, w_getS_tup, w_add, w_sub, w_mul, w_addT, w_addL, w_mulL, w_fdiv, w_mod, w_pow, w_shl, w_lt, w_le, w_gt, w_ge, w_ltT, w_gtT, w_eq, w_ne, w_isN, w_isnN, w_in, w_nin, w_trB, w_trN, w_trI, w_trT, w_trL, w_lenT, w_lenR, w_lenL, w_sumT, w_sumL, w_int, w_intB, w_tupL, w_listL, w_listT, w_append, w_pop, w_reverse, w_isL, w_revT, w_asInt, w_slR, w_srcT, w_srcR, w_srcL, w_rng, w_zipT, w_unpkT, w_unpkL, w_eqB, w_eqT, w_eqI, w_ixT, w_eqS, w_eqTS, Bool.not_true, Bool.not_false, decide_true, decide_false, wd_lex_lex, wd_lex_degree, wd_lex_back, wd_lex_blocks, wd_lex_weights, wd_degree_lex, wd_degree_degree, wd_degree_back, wd_degree_blocks, wd_degree_weights, wd_back_lex, wd_back_degree, wd_back_back, wd_back_blocks, wd_back_weights, wd_blocks_lex, wd_blocks_degree, wd_blocks_back, wd_blocks_blocks, wd_blocks_weights, wd_weights_lex, wd_weights_degree, wd_weights_back, wd_weights_blocks, wd_weights_weights])
local macro_rules | `(tactic| walk_at "nx") => `(tactic| (rw [k_nx]; try walk_at "dl"))
local macro_rules | `(tactic| walk_at "cj") => `(tactic| repeat refine And.intro (by first | decide | exact lens_of (by decide) | exact lens_of (by simp) | simp) ?_)
def dI (xs : List Int) : D := .tup (xs.map .int)
def dN (ks : List Nat) : D := .tup (ks.map fun (k : Nat) => D.int (k : Int))
def BA (e : Nat) (A : List (List Int)) : Prop := ∀ a ∈ A, ∀ x ∈ a, x.natAbs < 2 ^ e
theorem BA.mono {e f : Nat} {A : List (List Int)} (h : BA e A) (k : e ≤ f) : BA f A := fun a ha x hx => pow_le (h a ha x hx) k
theorem BA.get {e : Nat} {A : List (List Int)} (h : BA e A) {a : List Int} (ha : a ∈ A) {k : Nat} (hk : k < a.length) : (a.getD k 0).natAbs < 2 ^ e := h a ha _ (Dl.getD_mem hk)
theorem comb_bd {e c : Nat} {p a : List Int} (hp : ∀ x ∈ p, x.natAbs < 2 ^ e) (ha : ∀ x ∈ a, x.natAbs < 2 ^ e) (h1 : c < p.length) (h2 : c < a.length) : ∀ x ∈ combI c p a, x.natAbs < 2 ^ (2 * e + 1) := fun x hx => by
  unfold combI at hx
  obtain ⟨i, hi, rfl⟩ := List.getElem_of_mem hx
  simp only [List.length_zipWith] at hi
  rw [List.getElem_zipWith]
  have b1 := ha a[i] (List.getElem_mem _)
  have b2 := hp _ (Dl.getD_mem h1)
  have b3 := hp p[i] (List.getElem_mem _)
  have b4 := ha _ (Dl.getD_mem h2)
  have := natAbs_sub_lt (natAbs_mul_lt b1 b2) (natAbs_mul_lt b3 b4)
  rwa [show e + e + 1 = 2 * e + 1 by omega] at this
theorem has_rank_wq {n m : Nat} {rows : List (List Int)} {S : Store} {Q : D → Store → Prop} (hm : m ≤ 4) (hr : rows.length = m) (hl : ∀ a ∈ rows, a.length = m) (hb : BA 11 rows)
    (h : ∀ (b : Bool) S', (b = true ↔ ¬ KerQ m (remQ 0 rows)) → Fr [] S S' → Q (.bl b) S') : wq (call gl fds (n + 1) f_has_rank [.tup (rows.map dI)]) Q S := by
  rw [wq_call (fd := d_has_rank) rfl rfl]
  dsimp only [d_has_rank]
  unfold b_has_rank
  walk_at "dl"
  refine compL_alloc (e := dI) (fun a => a.map .int) (by omega) (fun _ _ => Gd_none) (fun x hx S' a => ?_) fun rs S1 hrs hrows a => ?_
  · unfold dI
    walk_at "dl"
    refine ⟨by decide, _, rfl, Nat.le_refl _, get_new, Fr.new .refl _⟩
  · refine ⟨by decide, ?_⟩
    have R0 : RL (S1 ++ [Ob.lst (rs.map .ref)]) S1.length rows := ⟨rs, get_new, hrs, fun i r x e1 e2 => by
      obtain ⟨q1, q2⟩ := hrows i r x e1 e2
      exact ⟨get_app q1, Nat.ne_of_lt (lt_of_get q1)⟩⟩
    have f1 : Fr [] S (S1 ++ [Ob.lst (rs.map .ref)]) := a.new _
    have hle : S.length ≤ S1.length := a.le
    clear hrows hrs a
    generalize S1.length = l at *
    generalize S1 ++ [Ob.lst (rs.map .ref)] = S2 at *
    walk_at "nx"
    refine R0.len ?_
    rw [hr]
    walk_at "dl"
    refine ⟨small_rng (by omega), ?_⟩
    rw [rngItems_nat]
    refine forL_inv1 (e := fun (k : Nat) => D.int (k : Int)) (fun c e S' => Fr [] S S' ∧ (∃ A, RL S' l A ∧ A.length = m ∧ (∀ a ∈ A, a.length = m) ∧ BA (12 * 2 ^ c - 1) A ∧ (KerQ m (remQ 0 rows) ↔ KerQ (m - c) (remQ c A))) ∧ ∃ o2 o3 o4 o5 o6 o7 o8 o9, e = [some (.tup (rows.map dI)), some (.ref l), o2, o3, o4, o5, o6, o7, o8, o9]) (fun _ _ _ _ => Gd_none) ?_ ?_ ?_
    · exact ⟨f1, ⟨rows, R0, hr, hl, hb, Iff.rfl⟩, _, _, _, _, _, _, _, _, rfl⟩
    · rintro e S3 ⟨f3, ⟨A, RA, hA, hAl, hAb, hk⟩, o2, o3, o4, o5, o6, o7, o8, o9, rfl⟩
      walk_at "nx"
      refine h true S3 ?_ f3
      rw [List.length_range, Nat.sub_self] at hk
      rw [hk]
      simp only [ker_zero, not_false_eq_true]
    · rintro c x e S3 hx ⟨f3, ⟨A, RA, hA, hAl, hAb, hk⟩, o2, o3, o4, o5, o6, o7, o8, o9, rfl⟩
      have hc : c < m := by
        have := (List.getElem?_eq_some_iff.mp hx).1
        simpa using this
      have hxc : x = c := by
        rw [List.getElem?_range hc] at hx
        exact (Option.some.inj hx).symm
      subst hxc
      try walk_at "dl"
      refine ⟨by decide, by decide, ?_⟩
      walk_at "nx"
      refine RA.len ?_
      rw [hA]
      walk_at "dl"
      refine ⟨by rw [small62_of (by omega) (by omega), small62_of (by omega) (by omega)]; rfl, ?_⟩
      rw [rngItems_from x m (by omega)]
      refine forL_inv1 (e := fun (k : Nat) => D.int ((x + k : Nat) : Int)) (fun n e S' => S' = S3 ∧ (∀ (i : Nat) (a : List Int), x ≤ i → i < x + n → A[i]? = some a → a.getD x 0 = 0) ∧ ∃ o4 o5 o6 o7 o8 o9, e = [some (.tup (rows.map dI)), some (.ref l), some (.int x), some .non, o4, o5, o6, o7, o8, o9]) (fun _ _ _ _ => Gd_none) ?_ ?_ ?_
      · exact ⟨rfl, fun i a h1 h2 => by omega, _, _, _, _, _, _, rfl⟩
      · rintro e S4 ⟨rfl, hz, o4, o5, o6, o7, o8, o9, rfl⟩
        rw [List.length_range] at hz
        walk_at "nx"
        try walk_at "dl"
        refine h false S4 ?_ f3
        have := none_ok hAl hc fun i a h1 h2 => hz i a h1 (by have := (List.getElem?_eq_some_iff.mp h2).1; omega) h2
        rw [hk]
        simp [this]
      · rintro k y e S4 hy ⟨rfl, hz, o4, o5, o6, o7, o8, o9, rfl⟩
        have hkm : k < m - x := by
          have := (List.getElem?_eq_some_iff.mp hy).1
          simpa using this
        have hyk : y = k := by
          rw [List.getElem?_range hkm] at hy
          exact (Option.some.inj hy).symm
        subst hyk
        have hAy : A[x + y]? = some A[x + y] := List.getElem?_eq_getElem (by omega)
        generalize A[x + y] = p at hAy
        have hpl : p.length = m := hAl p (List.mem_of_getElem? hAy)
        walk_at "dl"
        refine ⟨by decide, RA.ix hAy fun r hr1 hr2 => ?_⟩
        rw [w_ixL hr1 (atI_ints (by omega)), w_eqI]
        by_cases cz : p.getD x 0 = 0
        · rw [if_neg (by simpa using cz)]
          try walk_at "nx"
          refine ⟨fun i a h1 h2 h3 => ?_, _, _, _, _, _, _, rfl⟩
          by_cases e : i = x + y
          · subst e
            rw [hAy] at h3
            cases h3
            exact cz
          · exact hz i a h1 (by omega) h3
        · rw [if_pos (by simpa using cz)]
          try walk_at "dl"
          refine ⟨by decide, ?_⟩
          clear hz
          walk_at "nx"
          walk_at "nx"
          rw [if_neg (by simp)]
          walk_at "nx"
          have hAx : A[x]? = some A[x] := List.getElem?_eq_getElem (by omega)
          generalize A[x] = q at hAx
          have hb1 := hAb p (List.mem_of_getElem? hAy)
          refine RA.ix hAy fun r3 g3 n3 => ?_
          refine RA.ix hAx fun r2 g2 n2 => ?_
          walk_at "cj"
          try walk_at "dl"
          refine RA.put (by omega) g3 n3 fun u1 RA1 => ?_
          have g2' : (S4.set l u1)[r2]? = some (.lst (q.map .int)) := by rw [List.getElem?_set_ne (by omega)]; exact g2
          try walk_at "dl"
          refine RA1.put (by rw [List.length_set]; omega) g2' n2 fun u2 RA2 => ?_
          have f5 : Fr [] S ((S4.set l u1).set l u2) := (f3.set _ (.inr hle)).set _ (.inr hle)
          generalize (S4.set l u1).set l u2 = S5 at *
          have hk2 := hk.trans (swap_ok hAx hAy (by omega))
          have hA1g : ∀ i, ((A.set x p).set (x + y) q)[i]? = if i = x + y then some q else if i = x then some p else A[i]? := swap_get hAx hAy
          have hA1l : ((A.set x p).set (x + y) q).length = m := by simp [hA]
          have hA1m : ∀ a ∈ (A.set x p).set (x + y) q, a ∈ A := fun a ha => by
            obtain ⟨i, hi⟩ := List.getElem?_of_mem ha
            rw [hA1g] at hi
            split at hi
            · cases hi; exact List.mem_of_getElem? hAx
            · split at hi
              · cases hi; exact List.mem_of_getElem? hAy
              · exact List.mem_of_getElem? hi
          have hA1x : ((A.set x p).set (x + y) q)[x]? = some p := by
            rw [hA1g]
            split
            · rename_i e
              have : y = 0 := by omega
              subst this
              exact hAx.symm.trans hAy
            · rw [if_pos rfl]
          generalize (A.set x p).set (x + y) q = A1 at *
          clear hA1g g2' RA1 g2 g3 hr1
          walk_at "nx"
          refine RA2.len ?_
          rw [hA1l]
          walk_at "dl"
          rw [show ((x : Int) + 1) = ((x + 1 : Nat) : Int) by omega]
          refine ⟨by rw [small62_of (by omega) (by omega), small62_of (by omega) (by omega)]; rfl, ?_⟩
          rw [rngItems_from (x + 1) m (by omega)]
          refine forL_inv1 (e := fun (k : Nat) => D.int ((x + 1 + k : Nat) : Int)) (fun n e S' => Fr [] S S' ∧ (∃ A2, RL S' l A2 ∧ A2.length = m ∧ ∀ (i : Nat) (a : List Int), A1[i]? = some a → A2[i]? = some (if x < i ∧ i < x + 1 + n then combI x p a else a)) ∧ ∃ o4 o5 o6 o7 o8 o9, e = [some (.tup (rows.map dI)), some (.ref l), some (.int x), some (.int ((x + y : Nat) : Int)), o4, o5, o6, o7, o8, o9]) (fun _ _ _ _ => Gd_none) ?_ ?_ ?_
          · exact ⟨f5, ⟨A1, RA2, hA1l, fun i a h1 => by rw [if_neg (by omega)]; exact h1⟩, _, _, _, _, _, _, rfl⟩
          · rintro e S6 ⟨f6, ⟨A2, R6, h6l, h6⟩, o4, o5, o6, o7, o8, o9, rfl⟩
            rw [List.length_range] at h6
            have h6' : ∀ i a, x < i → A1[i]? = some a → A2[i]? = some (combI x p a) := fun i a h1 h2 => by
              have := h6 i a h2
              have h3 := (List.getElem?_eq_some_iff.mp h2).1
              rwa [if_pos (by omega)] at this
            have hA2 : ∀ a ∈ A2, ∃ b ∈ A, a = combI x p b ∨ a = b := fun a ha => by
              obtain ⟨i, hi⟩ := List.getElem?_of_mem ha
              have h3 := (List.getElem?_eq_some_iff.mp hi).1
              have h4 := h6 i A1[i] (List.getElem?_eq_getElem (by omega))
              rw [hi] at h4
              refine ⟨A1[i], hA1m _ (List.getElem_mem _), ?_⟩
              have := Option.some.inj h4
              split at this
              · exact .inl this
              · exact .inr this
            refine ⟨f6, ⟨A2, R6, h6l, fun a ha => ?_, fun a ha => ?_, hk2.trans (elim_ok hA1l h6l (fun a ha => hAl a (hA1m a ha)) hc hA1x cz h6')⟩, _, _, _, _, _, _, _, _, rfl⟩
            · obtain ⟨b, hb1, hb2⟩ := hA2 a ha
              have := hAl b hb1
              rcases hb2 with rfl | rfl
              · unfold combI; simp; omega
              · exact this
            · obtain ⟨b, hb2, hb3⟩ := hA2 a ha
              have hbl := hAl b hb2
              rcases hb3 with rfl | rfl
              · have := comb_bd (c := x) hb1 (hAb b hb2) (by omega) (by omega)
                intro z hz
                refine pow_le (this z hz) ?_
                rw [Nat.pow_succ]
                have : 0 < 2 ^ x := Nat.pow_pos (by decide)
                omega
              · intro z hz
                refine pow_le (hAb _ hb2 z hz) ?_
                rw [Nat.pow_succ]
                omega
          · rintro k z e S6 hz ⟨f6, ⟨A2, R6, h6l, h6⟩, o4, o5, o6, o7, o8, o9, rfl⟩
            have hkz : k < m - (x + 1) := by
              have := (List.getElem?_eq_some_iff.mp hz).1
              simpa using this
            have hzk : z = k := by
              rw [List.getElem?_range hkz] at hz
              exact (Option.some.inj hz).symm
            subst hzk
            have hi1 : A1[x + 1 + z]? = some A1[x + 1 + z] := List.getElem?_eq_getElem (by omega)
            generalize A1[x + 1 + z] = a at hi1
            have ha2 := h6 _ a hi1
            rw [if_neg (by omega)] at ha2
            have hp2 := h6 x p hA1x
            rw [if_neg (by omega)] at hp2
            have hal : a.length = m := hAl a (hA1m a (List.mem_of_getElem? hi1))
            have hab := hAb a (hA1m a (List.mem_of_getElem? hi1))
            have hE : 12 * 2 ^ x - 1 ≤ 8000 := by
              have : 2 ^ x ≤ 2 ^ 4 := Nat.pow_le_pow_right (by decide) (by omega)
              omega
            walk_at "dl"
            refine ⟨by decide, R6.ix ha2 fun r1 g1 n1 => ?_⟩
            rw [w_ixL g1 (atI_ints (by omega))]
            try walk_at "dl"
            refine ⟨by decide, ?_⟩
            walk_at "nx"
            refine R6.ix hp2 fun rp gp np => ?_
            rw [w_ixL gp (atI_ints (by omega))]
            try walk_at "dl"
            refine ⟨by decide, ?_⟩
            walk_at "nx"
            refine R6.ix ha2 fun r1 g1 n1 => ?_
            refine R6.ix hp2 fun rp gp np => ?_
            rw [w_zipL g1 gp]
            have ez : ((a.map D.int).zip (p.map D.int)).map (fun q => D.tup [q.1, q.2]) = (a.zip p).map fun q => D.tup [D.int q.1, D.int q.2] := by
              rw [List.zip_map, List.map_map]
              rfl
            dsimp only
            rw [ez]
            refine compL_tot (e := fun (q : Int × Int) => D.tup [D.int q.1, D.int q.2]) (fun q => D.int (q.1 * p.getD x 0 - q.2 * a.getD x 0)) (by rw [List.length_zip]; omega) (fun S' f => ⟨f.get _ _ (by simp) g1, f.get _ _ (by simp) gp⟩) (fun q hq S' f => ?_) fun S' f => ?_
            · have c1 := pow_le (hab q.1 (List.of_mem_zip hq).1) hE
              have c2 := pow_le (hb1 q.2 (List.of_mem_zip hq).2) hE
              have c3 := pow_le (hab _ (Dl.getD_mem (show x < a.length by omega))) hE
              have c4 := pow_le (hb1 _ (Dl.getD_mem (show x < p.length by omega))) hE
              walk_at "dl"
              exact ⟨by decide, by decide, fits_nat c1 _ c4, fits_nat c2 _ c3, .refl⟩
            · have e5 : (a.zip p).map (fun q => D.int (q.1 * p.getD x 0 - q.2 * a.getD x 0)) = (combI x p a).map .int := by
                unfold combI
                rw [List.map_zipWith, ← List.map_uncurry_zip_eq_zipWith]
                rfl
              rw [e5]
              have R7 := (R6.fr f).fr (Fr.new .refl (Ob.lst ((combI x p a).map .int)))
              have hnl : S'.length ≠ l := by
                obtain ⟨rs, q1, _⟩ := R6.fr f
                have := lt_of_get q1
                omega
              refine R7.put (by omega) get_new hnl fun u RN => ?_
              try walk_at "nx"
              refine ⟨((f6.trans f).new _).set _ (.inr hle), ⟨_, RN, by rw [List.length_set]; exact h6l, fun i b h1 => ?_⟩, _, _, _, _, _, _, rfl⟩
              have h2 := h6 i b h1
              by_cases e : i = x + 1 + z
              · subst e
                rw [hi1] at h1
                cases h1
                rw [List.getElem?_set_self (by omega), if_pos (by omega)]
              · rw [List.getElem?_set_ne (by omega), h2]
                congr 1
                by_cases c1 : x < i ∧ i < x + 1 + z
                · rw [if_pos c1, if_pos (by omega)]
                · rw [if_neg c1, if_neg (by omega)]
end K01
end

section
set_option Elab.async false
set_option linter.all false
set_option maxRecDepth 100000
set_option maxHeartbeats 1000000
set_option exponentiation.threshold 20000
namespace K01
open PySem PySem.Spec L2 Dl
local macro_rules | `(tactic| walk_at "dl") => `(tactic| simp (disch := first | assumption | exact get_new | (refine get_app ?_; first | assumption | exact get_new | (refine get_app ?_; first | assumption | exact get_new)) | (refine get_set ?_; assumption) | exact atI_0 | exact atI_1 | exact atI_2 | exact ok_lex | exact ok_degree | exact ok_back | exact ok_blocks | exact ok_weights) only [
  e_cB, e_fB, e_var, e_int, e_bl, e_non, e_str, e_glo, e_tup, e_lst, e_op, e_neg, e_not, e_and, e_or, e_cmp, e_chain, e_ite, e_ix, e_sl, e_rev, e_call, e_bi, e_me, e_isi, e_isis, e_comp, e_tupr, e_lstr, e_nil, e_cons, e_ono, e_oso, e_cno, e_cso, vt_and, vt_or, vt_not, vt_cmp, vt_chain, vt_var, vt_bl, vt_call, vt_bi, vt_isi, vt_isis, vi_seq, vi_rng1, vi_rng2, vi_zip, vg_nm, vg_tp, vg_ixs, gs_nil, gs_cons, x_asg, x_par, x_aug, x_expr, x_ret, x_retN, x_ite, x_for, x_whl, x_pass, x_brk, x_cnt, xs_nil, k_one, k_cons, k_rt, k_bk, k_ct, r_nx, r_rt, w_neg, w_tupr, w_lstr,
  TGs.len, wq_pure, List.getElem?_cons_zero, List.getElem?_cons_succ, List.set_cons_zero, List.set_cons_succ, List.length_cons, List.length_nil, List.length_map, if_true, Bool.false_eq_true, if_false, startE, List.map_cons, List.map_nil, List.replicate, List.cons_append, List.nil_append, wipeE, Nat.zero_add, Nat.reduceAdd, Nat.reduceSub, true_and,
  w_getL_ref, w_getS_ref, w_getL_ro, w_getS_ro, w_getS_tup, w_add, w_sub, w_mul, w_addT, w_addL, w_mulL, w_fdiv, w_mod, w_pow, w_shl, w_lt, w_le, w_gt, w_ge, w_ltT, w_gtT, w_eq, w_ne, w_isN, w_isnN, w_in, w_nin, w_trB, w_trN, w_trI, w_trT, w_trL, w_lenT, w_lenR, w_lenL, w_sumT, w_sumL, w_int, w_intB, w_tupL, w_listL, w_listT, w_append, w_pop, w_reverse, w_isL, w_revT, w_asInt, w_slR, w_srcT, w_srcR, w_srcL, w_rng, w_zipT, w_unpkT, w_unpkL, w_eqB, w_eqT, w_eqI, w_ixT, w_eqS, w_eqTS, Bool.not_true, Bool.not_false, decide_true, decide_false, wd_lex_lex, wd_lex_degree, wd_lex_back, wd_lex_blocks, wd_lex_weights, wd_degree_lex, wd_degree_degree, wd_degree_back, wd_degree_blocks, wd_degree_weights, wd_back_lex, wd_back_degree, wd_back_back, wd_back_blocks, wd_back_weights, wd_blocks_lex, wd_blocks_degree, wd_blocks_back, wd_blocks_blocks, wd_blocks_weights, wd_weights_lex, wd_weights_degree, wd_weights_back, wd_weights_blocks, wd_weights_weights])
local macro_rules | `(tactic| walk_at "nx") => `(tactic| (rw [k_nx]; try walk_at "dl"))
local macro_rules | `(tactic| walk_at "cj") => `(tactic| repeat refine And.intro (by first | decide | exact lens_of (by decide) | exact lens_of (by simp) | simp) ?_)
def rowD (a : List (Int × Int)) : D := .tup (a.map frD)
theorem bfs_fr : ∀ a : List (Int × Int), D.bfs (a.map frD) = true ∧ D.dps (a.map frD) ≤ 1
  | [] => ⟨rfl, by decide⟩
  | p :: a => by
    have := bfs_fr a
    rw [List.map_cons]
    simp only [frD, D.bfs, D.bf, D.dps, D.dp, Bool.true_and, Bool.and_self]
    exact ⟨this.1, by have := this.2; unfold frD at this; omega⟩
theorem map_frD_inj : ∀ {a b : List (Int × Int)}, a.map frD = b.map frD → a = b
  | [], [], _ => rfl
  | [], _ :: _, h => by simp at h
  | _ :: _, [], h => by simp at h
  | p :: a, q :: b, h => by
    simp only [List.map_cons, List.cons.injEq, frD, D.tup.injEq, D.int.injEq, and_true] at h
    rw [map_frD_inj h.2, show p = q from Prod.ext h.1.1 h.1.2]
theorem rows_py {S : Store} {l : Nat} {rs : List Nat} {L : List (List (Int × Int))} (h : RG frD S l rs L) : ∃ ps : List PyData, pysAt S (rs.map .ref) = some ps ∧ ps.length = L.length ∧ SeqAt.shaped (.list ps) = true ∧ ∀ (i : Nat) (a : List (Int × Int)) (p : PyData), L[i]? = some a → ps[i]? = some p → ∃ q, p = .list q ∧ pysOf (a.map frD) = some q := by
  obtain ⟨h1, h2, h3⟩ := h
  clear h1
  suffices ∃ ps : List PyData, pysAt S (rs.map .ref) = some ps ∧ ps.length = L.length ∧ (PyData.canLayAll0 ps = true ∧ PyData.depthAll ps ≤ 2) ∧ ∀ (i : Nat) (a : List (Int × Int)) (p : PyData), L[i]? = some a → ps[i]? = some p → ∃ q, p = .list q ∧ pysOf (a.map frD) = some q by
    obtain ⟨ps, a1, a2, a3, a4⟩ := this
    refine ⟨ps, a1, a2, ?_, a4⟩
    unfold SeqAt.shaped
    simp only [PyData.canLay0, a3.1, PyData.depth, Bool.true_and]
    exact decide_eq_true (by omega)
  induction rs generalizing L with
  | nil =>
    cases L with
    | nil => exact ⟨[], rfl, rfl, ⟨rfl, by decide⟩, fun i a p h => by simp at h⟩
    | cons _ _ => cases h2
  | cons r rs ih =>
    cases L with
    | nil => cases h2
    | cons a L =>
      obtain ⟨ps, a1, a2, a3, a4⟩ := ih (L := L) (Nat.succ.inj h2) (fun i r b q1 q2 => h3 (i + 1) r b (by simpa using q1) (by simpa using q2))
      obtain ⟨g1, _⟩ := h3 0 r a rfl rfl
      obtain ⟨q, b1, b2, b3⟩ := bfs_py _ (bfs_fr a).1
      have hp : pyAt S (.ref r) = some (.list q) := by
        simp only [pyAt, g1, b1, Option.map_some]
      refine ⟨.list q :: ps, ?_, by simp [a2], ⟨?_, ?_⟩, fun i b p e1 e2 => ?_⟩
      · simp only [List.map_cons, pysAt, hp, a1]
      · simp only [PyData.canLayAll0, PyData.canLay0, b2, a3.1, Bool.and_self]
      · simp only [PyData.depthAll, PyData.depth, b3]
        have := (bfs_fr a).2
        have := a3.2
        omega
      · cases i with
        | zero =>
          simp at e1 e2
          subst e1 e2
          exact ⟨q, rfl, b1⟩
        | succ i => exact a4 i b p (by simpa using e1) (by simpa using e2)
theorem row_eqv {a b : List (Int × Int)} {p q : List PyData} (h1 : pysOf (a.map frD) = some p) (h2 : pysOf (b.map frD) = some q) : PyData.eqv (.list p) (.list q) = decide (a = b) := by
  have := eqvs_bf _ _ p q (bfs_fr a).1 (bfs_fr b).1 h1 h2
  simp only [PyData.eqv, this]
  by_cases e : a = b
  · subst e; simp
  · rw [decide_eq_false e, decide_eq_false fun h => e (map_frD_inj h)]
theorem rg_ixr {S : Store} {l : Nat} {rs : List Nat} {L : List (List (Int × Int))} (h : RG frD S l rs L) {i r : Nat} {a : List (Int × Int)} (h1 : rs[i]? = some r) (h2 : L[i]? = some a) {k : Nat} (hk : k < a.length) {Q : D → Store → Prop} (q : Q (frD (a[k])) S) : wq (ixD (.ref r) (.int (k : Int))) Q S := by
  rw [w_ixL (h.2.2 i r a h1 h2).1 (atI_map (List.getElem?_eq_getElem hk))]
  exact q
theorem are_free_wq {n m : Nat} {rows : List (List Int)} {S : Store} {Q : D → Store → Prop} (hm : m ≤ 4) (hr : rows.length = m) (hl : ∀ a ∈ rows, a.length = m) (hb : BA 11 rows)
    (h : ∀ (b : Bool) S', (b = true ↔ ¬ KerQ m (remQ 0 rows)) → Fr [] S S' → Q (.bl b) S') : wq (call gl fds (n + 4) f__law_are_free [.tup (rows.map dI)]) Q S := by
  rw [wq_call (fd := d__law_are_free) rfl rfl]
  dsimp only [d__law_are_free]
  unfold b__law_are_free
  walk_at "dl"
  refine compL_alloc (e := dI) (fun a => a.map fun x => frD (x, 1)) (by omega) (fun _ _ => Gd_none) (fun a ha S' f => ?_) fun rs S1 hrs hrows f => ?_
  · unfold dI
    walk_at "dl"
    refine ⟨by decide, ?_⟩
    refine compL_tot (e := D.int) (fun x => frD (x, 1)) (by rw [hl a ha]; omega) (fun _ _ => Gd_none) (fun x hx S2 f2 => ?_) fun S2 f2 => ?_
    · walk_at "dl"
      exact ⟨by decide, lens_of (by decide), rfl, .refl⟩
    · exact ⟨_, rfl, f2.le, get_new, f2.new _⟩
  · walk_at "cj"
    have R0 : RG frD (S1 ++ [Ob.lst (rs.map .ref)]) S1.length rs (rows.map fun a => a.map fun x => (x, (1 : Int))) := ⟨get_new, by simpa using hrs, fun i r b e1 e2 => by
      rw [List.getElem?_map] at e2
      cases e3 : rows[i]? with
      | none => rw [e3] at e2; cases e2
      | some a =>
        rw [e3] at e2
        cases e2
        obtain ⟨q1, q2⟩ := hrows i r a e1 e3
        refine ⟨?_, Nat.ne_of_lt (lt_of_get q1)⟩
        rw [List.map_map]
        exact get_app q1⟩
    have f1 : Fr [] S (S1 ++ [Ob.lst (rs.map .ref)]) := f.new _
    have hle : S.length ≤ S1.length := f.le
    have hK : KerQ m (remQ 0 rows) ↔ KerQ (m - 0) (remG valF 0 (rows.map fun a => a.map fun x => (x, (1 : Int)))) := by
      have : remG valF 0 (rows.map fun a => a.map fun x => (x, (1 : Int))) = remQ 0 rows := by
        unfold remG remQ toQ
        rw [List.map_map, List.drop_zero]
        refine List.map_congr_left fun a _ => ?_
        simp only [Function.comp, List.drop_zero, List.map_map]
        refine List.map_congr_left fun x _ => ?_
        simp only [Function.comp, valF]
        grind
      rw [this, Nat.sub_zero]
    have hG : ∀ a ∈ rows.map fun a => a.map fun x => (x, (1 : Int)), a.length = m ∧ ∀ p ∈ a, GoodF (12 * 4 ^ 0 - 1) p := fun a ha => by
      obtain ⟨b, hb1, rfl⟩ := List.mem_map.mp ha
      refine ⟨by rw [List.length_map]; exact hl b hb1, fun p hp => ?_⟩
      obtain ⟨x, hx, rfl⟩ := List.mem_map.mp hp
      exact ⟨hb b hb1 x hx, by show (0 : Int) < 1; decide, by show (1 : Int).natAbs < _; decide⟩
    have hL0 : (rows.map fun a => a.map fun x => (x, (1 : Int))).length = m - 0 := by simpa using hr
    generalize rows.map (fun a => a.map fun x => (x, (1 : Int))) = L0 at *
    clear hrows hrs f
    generalize S1.length = l0 at *
    generalize S1 ++ [Ob.lst (rs.map .ref)] = S2 at *
    walk_at "nx"
    rw [hr]
    refine ⟨small_rng (by omega), ?_⟩
    rw [rngItems_nat]
    refine forL_inv1 (e := fun (k : Nat) => D.int (k : Int)) (fun k e S' => Fr [] S S' ∧ (∃ (l : Nat) (rs : List Nat) (L : List (List (Int × Int))), RG frD S' l rs L ∧ S.length ≤ l ∧ L.length = m - k ∧ (∀ a ∈ L, a.length = m ∧ ∀ p ∈ a, GoodF (12 * 4 ^ k - 1) p) ∧ (KerQ m (remQ 0 rows) ↔ KerQ (m - k) (remG valF k L)) ∧ ∃ o2 o3 o4 o5 o6 o7 o8, e = [some (.tup (rows.map dI)), some (.ref l), o2, o3, o4, o5, o6, o7, o8])) (fun _ _ _ _ => Gd_none) ?_ ?_ ?_
    · exact ⟨f1, l0, rs, L0, R0, hle, hL0, hG, hK, _, _, _, _, _, _, _, rfl⟩
    · rintro e S3 ⟨f3, l, rs, L, RL_, hle, hLl, hLa, hk, o2, o3, o4, o5, o6, o7, o8, rfl⟩
      walk_at "nx"
      refine h true S3 ?_ f3
      rw [List.length_range, Nat.sub_self] at hk
      rw [hk]
      simp [ker_zero]
    · clear R0 hG hK hL0 f1 hle
      rintro k x e S3 hx ⟨f3, l, rs, L, RL_, hle, hLl, hLa, hk, o2, o3, o4, o5, o6, o7, o8, rfl⟩
      have hc : k < m := by
        have := (List.getElem?_eq_some_iff.mp hx).1
        simpa using this
      have hxc : x = k := by
        rw [List.getElem?_range hc] at hx
        exact (Option.some.inj hx).symm
      subst hxc
      have gl3 := RL_.1
      walk_at "dl"
      refine ⟨by decide, ?_⟩
      have ez : rs.map D.ref = (rs.zip L).map fun q => D.ref q.1 := by
        rw [show (fun q : Nat × List (Int × Int) => D.ref q.1) = D.ref ∘ Prod.fst from rfl, ← List.map_map, List.map_fst_zip (by rw [RL_.2.1]; exact Nat.le_refl _)]
      rw [ez]
      refine compL_filt (e := fun (q : Nat × List (Int × Int)) => D.ref q.1) (fun q => if (decide ((q.2.getD x (0, 0)).1 ≠ 0)) = true then some (.ref q.1) else none) (by rw [List.length_zip]; omega) (fun S' f => ⟨?_, trivial⟩) (fun q hq S' f => ?_) fun S4 f4 => ?_
      · have := f.get _ _ (by simp) gl3
        rw [ez] at this
        exact this
      · obtain ⟨i, hi⟩ := List.getElem?_of_mem hq
        rw [List.getElem?_zip_eq_some] at hi
        have ha := hLa q.2 (List.mem_of_getElem? hi.2)
        have R' := RL_.fr f
        walk_at "dl"
        refine ⟨by decide, rg_ixr R' hi.1 hi.2 (show x < q.2.length by omega) ?_⟩
        have hxl : x < q.2.length := by omega
        have eg : q.2.getD x (0, 0) = q.2[x]'hxl := by
          rw [List.getD_eq_getElem?_getD, List.getElem?_eq_getElem (show x < q.2.length by omega)]
          rfl
        rw [eg]
        generalize q.2[x]'hxl = p
        unfold frD
        rw [w_ixT atI_0, w_eqI]
        by_cases c : p.1 = 0
        · rw [if_neg (by simpa using c), if_neg (by simpa using c)]
          exact ⟨rfl, .refl⟩
        · rw [if_pos (by simpa using c), if_pos (by simpa using c)]
          exact ⟨rfl, .refl⟩
      · rw [w_slL get_new, cut1]
        refine ⟨by decide, ?_⟩
        rcases first_of (fun q : Nat × List (Int × Int) => decide ((q.2.getD x (0, 0)).1 ≠ 0)) (fun q => D.ref q.1) (rs.zip L) with ⟨e1, e2⟩ | ⟨i, q, t, e1, e2, e3, e4⟩
        · rw [e1]
          walk_at "nx"
          try rw [if_pos (by decide)]
          try walk_at "dl"
          refine h false _ ?_ (((f3.trans f4).new _).new _)
          have : KerQ (m - x) (remG valF x L) := by
            rw [show m - x = (m - (x + 1)) + 1 by omega]
            refine noneG fun a ha => ?_
            obtain ⟨i, hi⟩ := List.getElem?_of_mem ha
            have hal := (hLa a ha).1
            have hil := (List.getElem?_eq_some_iff.mp hi).1
            have hz : (rs[i]'(by rw [RL_.2.1]; exact hil), a) ∈ rs.zip L := List.mem_of_getElem? (i := i) (by rw [List.getElem?_zip_eq_some]; exact ⟨List.getElem?_eq_getElem _, hi⟩)
            have h0 := e2 _ hz
            have ax : a[x]? = some a[x] := List.getElem?_eq_getElem (by omega)
            refine ⟨_, ax, (valF_zero ((hLa a ha).2 _ (List.getElem_mem _))).mpr ?_⟩
            try dsimp only at h0
            rw [List.getD_eq_getElem?_getD, ax] at h0
            simpa using h0
          rw [hk]
          simp [this]
        · rw [e3]
          rw [List.getElem?_zip_eq_some] at e1
          have hil := (List.getElem?_eq_some_iff.mp e1.2).1
          obtain ⟨hpl, hpg⟩ := hLa q.2 (List.mem_of_getElem? e1.2)
          have hxl : x < q.2.length := by omega
          have hpx : q.2[x]? = some (q.2[x]'hxl) := List.getElem?_eq_getElem (by omega)
          have hx0 : (q.2[x]'hxl).1 ≠ 0 := by
            try dsimp only at e2
            rw [List.getD_eq_getElem?_getD, hpx] at e2
            simpa using e2
          have hpd : q.2.getD x (0, 0) = q.2[x]'hxl := by rw [List.getD_eq_getElem?_getD, hpx]; rfl
          simp only [List.take_succ_cons, List.take_zero]
          have R5 := (RL_.fr (f4.new (.lst (D.ref q.1 :: t)))).fr (Fr.new .refl (.lst [D.ref q.1]))
          have gs : (S4 ++ [Ob.lst (D.ref q.1 :: t)] ++ [Ob.lst [D.ref q.1]])[(S4 ++ [Ob.lst (D.ref q.1 :: t)]).length]? = some (.lst [.ref q.1]) := get_new
          have f5 : Fr [] S (S4 ++ [Ob.lst (D.ref q.1 :: t)] ++ [Ob.lst [D.ref q.1]]) := ((f3.trans f4).new _).new _
          have hsl : (S4 ++ [Ob.lst (D.ref q.1 :: t)]).length ≠ l := by
            have := lt_of_get (RL_.fr (f4.new (.lst (D.ref q.1 :: t)))).1
            omega
          generalize (S4 ++ [Ob.lst (D.ref q.1 :: t)]).length = sm at *
          generalize S4 ++ [Ob.lst (D.ref q.1 :: t)] ++ [Ob.lst [D.ref q.1]] = S5 at *
          walk_at "nx"
          try rw [if_neg (by decide)]
          walk_at "nx"
          rw [w_isL R5.1, w_ixL gs atI_0]
          obtain ⟨gq, hql⟩ := R5.2.2 i q.1 q.2 e1.1 e1.2
          obtain ⟨ps, hps1, hps2, hps3, hps4⟩ := rows_py R5
          obtain ⟨pq, hpq1, hpq2, hpq3⟩ := bfs_py _ (bfs_fr q.2).1
          have hpy : pyAt S5 (.ref q.1) = some (.list pq) := by simp only [pyAt, gq, hpq1, Option.map_some]
          have hsh : SeqAt.shaped (.list pq) = true := by
            unfold SeqAt.shaped
            simp only [PyData.canLay0, hpq2, PyData.depth, Bool.true_and, hpq3]
            have := (bfs_fr q.2).2
            exact decide_eq_true (by omega)
          have hps5 : ∀ (j : Nat) (hj : j < ps.length), PyData.eqv ps[j] (.list pq) = decide (L[j]'(by omega) = q.2) := fun j hj => by
            obtain ⟨qj, k1, k2⟩ := hps4 j (L[j]'(by omega)) ps[j] (List.getElem?_eq_getElem _) (List.getElem?_eq_getElem _)
            rw [k1, row_eqv k2 hpq1]
          have hidx : (ps.findIdx? fun z => PyData.eqv z (.list pq)) = some i := by
            rw [List.findIdx?_eq_some_iff_getElem]
            refine ⟨by omega, ?_, fun j hj => ?_⟩
            · rw [hps5 i (by omega)]
              rw [List.getElem?_eq_getElem hil] at e1
              exact decide_eq_true (Option.some.inj e1.2)
            · rw [hps5 j (by omega)]
              have hjl : j < L.length := by omega
              have h0 := e4 j (rs[j]'(by rw [RL_.2.1]; exact hjl), L[j]) hj (by rw [List.getElem?_zip_eq_some]; exact ⟨List.getElem?_eq_getElem _, List.getElem?_eq_getElem _⟩)
              intro he
              have he := of_decide_eq_true he
              try dsimp only at h0
              rw [he, hpd] at h0
              simp [hx0] at h0
          refine w_remove R5.1 hps1 hpy hps3 hsh hidx ?_
          have R6 := R5.erase hil
          have f6 : Fr [] S (S5.set l (.lst ((rs.map .ref).eraseIdx i))) := f5.set _ (.inr hle)
          have gs6 : (S5.set l (.lst ((rs.map .ref).eraseIdx i)))[sm]? = some (.lst [.ref q.1]) := by rw [List.getElem?_set_ne (by omega)]; exact gs
          have gq6 : (S5.set l (.lst ((rs.map .ref).eraseIdx i)))[q.1]? = some (.lst (q.2.map frD)) := by rw [List.getElem?_set_ne (by omega)]; exact gq
          have hl6 : ∀ a ∈ L.eraseIdx i, a ∈ L := fun a ha => List.mem_of_mem_eraseIdx ha
          have hLe : (L.eraseIdx i).length = m - (x + 1) := by rw [List.length_eraseIdx_of_lt hil]; omega
          have hker := fun (A2 : List (List (Int × Int))) => elimG (v := valF) (m := m) (c := x) (i := i) (A := L) (A2 := A2) (p := q.2) (x := q.2[x]'hxl) (fun a ha => (hLa a ha).1) hc e1.2 hpx (fun e => hx0 ((valF_zero (hpg _ (List.getElem_mem _))).mp e))
          generalize S5.set l (.lst ((rs.map .ref).eraseIdx i)) = S6 at *
          have hlt6 : l < S6.length := lt_of_get R6.1
          generalize rs.eraseIdx i = rs' at *
          have hgx := hpg _ (List.getElem_mem (l := q.2) (n := x) (by omega))
          have hE : 12 * 4 ^ x - 1 ≤ 767 ∧ 4 * (12 * 4 ^ x - 1) + 1 ≤ 12 * 4 ^ (x + 1) - 1 := by
            have : 4 ^ x ≤ 4 ^ 3 := Nat.pow_le_pow_right (by decide) (by omega)
            have : 0 < 4 ^ x := Nat.pow_pos (by decide)
            rw [Nat.pow_succ]
            omega
          generalize hEE : 12 * 4 ^ x - 1 = E at *
          walk_at "nx"
          walk_at "cj"
          have RF : RG frD (S6 ++ [Ob.lst []]) S6.length [] [] := ⟨get_new, rfl, fun i r a h => by simp at h⟩
          have f7 : Fr [] S6 (S6 ++ [Ob.lst []]) := Fr.new .refl _
          have hfl : S6.length ≠ l := by omega
          have hfd : S6.length ≤ S6.length := Nat.le_refl _
          generalize S6 ++ [Ob.lst []] = S7 at *
          generalize hfd0 : S6.length = fd at *
          have R7 := R6.fr f7
          walk_at "nx"
          rw [w_srcL R7.1]
          dsimp only
          have ez2 : rs'.map D.ref = (rs'.zip (L.eraseIdx i)).map fun q => D.ref q.1 := by
            rw [show (fun q : Nat × List (Int × Int) => D.ref q.1) = D.ref ∘ Prod.fst from rfl, ← List.map_map, List.map_fst_zip (by rw [R6.2.1]; exact Nat.le_refl _)]
          have hgd : ∀ S', Fr [] S6 S' → (Src.mk (rs'.map D.ref) (some (l, rs'.map D.ref)) none).Gd S' := fun S' f => Gd_ref (f.get _ _ (by simp) R6.1)
          generalize hsrc : (Src.mk (rs'.map D.ref) (some (l, rs'.map D.ref)) none) = src at *
          rw [ez2]
          refine forL_gen (e := fun (q : Nat × List (Int × Int)) => D.ref q.1) (fun done rest e S' => Fr [] S6 S' ∧ (∃ (frs : List Nat) (fL : List (List (Int × Int))), RG frD S' fd frs fL ∧ fL.length = done.length ∧ ∀ (j : Nat) (z : Nat × List (Int × Int)) (b : List (Int × Int)), done[j]? = some z → fL[j]? = some b → b.length = m ∧ (∀ p ∈ b, GoodF (12 * 4 ^ (x + 1) - 1) p) ∧ ∀ (k : Nat) (y zz w u : Int × Int), z.2[k]? = some y → b[k]? = some zz → q.2[k]? = some w → z.2[x]? = some u → valF zz = valF y - valF u / valF (q.2[x]'hxl) * valF w) ∧ ∃ o5 o6 o7 o8, e = [some (.tup (rows.map dI)), some (.ref l), some (.int x), some (.ref sm), some (.ref fd), o5, o6, o7, o8]) (fun _ _ _ S' k => hgd S' k.1) ?_ ?_ ?_
          · exact ⟨f7, ⟨[], [], RF, rfl, fun j z b h => by simp at h⟩, _, _, _, _, rfl⟩
          · rintro e S8 ⟨f8, ⟨frs, fL, R8, h8l, h8⟩, o5, o6, o7, o8, rfl⟩
            walk_at "nx"
            have hzl : (rs'.zip (L.eraseIdx i)).length = (L.eraseIdx i).length := by rw [List.length_zip, R6.2.1, Nat.min_self]
            have hrow : ∀ (j : Nat) (a b : List (Int × Int)), (L.eraseIdx i)[j]? = some a → fL[j]? = some b → b.length = m ∧ (∀ p ∈ b, GoodF (12 * 4 ^ (x + 1) - 1) p) ∧ ∀ (k : Nat) (y zz w u : Int × Int), a[k]? = some y → b[k]? = some zz → q.2[k]? = some w → a[x]? = some u → valF zz = valF y - valF u / valF (q.2[x]'hxl) * valF w := fun j a b k1 k2 => by
              have hj := (List.getElem?_eq_some_iff.mp k1).1
              exact h8 j (rs'[j]'(by rw [R6.2.1]; exact hj), a) b (by rw [List.getElem?_zip_eq_some]; exact ⟨List.getElem?_eq_getElem _, k1⟩) k2
            walk_at "cj"
            try walk_at "nx"
            refine ⟨f6.trans f8, fd, frs, fL, R8, by have := f6.le; omega, by omega, fun b hb => ?_, hk.trans (hker fL (by omega) fun j a b k1 k2 => ⟨(hrow j a b k1 k2).1, (hrow j a b k1 k2).2.2⟩), _, _, _, _, _, _, _, rfl⟩
            obtain ⟨j, hj⟩ := List.getElem?_of_mem hb
            have hj2 := (List.getElem?_eq_some_iff.mp hj).1
            have := hrow j ((L.eraseIdx i)[j]'(by omega)) b (List.getElem?_eq_getElem _) hj
            exact ⟨this.1, this.2.1⟩
          · rintro done z rest e S8 hd ⟨f8, ⟨frs, fL, R8, h8l, h8⟩, o5, o6, o7, o8, rfl⟩
            have hzm : z ∈ rs'.zip (L.eraseIdx i) := by rw [hd]; simp
            obtain ⟨j0, hj0⟩ := List.getElem?_of_mem hzm
            rw [List.getElem?_zip_eq_some] at hj0
            obtain ⟨hzl, hzg⟩ := hLa z.2 (hl6 _ (List.mem_of_getElem? hj0.2))
            have hzx : x < z.2.length := by omega
            have R9 := R6.fr f8
            have gs9 := f8.get _ _ (by simp) gs6
            have gq9 := f8.get _ _ (by simp) gq6
            have hdl : done.length ≤ 4 := by
              have h1 : (rs'.zip (L.eraseIdx i)).length = done.length + (rest.length + 1) := by rw [hd]; simp
              rw [List.length_zip, R6.2.1, Nat.min_self] at h1
              omega
            walk_at "dl"
            refine ⟨by decide, rg_ixr R9 hj0.1 hj0.2 hzx ?_⟩
            rw [w_ixL gs9 atI_0]
            rw [w_ixL gq9 (atI_map (List.getElem?_eq_getElem hxl))]
            refine quotient_wq (hzg _ (List.getElem_mem _)) hgx hx0 (by omega) fun part pg pv => ?_
            try walk_at "dl"
            walk_at "cj"
            walk_at "nx"
            rw [w_isL R8.1, w_lenL (R9.2.2 j0 z.1 z.2 hj0.1 hj0.2).1, List.length_map, hzl]
            walk_at "dl"
            refine ⟨small_rng (by omega), ?_⟩
            rw [rngItems_nat]
            refine compL_rel (e := fun (k : Nat) => D.int (k : Int)) (e2 := frD) (R := fun k b => GoodF (4 * E + 1) b ∧ ∀ (y w : Int × Int), z.2[k]? = some y → q.2[k]? = some w → valF b = valF y - valF part * valF w) (by simp; omega) (fun _ _ => Gd_none) (fun k hk2 S9 f9 => ?_) fun ys S9 hy1 hy2 f9 => ?_
            · have hk2 := List.mem_range.mp hk2
              have hkz : k < z.2.length := by omega
              have hkq : k < q.2.length := by omega
              walk_at "dl"
              refine ⟨by decide, rg_ixr (R9.fr f9) hj0.1 hj0.2 hkz ?_⟩
              rw [w_ixL (f9.get _ _ (by simp) gs9) atI_0]
              rw [w_ixL (f9.get _ _ (by simp) gq9) (atI_map (List.getElem?_eq_getElem hkq))]
              refine product_wq pg (hpg _ (List.getElem_mem _)) (by omega) fun pr prg prv => ?_
              try walk_at "dl"
              refine minus_wq (hzg _ (List.getElem_mem _)) prg (by omega) fun mn mng mnv => ?_
              refine ⟨⟨mn, rfl, mng.mono (by omega), fun y w e5 e6 => ?_⟩, .refl⟩
              rw [List.getElem?_eq_getElem hkz] at e5
              rw [List.getElem?_eq_getElem hkq] at e6
              cases e5
              cases e6
              rw [mnv, prv]
            · rw [List.length_range] at hy1
              have hrel : ∀ (k : Nat) (b : Int × Int), ys[k]? = some b → GoodF (4 * E + 1) b ∧ ∀ (y w : Int × Int), z.2[k]? = some y → q.2[k]? = some w → valF b = valF y - valF part * valF w := fun k b e5 => by
                have hkl := (List.getElem?_eq_some_iff.mp e5).1
                have := hy2 (k, b) (List.mem_of_getElem? (i := k) (by rw [List.getElem?_zip_eq_some]; exact ⟨by rw [List.getElem?_range (by omega)], e5⟩))
                exact this
              have R10 := (R8.fr f9).fr (Fr.new .refl (.lst (ys.map frD)))
              have hnew : S9.length ≠ fd := by
                have := lt_of_get (R8.fr f9).1
                omega
              have RP := R10.push (a := ys) get_new hnew
              try walk_at "dl"
              rw [w_append R10.1]
              refine ⟨?_, ?_⟩
              · rw [List.length_map, R10.2.1, h8l]
                exact Nat.lt_of_le_of_lt hdl (by decide)
              walk_at "nx"
              refine ⟨((f8.trans f9).new _).set _ (.inr (by omega)), ⟨_, _, RP, by simp [h8l], fun j zz b e5 e6 => ?_⟩, _, _, _, _, rfl⟩
              by_cases c : j < done.length
              · rw [List.getElem?_append_left c] at e5
                rw [List.getElem?_append_left (by omega)] at e6
                exact h8 j zz b e5 e6
              · rw [List.getElem?_append_right (by omega)] at e5
                rw [List.getElem?_append_right (by omega)] at e6
                have hj0' : j - done.length = 0 := by
                  cases e : j - done.length with
                  | zero => rfl
                  | succ k => rw [e] at e5; simp at e5
                rw [hj0'] at e5
                rw [show j - fL.length = 0 by omega] at e6
                simp at e5 e6
                subst e5 e6
                refine ⟨hy1, fun p hp => ?_, fun k y z2 w u g1 g2 g3 g4 => ?_⟩
                · obtain ⟨k, hk3⟩ := List.getElem?_of_mem hp
                  exact (hrel k p hk3).1.mono hE.2
                · rw [(hrel k z2 g2).2 y w g1 g3, pv]
                  rw [List.getElem?_eq_getElem hzx] at g4
                  cases g4
                  rfl
end K01
end

section
set_option Elab.async false
set_option linter.all false
set_option maxRecDepth 100000
set_option maxHeartbeats 1000000
set_option exponentiation.threshold 20000
namespace K01
open PySem PySem.Spec L2 Dl
local macro_rules | `(tactic| walk_at "dl") => `(tactic| simp (disch := first | assumption | exact get_new | (refine get_app ?_; first | assumption | exact get_new | (refine get_app ?_; first | assumption | exact get_new)) | (refine get_set ?_; assumption) | exact atI_0 | exact atI_1 | exact atI_2 | exact ok_lex | exact ok_degree | exact ok_back | exact ok_blocks | exact ok_weights) only [
  e_cB, e_fB, e_var, e_int, e_bl, e_non, e_str, e_glo, e_tup, e_lst, e_op, e_neg, e_not, e_and, e_or, e_cmp, e_chain, e_ite, e_ix, e_sl, e_rev, e_call, e_bi, e_me, e_isi, e_isis, e_comp, e_tupr, e_lstr, e_nil, e_cons, e_ono, e_oso, e_cno, e_cso, vt_and, vt_or, vt_not, vt_cmp, vt_chain, vt_var, vt_bl, vt_call, vt_bi, vt_isi, vt_isis, vi_seq, vi_rng1, vi_rng2, vi_zip, vg_nm, vg_tp, vg_ixs, gs_nil, gs_cons, x_asg, x_par, x_aug, x_expr, x_ret, x_retN, x_ite, x_for, x_whl, x_pass, x_brk, x_cnt, xs_nil, k_one, k_cons, k_rt, k_bk, k_ct, r_nx, r_rt, w_neg, w_tupr, w_lstr,
  TGs.len, wq_pure, List.getElem?_cons_zero, List.getElem?_cons_succ, List.set_cons_zero, List.set_cons_succ, List.length_cons, List.length_nil, List.length_map, if_true, Bool.false_eq_true, if_false, startE, List.map_cons, List.map_nil, List.replicate, List.cons_append, List.nil_append, wipeE, Nat.zero_add, Nat.reduceAdd, Nat.reduceSub, true_and,
  w_getL_ref, w_getS_ref, w_getL_ro, w_getS_ro, w_getS_tup, w_add, w_sub, w_mul, w_addT, w_addL, w_mulL, w_fdiv, w_mod, w_pow, w_shl, w_lt, w_le, w_gt, w_ge, w_ltT, w_gtT, w_eq, w_ne, w_isN, w_isnN, w_in, w_nin, w_trB, w_trN, w_trI, w_trT, w_trL, w_lenT, w_lenR, w_lenL, w_sumT, w_sumL, w_int, w_intB, w_tupL, w_listL, w_listT, w_append, w_pop, w_reverse, w_isL, w_revT, w_asInt, w_slR, w_srcT, w_srcR, w_srcL, w_rng, w_zipT, w_unpkT, w_unpkL, w_eqB, w_eqT, w_eqI, w_ixT, w_eqS, w_eqTS, Bool.not_true, Bool.not_false, decide_true, decide_false, wd_lex_lex, wd_lex_degree, wd_lex_back, wd_lex_blocks, wd_lex_weights, wd_degree_lex, wd_degree_degree, wd_degree_back, wd_degree_blocks, wd_degree_weights, wd_back_lex, wd_back_degree, wd_back_back, wd_back_blocks, wd_back_weights, wd_blocks_lex, wd_blocks_degree, wd_blocks_back, wd_blocks_blocks, wd_blocks_weights, wd_weights_lex, wd_weights_degree, wd_weights_back, wd_weights_blocks, wd_weights_weights])
local macro_rules | `(tactic| walk_at "nx") => `(tactic| (rw [k_nx]; try walk_at "dl"))
local macro_rules | `(tactic| walk_at "cj") => `(tactic| repeat refine And.intro (by first | decide | exact lens_of (by decide) | exact lens_of (by simp) | simp) ?_)
def WD : List Str := ["lex", "degree", "back", "", "Lex", "lexx", "blocks", "weights", "a", "in", "out", "within", "first", "weightsa", "eights"]
theorem WD_ok : ∀ x ∈ WD, PyData.canLay0 (.str x) = true := by decide +kernel
abbrev PL (n : Nat) (d : D) : Prop := pl WD 1000 100 n d = true
theorem PL.bf {n : Nat} {d : D} (h : PL n d) (hn : n ≤ 60) : d.bf = true ∧ d.dp ≤ 60 := ⟨(pl_bf WD_ok n d h).1, Nat.le_trans (pl_bf WD_ok n d h).2 hn⟩
def isIx (m : Nat) : D → Bool
  | .int i => decide (0 ≤ i) && decide (i < (m : Int))
  | _ => false
def isIn : D → Bool
  | .int _ => true
  | _ => false
theorem isIx_all {m : Nat} : ∀ {ds : List D}, (ds.map (isIx m)).all id = true → ∃ ns : List Int, ds = ns.map .int ∧ ∀ x ∈ ns, 0 ≤ x ∧ x < (m : Int)
  | [], _ => ⟨[], rfl, fun x h => by cases h⟩
  | d :: ds, h => by
    simp only [List.map_cons, List.all_cons, id_eq, Bool.and_eq_true] at h
    obtain ⟨ns, e, hn⟩ := isIx_all h.2
    cases d with
    | int i =>
      have h1 := h.1
      simp only [isIx, Bool.and_eq_true, decide_eq_true_eq] at h1
      exact ⟨i :: ns, by rw [e]; rfl, fun x hx => by
        rcases List.mem_cons.mp hx with rfl | hx
        · exact h1
        · exact hn x hx⟩
    | _ => simp [isIx] at h
theorem isIx_of {m : Nat} {ns : List Int} (h : ∀ x ∈ ns, 0 ≤ x ∧ x < (m : Int)) : ((ns.map D.int).map (isIx m)).all id = true := by
  rw [List.all_eq_true]
  intro b hb
  rw [List.map_map] at hb
  obtain ⟨x, hx, rfl⟩ := List.mem_map.mp hb
  have := h x hx
  simp [isIx, this]
theorem isIn_all : ∀ {ds : List D}, (ds.map isIn).all id = true → ∃ ns : List Int, ds = ns.map .int
  | [], _ => ⟨[], rfl⟩
  | d :: ds, h => by
    simp only [List.map_cons, List.all_cons, id_eq, Bool.and_eq_true] at h
    obtain ⟨ns, e⟩ := isIn_all h.2
    cases d with
    | int i => exact ⟨i :: ns, by rw [e]; rfl⟩
    | _ => simp [isIn] at h
theorem isIn_of (ns : List Int) : ((ns.map D.int).map isIn).all id = true := by
  rw [List.all_eq_true]
  intro b hb
  rw [List.map_map] at hb
  obtain ⟨x, hx, rfl⟩ := List.mem_map.mp hb
  rfl
def idxP (m : Nat) (d : D) : Prop := ∃ ns : List Int, d = .tup (ns.map .int) ∧ (∀ x ∈ ns, 0 ≤ x ∧ x < (m : Int)) ∧ ∀ k, k < ns.length - 1 → ns.getD k 0 < ns.getD (k + 1) 0
theorem inc_all (ns : List Int) : ((List.range (ns.length - 1)).map fun k => decide (ns.getD k 0 < ns.getD (k + 1) 0)).all id = true ↔ ∀ k, k < ns.length - 1 → ns.getD k 0 < ns.getD (k + 1) 0 := by
  rw [List.all_eq_true]
  constructor
  · intro h k hk
    exact of_decide_eq_true (h _ (List.mem_map.mpr ⟨k, List.mem_range.mpr hk, rfl⟩))
  · intro h b hb
    obtain ⟨k, hk, rfl⟩ := List.mem_map.mp hb
    exact decide_eq_true (h k (List.mem_range.mp hk))
theorem bl_map {α : Type} (f : α → Bool) (xs : List α) : xs.map (fun x => D.bl (f x)) = (xs.map f).map .bl := by rw [List.map_map]; rfl
theorem tup_inj {ns ms : List Int} (h : D.tup (ns.map .int) = .tup (ms.map .int)) : ns = ms := by
  simpa [D.tup.injEq, map_int_inj] using h
theorem are_indexes_wq {n m k : Nat} {d : D} {S : Store} {Q : D → Store → Prop} (hd : PL k d) (hm : m ≤ 4) (h : ∀ (b : Bool) S', (b = true ↔ idxP m d) → Fr [] S S' → Q (.bl b) S') : wq (call gl fds (n + 1) f_are_indexes [d, .int m]) Q S := by
  rw [wq_call (fd := d_are_indexes) rfl rfl]
  dsimp only [d_are_indexes]
  unfold b_are_indexes
  have nt : (∀ ds, d ≠ .tup ds) → (false = true ↔ idxP m d) := fun hn => ⟨fun h => (by cases h), fun ⟨ns, e, _⟩ => absurd e (hn _)⟩
  walk_at "dl"
  cases d with
  | tup ds =>
    obtain ⟨hl, hds⟩ := pl_tup hd
    rw [w_isi (b := true) rfl]
    walk_at "dl"
    refine compL_each (fun d => .bl (isIx m d)) (by omega) (fun _ _ => Gd_none) (fun d hd S' f => ?_) fun S1 f1 => ?_
    · have hpd := hds d hd
      walk_at "dl"
      refine ⟨by decide, ?_⟩
      cases d with
      | int i =>
        rw [w_isi (b := true) rfl]
        walk_at "dl"
        by_cases c : 0 ≤ i
        · rw [if_pos (decide_eq_true c)]
          exact ⟨by simp [isIx, c], .refl⟩
        · rw [if_neg (by simpa using c)]
          exact ⟨by simp [isIx, c], .refl⟩
      | non => rw [w_isi (b := false) rfl]; walk_at "dl"; exact ⟨rfl, .refl⟩
      | str x => rw [w_isi (b := false) rfl]; walk_at "dl"; exact ⟨rfl, .refl⟩
      | tup es => rw [w_isi (b := false) rfl]; walk_at "dl"; exact ⟨rfl, .refl⟩
      | bl b => cases k - 1 <;> simp [pl] at hpd
      | ref b => cases k - 1 <;> simp [pl] at hpd
      | ro b => cases k - 1 <;> simp [pl] at hpd
    · rw [bl_map, w_allL get_new]
      try walk_at "dl"
      cases hall : (ds.map (isIx m)).all id with
      | false =>
        try rw [if_pos (by rfl)]
        try walk_at "dl"
        refine h false _ ⟨fun h => (by cases h), fun ⟨ns, e, h1, _⟩ => ?_⟩ (f1.new _)
        cases e
        rw [isIx_of h1] at hall
        cases hall
      | true =>
        try rw [if_neg (by decide)]
        obtain ⟨ns, rfl, hns⟩ := isIx_all hall
        walk_at "nx"
        rw [List.length_map] at hl
        refine ⟨by rw [small62_of (by omega) (by omega), small62_of (by omega) (by omega)]; rfl, ?_⟩
        rw [show rngItems 1 (ns.length : Int) = (List.range (ns.length - 1)).map (fun (k : Nat) => D.int ((1 + k : Nat) : Int)) from rngItems_from' 1 ns.length]
        refine compL_tot (e := fun (k : Nat) => D.int ((1 + k : Nat) : Int)) (fun k => .bl (decide (ns.getD k 0 < ns.getD (k + 1) 0))) (by simp; omega) (fun _ _ => Gd_none) (fun j hj S' f => ?_) fun S2 f2 => ?_
        · have hj := List.mem_range.mp hj
          walk_at "dl"
          rw [show ((1 + j : Nat) : Int) - 1 = (j : Int) by omega, show 1 + j = j + 1 by omega]
          refine ⟨by decide, ?_⟩
          rw [w_ixT (atI_ints (by omega)), w_ixT (atI_ints (by omega)), w_lt]
          exact ⟨rfl, .refl⟩
        · rw [bl_map, w_allL get_new]
          refine h _ _ ?_ (((f1.new _).trans f2).new _)
          rw [inc_all]
          refine ⟨fun q => ⟨ns, rfl, hns, q⟩, fun ⟨ms, e, _, q⟩ => ?_⟩
          rw [tup_inj e]
          exact q
  | int i => rw [w_isi (b := false) rfl]; walk_at "dl"; exact h false S (nt fun _ => by simp) .refl
  | non => rw [w_isi (b := false) rfl]; walk_at "dl"; exact h false S (nt fun _ => by simp) .refl
  | str x => rw [w_isi (b := false) rfl]; walk_at "dl"; exact h false S (nt fun _ => by simp) .refl
  | bl b => cases k <;> simp [PL, pl] at hd
  | ref b => cases k <;> simp [PL, pl] at hd
  | ro b => cases k <;> simp [PL, pl] at hd
end K01
end

section
set_option Elab.async false
set_option linter.all false
set_option maxRecDepth 100000
set_option maxHeartbeats 1000000
set_option exponentiation.threshold 20000
namespace K01
open PySem PySem.Spec L2 Dl
local macro_rules | `(tactic| walk_at "dl") => `(tactic| simp (disch := first | assumption | exact get_new | (refine get_app ?_; first | assumption | exact get_new | (refine get_app ?_; first | assumption | exact get_new)) | (refine get_set ?_; assumption) | exact atI_0 | exact atI_1 | exact atI_2 | exact ok_lex | exact ok_degree | exact ok_back | exact ok_blocks | exact ok_weights) only [
  e_cB, e_fB, e_var, e_int, e_bl, e_non, e_str, e_glo, e_tup, e_lst, e_op, e_neg, e_not, e_and, e_or, e_cmp, e_chain, e_ite, e_ix, e_sl, e_rev, e_call, e_bi, e_me, e_isi, e_isis, e_comp, e_tupr, e_lstr, e_nil, e_cons, e_ono, e_oso, e_cno, e_cso, vt_and, vt_or, vt_not, vt_cmp, vt_chain, vt_var, vt_bl, vt_call, vt_bi, vt_isi, vt_isis, vi_seq, vi_rng1, vi_rng2, vi_zip, vg_nm, vg_tp, vg_ixs, gs_nil, gs_cons, x_asg, x_par, x_aug, x_expr, x_ret, x_retN, x_ite, x_for, x_whl, x_pass, x_brk, x_cnt, xs_nil, k_one, k_cons, k_rt, k_bk, k_ct, r_nx, r_rt, w_neg, w_tupr, w_lstr,
  TGs.len, wq_pure, List.getElem?_cons_zero, List.getElem?_cons_succ, List.set_cons_zero, List.set_cons_succ, List.length_cons, List.length_nil, List.length_map, if_true, Bool.false_eq_true, if_false, startE, List.map_cons, List.map_nil, List.replicate, List.cons_append, List.nil_append, wipeE, Nat.zero_add, Nat.reduceAdd, Nat.reduceSub, true_and,
  w_getL_ref, w_getS_ref, w_getL_ro, w_getS_ro, w_getS_tup, w_add, w_sub, w_mul, w_addT, w_addL, w_mulL, w_fdiv, w_mod, w_pow, w_shl, w_lt, w_le, w_gt, w_ge, w_ltT, w_gtT, w_eq, w_ne, w_isN, w_isnN, w_in, w_nin, w_trB, w_trN, w_trI, w_trT, w_trL, w_lenT, w_lenR, w_lenL, w_sumT, w_sumL, w_int, w_intB, w_tupL, w_listL, w_listT, w_append, w_pop, w_reverse, w_isL, w_revT, w_asInt, w_slR, w_srcT, w_srcR, w_srcL, w_rng, w_zipT, w_unpkT, w_unpkL, w_eqB, w_eqT, w_eqI, w_ixT, w_eqS, w_eqTS, Bool.not_true, Bool.not_false, decide_true, decide_false, wd_lex_lex, wd_lex_degree, wd_lex_back, wd_lex_blocks, wd_lex_weights, wd_degree_lex, wd_degree_degree, wd_degree_back, wd_degree_blocks, wd_degree_weights, wd_back_lex, wd_back_degree, wd_back_back, wd_back_blocks, wd_back_weights, wd_blocks_lex, wd_blocks_degree, wd_blocks_back, wd_blocks_blocks, wd_blocks_weights, wd_weights_lex, wd_weights_degree, wd_weights_back, wd_weights_blocks, wd_weights_weights])
local macro_rules | `(tactic| walk_at "nx") => `(tactic| (rw [k_nx]; try walk_at "dl"))
local macro_rules | `(tactic| walk_at "cj") => `(tactic| repeat refine And.intro (by first | decide | exact lens_of (by decide) | exact lens_of (by simp) | simp) ?_)
def colF (rows : List (List Int)) (k : Nat) : List Int := rows.filterMap fun r => if decide (r.getD k 0 ≠ 0) = true then some (r.getD k 0) else none
def fw (rows : List (List Int)) (k : Nat) : Int := (colF rows k).headD 0
def wtsP (m : Nat) (d : D) : Prop := ∃ rows : List (List Int), d = .tup (rows.map dI) ∧ rows.length = m ∧ (∀ r ∈ rows, r.length = m) ∧ (∀ k, k < m → 0 < fw rows k) ∧ ¬ KerQ m (remQ 0 rows)
def ordP (m : Nat) (d : D) : Prop := d = .str "lex" ∨ d = .str "degree" ∨ d = .str "back" ∨ (∃ b, d = .tup [.str "blocks", b] ∧ idxP m b) ∨ (∃ b, d = .tup [.str "weights", b] ∧ wtsP m b)
theorem dI_inj {a b : List Int} (h : dI a = dI b) : a = b := by
  unfold dI at h
  exact tup_inj h
theorem mapdI_inj : ∀ {a b : List (List Int)}, a.map dI = b.map dI → a = b
  | [], [], _ => rfl
  | [], _ :: _, h => by simp at h
  | _ :: _, [], h => by simp at h
  | p :: a, q :: b, h => by
    simp only [List.map_cons, List.cons.injEq] at h
    rw [dI_inj h.1, mapdI_inj h.2]
theorem first_weight_wq {n m k : Nat} {rows : List (List Int)} {S : Store} {Q : D → Store → Prop} (hl : ∀ r ∈ rows, r.length = m) (hk : k < m) (h : Q (.int (fw rows k)) S) : wq (call gl fds (n + 1) f_first_weight [.tup (rows.map dI), .int (k : Int)]) Q S := by
  rw [wq_call (fd := d_first_weight) rfl rfl]
  dsimp only [d_first_weight]
  unfold b_first_weight
  walk_at "dl"
  refine forL_gen (e := dI) (fun done rest e S' => S' = S ∧ colF done k = [] ∧ ∃ o2, e = [some (.tup (rows.map dI)), some (.int k), o2]) (fun _ _ _ _ _ => Gd_none) ?_ ?_ ?_
  · exact ⟨rfl, rfl, _, rfl⟩
  · rintro e S' ⟨rfl, hc, o2, rfl⟩
    walk_at "nx"
    unfold fw at h
    rw [hc] at h
    exact h
  · rintro done r rest e S' hd ⟨rfl, hc, o2, rfl⟩
    have hrl : r.length = m := hl r (by rw [hd]; simp)
    unfold dI
    walk_at "dl"
    refine ⟨by decide, ?_⟩
    rw [w_ixT (atI_ints (by omega)), w_eqI]
    by_cases c : r.getD k 0 = 0
    · rw [if_neg (by simpa using c)]
      walk_at "nx"
      refine ⟨?_, _, rfl⟩
      unfold colF at *
      rw [List.filterMap_append, hc]
      simp only [List.filterMap_cons, List.filterMap_nil, c]
      rfl
    · rw [if_pos (by simpa using c)]
      rw [w_ixT (atI_ints (by omega))]
      try walk_at "dl"
      have e : fw rows k = r.getD k 0 := by
        unfold fw colF
        unfold colF at hc
        rw [hd, List.filterMap_append, hc, List.filterMap_cons, if_pos (by simpa using c)]
        rfl
      rw [← e]
      exact h
theorem are_weights_wq {n m k : Nat} {d : D} {S : Store} {Q : D → Store → Prop} (hd : PL k d) (hm : m ≤ 4) (h : ∀ (b : Bool) S', (b = true ↔ wtsP m d) → Fr [] S S' → Q (.bl b) S') : wq (call gl fds (n + 2) f_are_weights [d, .int m]) Q S := by
  rw [wq_call (fd := d_are_weights) rfl rfl]
  dsimp only [d_are_weights]
  unfold b_are_weights
  have nt : (∀ ds, d ≠ .tup ds) → (false = true ↔ wtsP m d) := fun hn => ⟨fun h => (by cases h), fun ⟨ns, e, _⟩ => absurd e (hn _)⟩
  walk_at "dl"
  cases d with
  | tup ds =>
    obtain ⟨hl, hds⟩ := pl_tup hd
    rw [w_isi (b := true) rfl]
    walk_at "dl"
    by_cases hlen : ds.length = m
    · rw [if_neg (by simp [hlen])]
      walk_at "nx"
      refine forL_each (fun done rest e S' => Fr [] S S' ∧ (∃ rows : List (List Int), done = rows.map dI ∧ ∀ r ∈ rows, r.length = m ∧ ∀ x ∈ r, x.natAbs < 2 ^ 11) ∧ ∃ o2 o3 o4, e = [some (.tup ds), some (.int m), o2, o3, o4]) (fun _ _ _ _ _ => Gd_none) ?_ ?_ ?_
      · exact ⟨.refl, ⟨[], rfl, fun r h => by cases h⟩, _, _, _, rfl⟩
      · rintro e S1 ⟨f1, ⟨rows, hrows, hr⟩, o2, o3, o4, rfl⟩
        have hrl : rows.length = m := by rw [← hlen, hrows, List.length_map]
        subst hrows
        walk_at "nx"
        refine ⟨small_rng (by omega), ?_⟩
        rw [rngItems_nat]
        refine compL_tot (e := fun (k : Nat) => D.int (k : Int)) (fun k => .bl (decide (0 < fw rows k))) (by simp; omega) (fun _ _ => Gd_none) (fun j hj S' f => ?_) fun S2 f2 => ?_
        · have hj := List.mem_range.mp hj
          walk_at "dl"
          refine ⟨by decide, first_weight_wq (fun r hr1 => (hr r hr1).1) hj ?_⟩
          try walk_at "dl"
          first | exact ⟨rfl, .refl⟩ | exact .refl
        · rw [bl_map, w_allL get_new]
          try walk_at "dl"
          cases hall : ((List.range m).map fun k => decide (0 < fw rows k)).all id with
          | false =>
            try rw [if_neg (by decide)]
            refine h false _ ⟨fun h => (by cases h), fun ⟨rows', e, h1, h2, h3, _⟩ => ?_⟩ ((f1.trans f2).new _)
            have e : rows = rows' := mapdI_inj (by simpa using e)
            subst e
            have : ((List.range m).map fun k => decide (0 < fw rows k)).all id = true := by
              rw [List.all_eq_true]
              intro b hb
              obtain ⟨k, hk, rfl⟩ := List.mem_map.mp hb
              exact decide_eq_true (h3 k (List.mem_range.mp hk))
            rw [hall] at this
            cases this
          | true =>
            try rw [if_pos (by rfl)]
            refine has_rank_wq hm hrl (fun r hr1 => (hr r hr1).1) (fun r hr1 x hx => (hr r hr1).2 x hx) fun b S3 hb f3 => ?_
            try walk_at "dl"
            refine h b S3 ?_ (((f1.trans f2).new _).trans f3)
            rw [hb]
            have hk : ∀ k, k < m → 0 < fw rows k := fun k hk => by
              rw [List.all_eq_true] at hall
              exact of_decide_eq_true (hall _ (List.mem_map.mpr ⟨k, List.mem_range.mpr hk, rfl⟩))
            refine ⟨fun q => ⟨rows, rfl, hrl, fun r hr1 => (hr r hr1).1, hk, q⟩, fun ⟨rows', e, h1, h2, h3, h4⟩ => ?_⟩
            have e : rows = rows' := mapdI_inj (by simpa using e)
            rw [e]
            exact h4
      · rintro done d rest e S1 hdd ⟨f1, ⟨rows, hrows, hr⟩, o2, o3, o4, rfl⟩
        have hmem : d ∈ ds := by rw [hdd]; simp
        have hpd := hds d hmem
        have bad : (∀ r : List Int, d = dI r → r.length = m → False) → (false = true ↔ wtsP m (.tup ds)) := fun hb => ⟨fun h => (by cases h), fun ⟨rows', e, h1, h2, _⟩ => by
          have e : ds = rows'.map dI := by simpa using e
          rw [e] at hmem
          obtain ⟨r, hr1, hr2⟩ := List.mem_map.mp hmem
          exact (hb r hr2.symm (h2 r hr1)).elim⟩
        walk_at "dl"
        refine ⟨by decide, ?_⟩
        cases d with
        | tup es =>
          obtain ⟨hel, hes⟩ := pl_tup hpd
          rw [w_isi (b := true) rfl]
          walk_at "dl"
          by_cases hem : es.length = m
          · rw [if_neg (by simp [hem])]
            refine compL_each (fun d => .bl (isIn d)) (by omega) (fun _ _ => Gd_none) (fun d hd S' f => ?_) fun S2 f2 => ?_
            · have hpd := hes d hd
              walk_at "dl"
              refine ⟨by decide, ?_⟩
              cases d with
              | int i => rw [w_isi (b := true) rfl]; exact ⟨rfl, .refl⟩
              | non => rw [w_isi (b := false) rfl]; exact ⟨rfl, .refl⟩
              | str x => rw [w_isi (b := false) rfl]; exact ⟨rfl, .refl⟩
              | tup es => rw [w_isi (b := false) rfl]; exact ⟨rfl, .refl⟩
              | bl b => cases k - 1 - 1 <;> simp [pl] at hpd
              | ref b => cases k - 1 - 1 <;> simp [pl] at hpd
              | ro b => cases k - 1 - 1 <;> simp [pl] at hpd
            · rw [bl_map, w_allL get_new]
              try walk_at "dl"
              cases hall : (es.map isIn).all id with
              | false =>
                try rw [if_pos (by rfl)]
                try walk_at "dl"
                refine h false _ (bad fun r e _ => ?_) ((f1.trans f2).new _)
                unfold dI at e
                cases e
                rw [isIn_of] at hall
                cases hall
              | true =>
                try rw [if_neg (by decide)]
                obtain ⟨ns, rfl⟩ := isIn_all hall
                try walk_at "nx"
                refine ⟨(f1.trans f2).new _, ⟨rows ++ [ns], by rw [hrows]; simp [dI], fun r hr1 => ?_⟩, _, _, _, rfl⟩
                rcases List.mem_append.mp hr1 with hr1 | hr1
                · exact hr r hr1
                · rw [List.mem_singleton.mp hr1]
                  refine ⟨by simpa using hem, fun x hx => ?_⟩
                  have := hes (.int x) (List.mem_map.mpr ⟨x, hx, rfl⟩)
                  have : -1000 ≤ x ∧ x ≤ 1000 := by cases h9 : k - 1 - 1 <;> rw [h9] at this <;> simpa [pl] using this
                  omega
          · rw [if_pos (by simp; omega)]
            try walk_at "dl"
            try rw [if_pos (by rfl)]
            refine h false _ (bad fun r e hrl => ?_) f1
            unfold dI at e
            cases e
            simp at hem
            exact hem hrl
        | int i => rw [w_isi (b := false) rfl]; walk_at "dl"; exact h false _ (bad fun r e _ => by unfold dI at e; cases e) f1
        | non => rw [w_isi (b := false) rfl]; walk_at "dl"; exact h false _ (bad fun r e _ => by unfold dI at e; cases e) f1
        | str x => rw [w_isi (b := false) rfl]; walk_at "dl"; exact h false _ (bad fun r e _ => by unfold dI at e; cases e) f1
        | bl b => cases k - 1 <;> simp [pl] at hpd
        | ref b => cases k - 1 <;> simp [pl] at hpd
        | ro b => cases k - 1 <;> simp [pl] at hpd
    · rw [if_pos (by simp; omega)]
      refine h false S ⟨fun h => (by cases h), fun ⟨rows, e, h1, _⟩ => ?_⟩ .refl
      cases e
      simp at hlen
      exact (hlen h1).elim
  | int i => rw [w_isi (b := false) rfl]; walk_at "dl"; exact h false S (nt fun _ => by simp) .refl
  | non => rw [w_isi (b := false) rfl]; walk_at "dl"; exact h false S (nt fun _ => by simp) .refl
  | str x => rw [w_isi (b := false) rfl]; walk_at "dl"; exact h false S (nt fun _ => by simp) .refl
  | bl b => cases k <;> simp [PL, pl] at hd
  | ref b => cases k <;> simp [PL, pl] at hd
  | ro b => cases k <;> simp [PL, pl] at hd
end K01
end

section
set_option Elab.async false
set_option linter.all false
set_option maxRecDepth 100000
set_option maxHeartbeats 1000000
set_option exponentiation.threshold 20000
namespace K01
open PySem PySem.Spec L2 Dl
local macro_rules | `(tactic| walk_at "dl") => `(tactic| simp (disch := first | assumption | exact get_new | (refine get_app ?_; first | assumption | exact get_new | (refine get_app ?_; first | assumption | exact get_new)) | (refine get_set ?_; assumption) | exact atI_0 | exact atI_1 | exact atI_2 | exact ok_lex | exact ok_degree | exact ok_back | exact ok_blocks | exact ok_weights) only [
  e_cB, e_fB, e_var, e_int, e_bl, e_non, e_str, e_glo, e_tup, e_lst, e_op, e_neg, e_not, e_and, e_or, e_cmp, e_chain, e_ite, e_ix, e_sl, e_rev, e_call, e_bi, e_me, e_isi, e_isis, e_comp, e_tupr, e_lstr, e_nil, e_cons, e_ono, e_oso, e_cno, e_cso, vt_and, vt_or, vt_not, vt_cmp, vt_chain, vt_var, vt_bl, vt_call, vt_bi, vt_isi, vt_isis, vi_seq, vi_rng1, vi_rng2, vi_zip, vg_nm, vg_tp, vg_ixs, gs_nil, gs_cons, x_asg, x_par, x_aug, x_expr, x_ret, x_retN, x_ite, x_for, x_whl, x_pass, x_brk, x_cnt, xs_nil, k_one, k_cons, k_rt, k_bk, k_ct, r_nx, r_rt, w_neg, w_tupr, w_lstr,
  TGs.len, wq_pure, List.getElem?_cons_zero, List.getElem?_cons_succ, List.set_cons_zero, List.set_cons_succ, List.length_cons, List.length_nil, List.length_map, if_true, Bool.false_eq_true, if_false, startE, List.map_cons, List.map_nil, List.replicate, List.cons_append, List.nil_append, wipeE, Nat.zero_add, Nat.reduceAdd, Nat.reduceSub, true_and,
  w_getL_ref, w_getS_ref, w_getL_ro, w_getS_ro, w_getS_tup, w_add, w_sub, w_mul, w_addT, w_addL, w_mulL, w_fdiv, w_mod, w_pow, w_shl, w_lt, w_le, w_gt, w_ge, w_ltT, w_gtT, w_eq, w_ne, w_isN, w_isnN, w_in, w_nin, w_trB, w_trN, w_trI, w_trT, w_trL, w_lenT, w_lenR, w_lenL, w_sumT, w_sumL, w_int, w_intB, w_tupL, w_listL, w_listT, w_append, w_pop, w_reverse, w_isL, w_revT, w_asInt, w_slR, w_srcT, w_srcR, w_srcL, w_rng, w_zipT, w_unpkT, w_unpkL, w_eqB, w_eqT, w_eqI, w_ixT, w_eqS, w_eqTS, Bool.not_true, Bool.not_false, decide_true, decide_false, wd_lex_lex, wd_lex_degree, wd_lex_back, wd_lex_blocks, wd_lex_weights, wd_degree_lex, wd_degree_degree, wd_degree_back, wd_degree_blocks, wd_degree_weights, wd_back_lex, wd_back_degree, wd_back_back, wd_back_blocks, wd_back_weights, wd_blocks_lex, wd_blocks_degree, wd_blocks_back, wd_blocks_blocks, wd_blocks_weights, wd_weights_lex, wd_weights_degree, wd_weights_back, wd_weights_blocks, wd_weights_weights])
local macro_rules | `(tactic| walk_at "nx") => `(tactic| (rw [k_nx]; try walk_at "dl"))
local macro_rules | `(tactic| walk_at "cj") => `(tactic| repeat refine And.intro (by first | decide | exact lens_of (by decide) | exact lens_of (by simp) | simp) ?_)
theorem ordP_tup {m : Nat} {ds : List D} (h : ordP m (.tup ds)) : ∃ a b, ds = [a, b] ∧ ((a = .str "blocks" ∧ idxP m b) ∨ (a = .str "weights" ∧ wtsP m b)) := by
  rcases h with h | h | h | ⟨b, h, q⟩ | ⟨b, h, q⟩
  · cases h
  · cases h
  · cases h
  · cases h; exact ⟨_, _, rfl, .inl ⟨rfl, q⟩⟩
  · cases h; exact ⟨_, _, rfl, .inr ⟨rfl, q⟩⟩
theorem ordP_str {m : Nat} {x : Str} : ordP m (.str x) ↔ (x = "lex" ∨ x = "degree" ∨ x = "back") := by
  unfold ordP
  simp
theorem ordP_not {m : Nat} {d : D} (h1 : ∀ x, d ≠ .str x) (h2 : ∀ ds, d ≠ .tup ds) : false = true ↔ ordP m d := ⟨fun h => (by cases h), fun h => by
  rcases h with h | h | h | ⟨b, h, q⟩ | ⟨b, h, q⟩
  · exact absurd h (h1 _)
  · exact absurd h (h1 _)
  · exact absurd h (h1 _)
  · exact absurd h (h2 _)
  · exact absurd h (h2 _)⟩
theorem in3 (x : Str) : inF (.str x) [.str "lex", .str "degree", .str "back"] = true ↔ (x = "lex" ∨ x = "degree" ∨ x = "back") := by
  unfold inF
  simp only [List.any_cons, List.any_nil, eqF, Bool.or_false, Bool.or_eq_true, beq_iff_eq]
  constructor
  · rintro (h | h | h)
    · exact .inl h.symm
    · exact .inr (.inl h.symm)
    · exact .inr (.inr h.symm)
  · rintro (h | h | h)
    · exact .inl h.symm
    · exact .inr (.inl h.symm)
    · exact .inr (.inr h.symm)
theorem neS {d : D} {x : Str} (h : d ≠ .str x) : decide (d = .str x) = false := decide_eq_false h
theorem w_eqW {d : D} {x : Str} {k : Nat} {QB : Bool → Store → Prop} {S : Store} (hd : PL k d) (hk : k ≤ 60) (hx : PyData.canLay0 (.str x) = true) : wq (eqD d (.str x)) QB S = QB (decide (d = .str x)) S :=
  w_eqD (hd.bf hk).1 (by unfold D.bf; exact hx) (Nat.le_trans (hd.bf hk).2 (by decide)) (Nat.zero_le _)
theorem is_order_wq {n m k : Nat} {d : D} {S : Store} {Q : D → Store → Prop} (hd : PL k d) (hk : k ≤ 60) (hm : m ≤ 4) (h : ∀ (b : Bool) S', (b = true ↔ ordP m d) → Fr [] S S' → Q (.bl b) S') : wq (call gl fds (n + 3) f_is_order [.int m, d]) Q S := by
  rw [wq_call (fd := d_is_order) rfl rfl]
  dsimp only [d_is_order]
  unfold b_is_order
  walk_at "dl"
  cases d with
  | str x =>
    rw [w_isi (b := true) rfl]
    walk_at "dl"
    rw [show gl 0 = .tup [.str "lex", .str "degree", .str "back"] from rfl]
    walk_at "dl"
    refine ⟨rfl, h _ S ?_ .refl⟩
    rw [in3, ordP_str]
  | tup ds =>
    obtain ⟨hl, hds⟩ := pl_tup hd
    rw [w_isi (b := false) rfl]
    walk_at "dl"
    walk_at "nx"
    rw [w_isi (b := true) rfl]
    walk_at "dl"
    match ds, hl, hds with
    | [a, b], hl, hds =>
      have ha := hds a (by simp)
      have hb := hds b (by simp)
      have hno : ∀ x : Str, a ≠ .str "blocks" → a ≠ .str "weights" → ¬ ordP m (.tup [a, b]) := fun x h1 h2 h3 => by
        obtain ⟨a', b', e, q⟩ := ordP_tup h3
        cases e
        rcases q with q | q
        · exact h1 q.1
        · exact h2 q.1
      rw [if_neg (by simp)]
      walk_at "nx"
      rw [w_eqW ha (by omega) ok_blocks]
      by_cases c : a = .str "blocks"
      · rw [if_pos (by simp [c])]
        try walk_at "dl"
        refine are_indexes_wq hb hm fun bb S1 e1 f1 => ?_
        try walk_at "dl"
        refine h bb S1 ?_ f1
        rw [e1]
        subst c
        refine ⟨fun q => .inr (.inr (.inr (.inl ⟨b, rfl, q⟩))), fun q => ?_⟩
        obtain ⟨a', b', e, q⟩ := ordP_tup q
        cases e
        rcases q with q | q
        · exact q.2
        · exact absurd q.1 (by decide +kernel)
      · rw [if_neg (by simpa using c)]
        walk_at "nx"
        rw [w_eqW ha (by omega) ok_weights]
        try walk_at "dl"
        by_cases c2 : a = .str "weights"
        · rw [if_pos (by simp [c2])]
          try walk_at "dl"
          refine are_weights_wq hb hm fun bb S1 e1 f1 => ?_
          try walk_at "dl"
          refine h bb S1 ?_ f1
          rw [e1]
          subst c2
          refine ⟨fun q => .inr (.inr (.inr (.inr ⟨b, rfl, q⟩))), fun q => ?_⟩
          obtain ⟨a', b', e, q⟩ := ordP_tup q
          cases e
          rcases q with q | q
          · exact absurd q.1 (by decide +kernel)
          · exact q.2
        · rw [if_neg (by simpa using c2)]
          try walk_at "dl"
          rw [neS c2]
          exact h false S ⟨fun h => (by cases h), fun q => absurd q (hno "" c c2)⟩ .refl
    | [], _, _ =>
      rw [if_pos (by simp)]
      try walk_at "dl"
      exact h false S ⟨fun h => (by cases h), fun q => by obtain ⟨a, b, e, _⟩ := ordP_tup q; cases e⟩ .refl
    | [_], _, _ =>
      rw [if_pos (by simp)]
      try walk_at "dl"
      exact h false S ⟨fun h => (by cases h), fun q => by obtain ⟨a, b, e, _⟩ := ordP_tup q; cases e⟩ .refl
    | _ :: _ :: _ :: es, _, _ =>
      rw [if_pos (by simp; omega)]
      try walk_at "dl"
      exact h false S ⟨fun h => (by cases h), fun q => by obtain ⟨a, b, e, _⟩ := ordP_tup q; cases e⟩ .refl
  | int i =>
    rw [w_isi (b := false) rfl]; walk_at "dl"; walk_at "nx"
    rw [w_isi (b := false) rfl]; walk_at "dl"
    exact h false S (ordP_not (fun _ => by simp) (fun _ => by simp)) .refl
  | non =>
    rw [w_isi (b := false) rfl]; walk_at "dl"; walk_at "nx"
    rw [w_isi (b := false) rfl]; walk_at "dl"
    exact h false S (ordP_not (fun _ => by simp) (fun _ => by simp)) .refl
  | bl b => cases k <;> simp [PL, pl] at hd
  | ref b => cases k <;> simp [PL, pl] at hd
  | ro b => cases k <;> simp [PL, pl] at hd
end K01
end

section
set_option Elab.async false
set_option linter.all false
set_option maxRecDepth 100000
set_option maxHeartbeats 1000000
set_option exponentiation.threshold 20000
namespace K01
open PySem PySem.Spec L2 Dl
local macro_rules | `(tactic| walk_at "dl") => `(tactic| simp (disch := first | assumption | exact get_new | (refine get_app ?_; first | assumption | exact get_new | (refine get_app ?_; first | assumption | exact get_new)) | (refine get_set ?_; assumption) | exact atI_0 | exact atI_1 | exact atI_2 | exact ok_lex | exact ok_degree | exact ok_back | exact ok_blocks | exact ok_weights) only [
  e_cB, e_fB, e_var, e_int, e_bl, e_non, e_str, e_glo, e_tup, e_lst, e_op, e_neg, e_not, e_and, e_or, e_cmp, e_chain, e_ite, e_ix, e_sl, e_rev, e_call, e_bi, e_me, e_isi, e_isis, e_comp, e_tupr, e_lstr, e_nil, e_cons, e_ono, e_oso, e_cno, e_cso, vt_and, vt_or, vt_not, vt_cmp, vt_chain, vt_var, vt_bl, vt_call, vt_bi, vt_isi, vt_isis, vi_seq, vi_rng1, vi_rng2, vi_zip, vg_nm, vg_tp, vg_ixs, gs_nil, gs_cons, x_asg, x_par, x_aug, x_expr, x_ret, x_retN, x_ite, x_for, x_whl, x_pass, x_brk, x_cnt, xs_nil, k_one, k_cons, k_rt, k_bk, k_ct, r_nx, r_rt, w_neg, w_tupr, w_lstr,
  TGs.len, wq_pure, List.getElem?_cons_zero, List.getElem?_cons_succ, List.set_cons_zero, List.set_cons_succ, List.length_cons, List.length_nil, List.length_map, if_true, Bool.false_eq_true, if_false, startE, List.map_cons, List.map_nil, List.replicate, List.cons_append, List.nil_append, wipeE, Nat.zero_add, Nat.reduceAdd, Nat.reduceSub, true_and,
  w_getL_ref, w_getS_ref, w_getL_ro, w_getS_ro, w_getS_tup, w_add, w_sub, w_mul, w_addT, w_addL, w_mulL, w_fdiv, w_mod, w_pow, w_shl, w_lt, w_le, w_gt, w_ge, w_ltT, w_gtT, w_eq, w_ne, w_isN, w_isnN, w_in, w_nin, w_trB, w_trN, w_trI, w_trT, w_trL, w_lenT, w_lenR, w_lenL, w_sumT, w_sumL, w_int, w_intB, w_tupL, w_listL, w_listT, w_append, w_pop, w_reverse, w_isL, w_revT, w_asInt, w_slR, w_srcT, w_srcR, w_srcL, w_rng, w_zipT, w_unpkT, w_unpkL, w_eqB, w_eqT, w_eqI, w_ixT, w_eqS, w_eqTS, Bool.not_true, Bool.not_false, decide_true, decide_false, wd_lex_lex, wd_lex_degree, wd_lex_back, wd_lex_blocks, wd_lex_weights, wd_degree_lex, wd_degree_degree, wd_degree_back, wd_degree_blocks, wd_degree_weights, wd_back_lex, wd_back_degree, wd_back_back, wd_back_blocks, wd_back_weights, wd_blocks_lex, wd_blocks_degree, wd_blocks_back, wd_blocks_blocks, wd_blocks_weights, wd_weights_lex, wd_weights_degree, wd_weights_back, wd_weights_blocks, wd_weights_weights])
local macro_rules | `(tactic| walk_at "nx") => `(tactic| (rw [k_nx]; try walk_at "dl"))
local macro_rules | `(tactic| walk_at "cj") => `(tactic| repeat refine And.intro (by first | decide | exact lens_of (by decide) | exact lens_of (by simp) | simp) ?_)
theorem inF_bls : ∀ bs : List Bool, inF (.bl false) (bs.map .bl) = !bs.all id
  | [] => rfl
  | b :: bs => by
    have := inF_bls bs
    unfold inF at *
    rw [List.map_cons, List.any_cons, this]
    cases b <;> rfl
theorem flat_bls : ∀ bs : List Bool, (bs.map D.bl).all flat = true
  | [] => rfl
  | b :: bs => by
    rw [List.map_cons, List.all_cons, flat_bls bs]
    rfl
theorem is_int_wq {n k : Nat} {d : D} {S : Store} {Q : D → Store → Prop} (hd : PL k d) (h : Q (.bl (isIn d)) S) : wq (call gl fds (n + 1) f__law_is_int [d]) Q S := by
  rw [wq_call (fd := d__law_is_int) rfl rfl]
  dsimp only [d__law_is_int]
  unfold b__law_is_int
  walk_at "dl"
  cases d with
  | int i => rw [w_isi (b := true) rfl]; walk_at "dl"; rw [w_isi (b := false) rfl]; walk_at "dl"; exact h
  | non => rw [w_isi (b := false) rfl]; walk_at "dl"; exact h
  | str x => rw [w_isi (b := false) rfl]; walk_at "dl"; exact h
  | tup es => rw [w_isi (b := false) rfl]; walk_at "dl"; exact h
  | bl b => cases k <;> simp [PL, pl] at hd
  | ref b => cases k <;> simp [PL, pl] at hd
  | ro b => cases k <;> simp [PL, pl] at hd
theorem is_index_wq {n k m : Nat} {d : D} {S : Store} {Q : D → Store → Prop} (hd : PL k d) (h : Q (.bl (isIx m d)) S) : wq (call gl fds (n + 2) f__law_is_index [d, .int m]) Q S := by
  rw [wq_call (fd := d__law_is_index) rfl rfl]
  dsimp only [d__law_is_index]
  unfold b__law_is_index
  walk_at "dl"
  refine is_int_wq hd ?_
  try walk_at "dl"
  cases d with
  | int i =>
    simp only [isIn]
    walk_at "dl"
    by_cases c : 0 ≤ i
    · rw [if_pos (decide_eq_true c)]
      rw [show decide (i < (m : Int)) = isIx m (.int i) by simp [isIx, c]]
      exact h
    · rw [if_neg (by simpa using c)]
      rw [show decide (0 ≤ i) = isIx m (.int i) by simp [isIx, c]]
      exact h
  | non => simp only [isIn]; walk_at "dl"; exact h
  | str x => simp only [isIn]; walk_at "dl"; exact h
  | tup es => simp only [isIn]; walk_at "dl"; exact h
  | bl b => cases k <;> simp [PL, pl] at hd
  | ref b => cases k <;> simp [PL, pl] at hd
  | ro b => cases k <;> simp [PL, pl] at hd
theorem not_all {bs : List Bool} : (!bs.all id) = false ↔ bs.all id = true := by cases bs.all id <;> simp
theorem lex1 (F : List Int) : (lexC (F.take 1) [1] == .lt) = true ↔ ¬ 0 < F.headD 0 := by
  cases F with
  | nil => simp [lexC]
  | cons x F =>
    simp only [List.take_succ_cons, List.take_zero, List.headD_cons, lexC]
    by_cases c : x < 1
    · rw [if_pos c]; simp; omega
    · by_cases c2 : 1 < x
      · rw [if_neg c, if_pos c2]; simp; omega
      · rw [if_neg c, if_neg c2]; simp; omega
theorem w_ltL {S : Store} {l l2 : Nat} {x y : List Int} {QB : Bool → Store → Prop} (h1 : S[l]? = some (.lst (x.map .int))) (h2 : S[l2]? = some (.lst (y.map .int))) : wq (cop .Lt (.ref l) (.ref l2)) QB S = QB (lexC x y == .lt) S := by
  unfold cop
  dsimp only
  rw [wq_bind, wq_getO]
  refine propext ⟨fun ⟨o, e, k⟩ => ?_, fun k => ⟨_, h1, ?_⟩⟩
  · rw [h1] at e
    cases e
    rw [wq_bind, wq_getO] at k
    obtain ⟨o, e, k⟩ := k
    rw [h2] at e
    cases e
    dsimp only at k
    rw [intsOf_map, intsOf_map] at k
    simpa only [wq_pure] using k
  · rw [wq_bind, wq_getO]
    refine ⟨_, h2, ?_⟩
    dsimp only
    rw [intsOf_map, intsOf_map]
    simpa only [wq_pure] using k
theorem are_rows_wq {n m k : Nat} {d : D} {S : Store} {Q : D → Store → Prop} (hd : PL k d) (hm : m ≤ 4) (h : ∀ (b : Bool) S', (b = true ↔ wtsP m d) → Fr [] S S' → Q (.bl b) S') : wq (call gl fds (n + 5) f__law_are_rows [.int m, d]) Q S := by
  rw [wq_call (fd := d__law_are_rows) rfl rfl]
  dsimp only [d__law_are_rows]
  unfold b__law_are_rows
  have nt : (∀ ds, d ≠ .tup ds) → (false = true ↔ wtsP m d) := fun hn => ⟨fun h => (by cases h), fun ⟨ns, e, _⟩ => absurd e (hn _)⟩
  walk_at "dl"
  cases d with
  | tup ds =>
    obtain ⟨hl, hds⟩ := pl_tup hd
    rw [w_isi (b := true) rfl]
    walk_at "dl"
    by_cases hlen : ds.length = m
    · rw [if_neg (by simp [hlen])]
      walk_at "nx"
      refine forL_each (fun done rest e S' => Fr [] S S' ∧ (∃ rows : List (List Int), done = rows.map dI ∧ ∀ r ∈ rows, r.length = m ∧ ∀ x ∈ r, x.natAbs < 2 ^ 11) ∧ ∃ o2 o3 o4, e = [some (.int m), some (.tup ds), o2, o3, o4]) (fun _ _ _ _ _ => Gd_none) ?_ ?_ ?_
      · exact ⟨.refl, ⟨[], rfl, fun r h => by cases h⟩, _, _, _, rfl⟩
      · rintro e S1 ⟨f1, ⟨rows, hrows, hr⟩, o2, o3, o4, rfl⟩
        have hrl : rows.length = m := by rw [← hlen, hrows, List.length_map]
        subst hrows
        walk_at "nx"
        refine ⟨small_rng (by omega), ?_⟩
        rw [rngItems_nat]
        refine forL_inv1 (e := fun (k : Nat) => D.int (k : Int)) (fun j e S' => Fr [] S S' ∧ (∀ k, k < j → 0 < fw rows k) ∧ ∃ o2 o3 o4, e = [some (.int m), some (.tup (rows.map dI)), o2, o3, o4]) (fun _ _ _ _ => Gd_none) ?_ ?_ ?_
        · exact ⟨f1, fun k hk => by omega, _, _, _, rfl⟩
        · rintro e S2 ⟨f2, hf, o2, o3, o4, rfl⟩
          rw [List.length_range] at hf
          walk_at "nx"
          refine are_free_wq hm hrl (fun r hr1 => (hr r hr1).1) (fun r hr1 x hx => (hr r hr1).2 x hx) fun b S3 hb f3 => ?_
          try walk_at "dl"
          refine h b S3 ?_ (f2.trans f3)
          rw [hb]
          refine ⟨fun q => ⟨rows, rfl, hrl, fun r hr1 => (hr r hr1).1, hf, q⟩, fun ⟨rows', e, h1, h2, h3, h4⟩ => ?_⟩
          have e : rows = rows' := mapdI_inj (by simpa using e)
          rw [e]
          exact h4
        · rintro j x e S2 hx ⟨f2, hf, o2, o3, o4, rfl⟩
          have hj : j < m := by
            have := (List.getElem?_eq_some_iff.mp hx).1
            simpa using this
          have hxj : x = j := by
            rw [List.getElem?_range hj] at hx
            exact (Option.some.inj hx).symm
          subst hxj
          walk_at "dl"
          refine ⟨by decide, ?_⟩
          refine compL_filt (e := dI) (fun r => if decide (r.getD x 0 ≠ 0) = true then some (.int (r.getD x 0)) else none) (by omega) (fun _ _ => Gd_none) (fun r hr1 S' f => ?_) fun S3 f3 => ?_
          · have hrl2 := (hr r hr1).1
            unfold dI
            walk_at "dl"
            refine ⟨by decide, ?_⟩
            rw [w_ixT (atI_ints (by omega)), w_eqI]
            by_cases c : r.getD x 0 = 0
            · rw [if_neg (by simpa using c), if_neg (by simpa using c)]
              exact ⟨rfl, .refl⟩
            · rw [if_pos (by simpa using c), if_pos (by simpa using c)]
              rw [w_ixT (atI_ints (by omega))]
              exact ⟨rfl, .refl⟩
          · have e1 : rows.filterMap (fun r => if decide (r.getD x 0 ≠ 0) = true then some (D.int (r.getD x 0)) else none) = (colF rows x).map .int := by
              unfold colF
              rw [List.map_filterMap]
              congr 1
              funext r
              split <;> rfl
            rw [e1, w_slL get_new, cut1, ← List.map_take]
            refine ⟨lens_of (by decide), ?_⟩
            refine Eq.mpr (w_ltL (x := (colF rows x).take 1) (y := [1]) (get_app get_new) get_new) ?_
            cases hc : (lexC ((colF rows x).take 1) [1] == .lt) with
            | true =>
              rw [if_pos rfl]
              have := (lex1 (colF rows x)).mp hc
              try walk_at "dl"
              refine h false _ ⟨fun h => (by cases h), fun ⟨rows', e, h1, h2, h3, _⟩ => ?_⟩ ((((f2.trans f3).new _).new _).new _)
              have e : rows = rows' := mapdI_inj (by simpa using e)
              subst e
              exact (this (h3 x hj)).elim
            | false =>
              rw [if_neg (by decide)]
              try walk_at "nx"
              refine ⟨(((f2.trans f3).new _).new _).new _, fun k hk => ?_, _, _, _, rfl⟩
              by_cases c : k = x
              · subst c
                have : ¬ ¬ 0 < fw rows k := fun q => by
                  have := (lex1 (colF rows k)).mpr q
                  rw [hc] at this
                  cases this
                omega
              · exact hf k (by omega)
      · rintro done d rest e S1 hdd ⟨f1, ⟨rows, hrows, hr⟩, o2, o3, o4, rfl⟩
        have hmem : d ∈ ds := by rw [hdd]; simp
        have hpd := hds d hmem
        have bad : (∀ r : List Int, d = dI r → r.length = m → False) → (false = true ↔ wtsP m (.tup ds)) := fun hb => ⟨fun h => (by cases h), fun ⟨rows', e, h1, h2, _⟩ => by
          have e : ds = rows'.map dI := by simpa using e
          rw [e] at hmem
          obtain ⟨r, hr1, hr2⟩ := List.mem_map.mp hmem
          exact (hb r hr2.symm (h2 r hr1)).elim⟩
        walk_at "dl"
        refine ⟨by decide, ?_⟩
        cases d with
        | tup es =>
          obtain ⟨hel, hes⟩ := pl_tup hpd
          rw [w_isi (b := true) rfl]
          walk_at "dl"
          by_cases hem : es.length = m
          · rw [if_neg (by simp [hem])]
            refine compL_each (fun d => .bl (isIn d)) (by omega) (fun _ _ => Gd_none) (fun d hd S' f => ?_) fun S2 f2 => ?_
            · have hpd := hes d hd
              walk_at "dl"
              refine ⟨by decide, is_int_wq hpd ⟨rfl, .refl⟩⟩
            · rw [bl_map, inF_bls, flat_bls]
              refine ⟨rfl, ?_⟩
              cases hall : (es.map isIn).all id with
              | false =>
                try rw [if_pos (by rfl)]
                try walk_at "dl"
                refine h false _ (bad fun r e _ => ?_) ((f1.trans f2).new _)
                unfold dI at e
                cases e
                rw [isIn_of] at hall
                cases hall
              | true =>
                try rw [if_neg (by decide)]
                obtain ⟨ns, rfl⟩ := isIn_all hall
                try walk_at "nx"
                refine ⟨(f1.trans f2).new _, ⟨rows ++ [ns], by rw [hrows]; simp [dI], fun r hr1 => ?_⟩, _, _, _, rfl⟩
                rcases List.mem_append.mp hr1 with hr1 | hr1
                · exact hr r hr1
                · rw [List.mem_singleton.mp hr1]
                  refine ⟨by simpa using hem, fun x hx => ?_⟩
                  have := hes (.int x) (List.mem_map.mpr ⟨x, hx, rfl⟩)
                  have : -1000 ≤ x ∧ x ≤ 1000 := by cases h9 : k - 1 - 1 <;> rw [h9] at this <;> simpa [pl] using this
                  omega
          · rw [if_pos (by simp; omega)]
            try walk_at "dl"
            try rw [if_pos (by rfl)]
            refine h false _ (bad fun r e hrl => ?_) f1
            unfold dI at e
            cases e
            simp at hem
            exact hem hrl
        | int i => rw [w_isi (b := false) rfl]; walk_at "dl"; exact h false _ (bad fun r e _ => by unfold dI at e; cases e) f1
        | non => rw [w_isi (b := false) rfl]; walk_at "dl"; exact h false _ (bad fun r e _ => by unfold dI at e; cases e) f1
        | str x => rw [w_isi (b := false) rfl]; walk_at "dl"; exact h false _ (bad fun r e _ => by unfold dI at e; cases e) f1
        | bl b => cases k - 1 <;> simp [pl] at hpd
        | ref b => cases k - 1 <;> simp [pl] at hpd
        | ro b => cases k - 1 <;> simp [pl] at hpd
    · rw [if_pos (by simp; omega)]
      refine h false S ⟨fun h => (by cases h), fun ⟨rows, e, h1, _⟩ => ?_⟩ .refl
      cases e
      simp at hlen
      exact (hlen h1).elim
  | int i => rw [w_isi (b := false) rfl]; walk_at "dl"; exact h false S (nt fun _ => by simp) .refl
  | non => rw [w_isi (b := false) rfl]; walk_at "dl"; exact h false S (nt fun _ => by simp) .refl
  | str x => rw [w_isi (b := false) rfl]; walk_at "dl"; exact h false S (nt fun _ => by simp) .refl
  | bl b => cases k <;> simp [PL, pl] at hd
  | ref b => cases k <;> simp [PL, pl] at hd
  | ro b => cases k <;> simp [PL, pl] at hd
end K01
end

section
set_option Elab.async false
set_option linter.all false
set_option maxRecDepth 100000
set_option maxHeartbeats 1000000
set_option exponentiation.threshold 20000
namespace K01
open PySem PySem.Spec L2 Dl
local macro_rules | `(tactic| walk_at "dl") => `(tactic| simp (disch := first | assumption | exact get_new | (refine get_app ?_; first | assumption | exact get_new | (refine get_app ?_; first | assumption | exact get_new)) | (refine get_set ?_; assumption) | exact atI_0 | exact atI_1 | exact atI_2 | exact ok_lex | exact ok_degree | exact ok_back | exact ok_blocks | exact ok_weights) only [
  e_cB, e_fB, e_var, e_int, e_bl, e_non, e_str, e_glo, e_tup, e_lst, e_op, e_neg, e_not, e_and, e_or, e_cmp, e_chain, e_ite, e_ix, e_sl, e_rev, e_call, e_bi, e_me, e_isi, e_isis, e_comp, e_tupr, e_lstr, e_nil, e_cons, e_ono, e_oso, e_cno, e_cso, vt_and, vt_or, vt_not, vt_cmp, vt_chain, vt_var, vt_bl, vt_call, vt_bi, vt_isi, vt_isis, vi_seq, vi_rng1, vi_rng2, vi_zip, vg_nm, vg_tp, vg_ixs, gs_nil, gs_cons, x_asg, x_par, x_aug, x_expr, x_ret, x_retN, x_ite, x_for, x_whl, x_pass, x_brk, x_cnt, xs_nil, k_one, k_cons, k_rt, k_bk, k_ct, r_nx, r_rt, w_neg, w_tupr, w_lstr,
  TGs.len, wq_pure, List.getElem?_cons_zero, List.getElem?_cons_succ, List.set_cons_zero, List.set_cons_succ, List.length_cons, List.length_nil, List.length_map, if_true, Bool.false_eq_true, if_false, startE, List.map_cons, List.map_nil, List.replicate, List.cons_append, List.nil_append, wipeE, Nat.zero_add, Nat.reduceAdd, Nat.reduceSub, true_and,
  w_getL_ref, w_getS_ref, w_getL_ro, w_getS_ro, w_getS_tup, w_add, w_sub, w_mul, w_addT, w_addL, w_mulL, w_fdiv, w_mod, w_pow, w_shl, w_lt, w_le, w_gt, w_ge, w_ltT, w_gtT, w_eq, w_ne, w_isN, w_isnN, w_in, w_nin, w_trB, w_trN, w_trI, w_trT, w_trL, w_lenT, w_lenR, w_lenL, w_sumT, w_sumL, w_int, w_intB, w_tupL, w_listL, w_listT, w_append, w_pop, w_reverse, w_isL, w_revT, w_asInt, w_slR, w_srcT, w_srcR, w_srcL, w_rng, w_zipT, w_unpkT, w_unpkL, w_eqB, w_eqT, w_eqI, w_ixT, w_eqS, w_eqTS, Bool.not_true, Bool.not_false, decide_true, decide_false, wd_lex_lex, wd_lex_degree, wd_lex_back, wd_lex_blocks, wd_lex_weights, wd_degree_lex, wd_degree_degree, wd_degree_back, wd_degree_blocks, wd_degree_weights, wd_back_lex, wd_back_degree, wd_back_back, wd_back_blocks, wd_back_weights, wd_blocks_lex, wd_blocks_degree, wd_blocks_back, wd_blocks_blocks, wd_blocks_weights, wd_weights_lex, wd_weights_degree, wd_weights_back, wd_weights_blocks, wd_weights_weights])
local macro_rules | `(tactic| walk_at "nx") => `(tactic| (rw [k_nx]; try walk_at "dl"))
local macro_rules | `(tactic| walk_at "cj") => `(tactic| repeat refine And.intro (by first | decide | exact lens_of (by decide) | exact lens_of (by simp) | simp) ?_)
theorem law_is_order_wq {n m k : Nat} {d : D} {S : Store} {Q : D → Store → Prop} (hd : PL k d) (hk : k ≤ 60) (hm : m ≤ 4) (h : ∀ (b : Bool) S', (b = true ↔ ordP m d) → Fr [] S S' → Q (.bl b) S') : wq (call gl fds (n + 6) f__law_is_order [.int m, d]) Q S := by
  rw [wq_call (fd := d__law_is_order) rfl rfl]
  dsimp only [d__law_is_order]
  unfold b__law_is_order
  walk_at "dl"
  cases d with
  | str x =>
    rw [w_isi (b := true) rfl]
    walk_at "dl"
    refine ⟨lens_of (by decide), rfl, h _ S ?_ .refl⟩
    rw [in3, ordP_str]
  | tup ds =>
    obtain ⟨hl, hds⟩ := pl_tup hd
    rw [w_isi (b := false) rfl]
    walk_at "dl"
    walk_at "nx"
    rw [w_isi (b := true) rfl]
    walk_at "dl"
    match ds, hl, hds with
    | [a, b], hl, hds =>
      have ha := hds a (by simp)
      have hb := hds b (by simp)
      have hno : a ≠ .str "blocks" → a ≠ .str "weights" → ¬ ordP m (.tup [a, b]) := fun h1 h2 h3 => by
        obtain ⟨a', b', e, q⟩ := ordP_tup h3
        cases e
        rcases q with q | q
        · exact h1 q.1
        · exact h2 q.1
      rw [if_neg (by simp)]
      rw [w_ixT atI_0]
      have nos : (∀ x, a ≠ .str x) → ¬ ordP m (.tup [a, b]) := fun h1 => hno (h1 _) (h1 _)
      cases a with
      | str x =>
        rw [w_isi (b := true) rfl]
        walk_at "dl"
        walk_at "nx"
        rw [w_eqW ha (by omega) ok_weights]
        by_cases c : x = "weights"
        · subst c
          rw [if_pos (by simp)]
          try walk_at "dl"
          refine are_rows_wq hb hm fun bb S1 e1 f1 => ?_
          try walk_at "dl"
          refine h bb S1 ?_ f1
          rw [e1]
          refine ⟨fun q => .inr (.inr (.inr (.inr ⟨b, rfl, q⟩))), fun q => ?_⟩
          obtain ⟨a', b', e, q⟩ := ordP_tup q
          cases e
          rcases q with q | q
          · exact absurd q.1 (by decide +kernel)
          · exact q.2
        · rw [if_neg (by simpa using c)]
          walk_at "nx"
          rw [w_eqW ha (by omega) ok_blocks]
          try walk_at "dl"
          by_cases c2 : x = "blocks"
          · subst c2
            rw [if_neg (by simp)]
            have sub : ordP m (.tup [.str "blocks", b]) ↔ idxP m b := ⟨fun q => by
              obtain ⟨a', b', e, q⟩ := ordP_tup q
              cases e
              rcases q with q | q
              · exact q.2
              · exact absurd q.1 (by decide +kernel), fun q => .inr (.inr (.inr (.inl ⟨b, rfl, q⟩)))⟩
            have nob : (∀ ds, b ≠ .tup ds) → (false = true ↔ ordP m (.tup [.str "blocks", b])) := fun hn => ⟨fun h => (by cases h), fun q => by
              obtain ⟨ns, e, _⟩ := sub.mp q
              exact absurd e (hn _)⟩
            cases b with
            | tup es =>
              obtain ⟨hel, hes⟩ := pl_tup hb
              rw [w_isi (b := true) rfl]
              walk_at "dl"
              walk_at "nx"
              refine compL_each (fun d => .bl (isIx m d)) (by omega) (fun _ _ => Gd_none) (fun d hd S' f => ?_) fun S1 f1 => ?_
              · walk_at "dl"
                refine ⟨by decide, is_index_wq (hes d hd) ⟨rfl, .refl⟩⟩
              · rw [bl_map, inF_bls, flat_bls]
                refine ⟨rfl, ?_⟩
                cases hall : (es.map (isIx m)).all id with
                | false =>
                  try rw [if_pos (by rfl)]
                  try walk_at "dl"
                  refine h false _ ⟨fun h => (by cases h), fun q => ?_⟩ (f1.new _)
                  obtain ⟨ns, e, h1, _⟩ := sub.mp q
                  cases e
                  rw [isIx_of h1] at hall
                  cases hall
                | true =>
                  try rw [if_neg (by decide)]
                  obtain ⟨ns, rfl, hns⟩ := isIx_all hall
                  walk_at "nx"
                  rw [List.length_map] at hel
                  refine ⟨by rw [small62_of (by omega) (by omega), small62_of (by omega) (by omega)]; rfl, ?_⟩
                  rw [show rngItems 1 (ns.length : Int) = (List.range (ns.length - 1)).map (fun (k : Nat) => D.int ((1 + k : Nat) : Int)) from rngItems_from' 1 ns.length]
                  refine compL_tot (e := fun (k : Nat) => D.int ((1 + k : Nat) : Int)) (fun k => .bl (decide (ns.getD k 0 < ns.getD (k + 1) 0))) (by simp; omega) (fun _ _ => Gd_none) (fun j hj S' f => ?_) fun S2 f2 => ?_
                  · have hj := List.mem_range.mp hj
                    walk_at "dl"
                    rw [show ((1 + j : Nat) : Int) - 1 = (j : Int) by omega, show 1 + j = j + 1 by omega]
                    refine ⟨by decide, ?_⟩
                    rw [w_ixT (atI_ints (by omega)), w_ixT (atI_ints (by omega)), w_lt]
                    exact ⟨rfl, .refl⟩
                  · rw [bl_map, inF_bls, flat_bls]
                    refine ⟨rfl, h _ _ ?_ (((f1.new _).trans f2).new _)⟩
                    rw [Bool.not_not, inc_all, sub]
                    refine ⟨fun q => ⟨ns, rfl, hns, q⟩, fun ⟨ms, e, _, q⟩ => ?_⟩
                    rw [tup_inj e]
                    exact q
            | int i => rw [w_isi (b := false) rfl]; walk_at "dl"; exact h false S (nob fun _ => by simp) .refl
            | non => rw [w_isi (b := false) rfl]; walk_at "dl"; exact h false S (nob fun _ => by simp) .refl
            | str x => rw [w_isi (b := false) rfl]; walk_at "dl"; exact h false S (nob fun _ => by simp) .refl
            | bl b => cases k - 1 <;> simp [PL, pl] at hb
            | ref b => cases k - 1 <;> simp [PL, pl] at hb
            | ro b => cases k - 1 <;> simp [PL, pl] at hb
          · rw [if_pos (by simpa using c2)]
            try walk_at "dl"
            try rw [if_pos (by rfl)]
            exact h false S ⟨fun h => (by cases h), fun q => absurd q (hno (by simpa using c2) (by simpa using c))⟩ .refl
      | int i => rw [w_isi (b := false) rfl]; walk_at "dl"; exact h false S ⟨fun h => (by cases h), fun q => absurd q (nos fun _ => by simp)⟩ .refl
      | non => rw [w_isi (b := false) rfl]; walk_at "dl"; exact h false S ⟨fun h => (by cases h), fun q => absurd q (nos fun _ => by simp)⟩ .refl
      | tup es => rw [w_isi (b := false) rfl]; walk_at "dl"; exact h false S ⟨fun h => (by cases h), fun q => absurd q (nos fun _ => by simp)⟩ .refl
      | bl b => cases k - 1 <;> simp [PL, pl] at ha
      | ref b => cases k - 1 <;> simp [PL, pl] at ha
      | ro b => cases k - 1 <;> simp [PL, pl] at ha
    | [], _, _ =>
      rw [if_pos (by simp)]
      try walk_at "dl"
      try rw [if_pos (by rfl)]
      exact h false S ⟨fun h => (by cases h), fun q => by obtain ⟨a, b, e, _⟩ := ordP_tup q; cases e⟩ .refl
    | [_], _, _ =>
      rw [if_pos (by simp)]
      try walk_at "dl"
      try rw [if_pos (by rfl)]
      exact h false S ⟨fun h => (by cases h), fun q => by obtain ⟨a, b, e, _⟩ := ordP_tup q; cases e⟩ .refl
    | _ :: _ :: _ :: es, _, _ =>
      rw [if_pos (by simp; omega)]
      try walk_at "dl"
      try rw [if_pos (by rfl)]
      exact h false S ⟨fun h => (by cases h), fun q => by obtain ⟨a, b, e, _⟩ := ordP_tup q; cases e⟩ .refl
  | int i =>
    rw [w_isi (b := false) rfl]; walk_at "dl"; walk_at "nx"
    rw [w_isi (b := false) rfl]; walk_at "dl"
    exact h false S (ordP_not (fun _ => by simp) (fun _ => by simp)) .refl
  | non =>
    rw [w_isi (b := false) rfl]; walk_at "dl"; walk_at "nx"
    rw [w_isi (b := false) rfl]; walk_at "dl"
    exact h false S (ordP_not (fun _ => by simp) (fun _ => by simp)) .refl
  | bl b => cases k <;> simp [PL, pl] at hd
  | ref b => cases k <;> simp [PL, pl] at hd
  | ro b => cases k <;> simp [PL, pl] at hd
end K01
end

section
set_option Elab.async false
set_option linter.all false
set_option maxRecDepth 100000
set_option maxHeartbeats 1000000
set_option exponentiation.threshold 20000
namespace K01
open PySem PySem.Spec L2 Dl
local macro_rules | `(tactic| walk_at "dl") => `(tactic| simp (disch := first | assumption | exact get_new | (refine get_app ?_; first | assumption | exact get_new | (refine get_app ?_; first | assumption | exact get_new)) | (refine get_set ?_; assumption) | exact atI_0 | exact atI_1 | exact atI_2 | exact ok_lex | exact ok_degree | exact ok_back | exact ok_blocks | exact ok_weights) only [
  e_cB, e_fB, e_var, e_int, e_bl, e_non, e_str, e_glo, e_tup, e_lst, e_op, e_neg, e_not, e_and, e_or, e_cmp, e_chain, e_ite, e_ix, e_sl, e_rev, e_call, e_bi, e_me, e_isi, e_isis, e_comp, e_tupr, e_lstr, e_nil, e_cons, e_ono, e_oso, e_cno, e_cso, vt_and, vt_or, vt_not, vt_cmp, vt_chain, vt_var, vt_bl, vt_call, vt_bi, vt_isi, vt_isis, vi_seq, vi_rng1, vi_rng2, vi_zip, vg_nm, vg_tp, vg_ixs, gs_nil, gs_cons, x_asg, x_par, x_aug, x_expr, x_ret, x_retN, x_ite, x_for, x_whl, x_pass, x_brk, x_cnt, xs_nil, k_one, k_cons, k_rt, k_bk, k_ct, r_nx, r_rt, w_neg, w_tupr, w_lstr,
  TGs.len, wq_pure, List.getElem?_cons_zero, List.getElem?_cons_succ, List.set_cons_zero, List.set_cons_succ, List.length_cons, List.length_nil, List.length_map, if_true, Bool.false_eq_true, if_false, startE, List.map_cons, List.map_nil, List.replicate, List.cons_append, List.nil_append, wipeE, Nat.zero_add, Nat.reduceAdd, Nat.reduceSub, true_and,
  w_getL_ref, w_getS_ref, w_getL_ro, w_getS_ro, w_getS_tup, w_add, w_sub, w_mul, w_addT, w_addL, w_mulL, w_fdiv, w_mod, w_pow, w_shl, w_lt, w_le, w_gt, w_ge, w_ltT, w_gtT, w_eq, w_ne, w_isN, w_isnN, w_in, w_nin, w_trB, w_trN, w_trI, w_trT, w_trL, w_lenT, w_lenR, w_lenL, w_sumT, w_sumL, w_int, w_intB, w_tupL, w_listL, w_listT, w_append, w_pop, w_reverse, w_isL, w_revT, w_asInt, w_slR, w_srcT, w_srcR, w_srcL, w_rng, w_zipT, w_unpkT, w_unpkL, w_eqB, w_eqT, w_eqI, w_ixT, w_slT, w_eqS, w_eqTS, Bool.not_true, Bool.not_false, decide_true, decide_false, wd_lex_lex, wd_lex_degree, wd_lex_back, wd_lex_blocks, wd_lex_weights, wd_degree_lex, wd_degree_degree, wd_degree_back, wd_degree_blocks, wd_degree_weights, wd_back_lex, wd_back_degree, wd_back_back, wd_back_blocks, wd_back_weights, wd_blocks_lex, wd_blocks_degree, wd_blocks_back, wd_blocks_blocks, wd_blocks_weights, wd_weights_lex, wd_weights_degree, wd_weights_back, wd_weights_blocks, wd_weights_weights])
local macro_rules | `(tactic| walk_at "nx") => `(tactic| (rw [k_nx]; try walk_at "dl"))
local macro_rules | `(tactic| walk_at "cj") => `(tactic| repeat refine And.intro (by first | decide | exact lens_of (by decide) | exact lens_of (by simp) | simp) ?_)
theorem lens_big {n : Nat} (h : n ≤ 1000000) : lens n = true := decide_eq_true (show n ≤ 2 ^ 24 by omega)
theorem w_revL {S : Store} {l : Nat} {ds : List D} {Q : D → Store → Prop} (h : S[l]? = some (.lst ds)) : wq (revD (.ref l)) Q S = Q (.ref S.length) (S ++ [.lst ds.reverse]) := by
  unfold revD
  dsimp only
  rw [wq_bind, wq_getO]
  exact propext ⟨fun ⟨o, e, k⟩ => by rw [h] at e; cases e; simpa only [wq_newO] using k, fun k => ⟨_, h, by simpa only [wq_newO] using k⟩⟩
theorem sameB_wq {n : Nat} {a b : Bool} {S : Store} {Q : D → Store → Prop} (h : Q (.bl (a == b)) S) : wq (call gl fds (n + 1) f__law_same [.bl a, .bl b]) Q S := by
  rw [wq_call (fd := d__law_same) rfl rfl]
  dsimp only [d__law_same]
  unfold b__law_same
  walk_at "dl"
  rw [w_isi (b := false) rfl]
  walk_at "dl"
  walk_at "nx"
  rw [w_isi (b := true) rfl, w_isi (b := true) rfl]
  walk_at "dl"
  rw [w_isi (b := true) rfl, w_isi (b := true) rfl]
  walk_at "dl"
  rw [if_neg (by decide), if_neg (by decide)]
  walk_at "nx"
  rw [w_isi (b := false) rfl, w_isi (b := false) rfl]
  walk_at "dl"
  rw [if_neg (by decide)]
  simp only [show decide (D.bl a = D.non) = false from rfl, show decide (D.bl b = D.non) = false from rfl]
  rw [if_neg (by decide)]
  walk_at "nx"
  exact h
theorem PL_tup {k : Nat} {ds : List D} (hl : ds.length ≤ 100) (h : ∀ d ∈ ds, PL k d) : PL (k + 1) (.tup ds) := by
  unfold PL
  simp only [pl, Bool.and_eq_true, decide_eq_true_eq, List.all_eq_true]
  exact ⟨hl, h⟩
theorem PL_int {k : Nat} {i : Int} (h1 : -1000 ≤ i) (h2 : i ≤ 1000) : PL k (.int i) := by
  have : (decide (-1000 ≤ i) && decide (i ≤ 1000)) = true := by rw [decide_eq_true h1, decide_eq_true h2]; rfl
  cases k <;> exact this
theorem PL_str {k : Nat} {x : Str} (h : WD.contains x = true) : PL k (.str x) := by cases k <;> exact h
theorem PL_non {k : Nat} : PL k .non := by cases k <;> rfl
theorem PL_mono {k k' : Nat} {d : D} (h : PL k d) (hk : k ≤ k') : PL k' d := pl_mono (by decide) (by decide) k k' d hk h
theorem PL_dI {k : Nat} {r : List Int} (hl : r.length ≤ 100) (h : Rg (-1000) 1000 r) : PL (k + 1) (dI r) := by
  unfold dI
  refine PL_tup (by simpa using hl) fun d hd => ?_
  obtain ⟨x, hx, rfl⟩ := List.mem_map.mp hd
  exact PL_int (h x hx).1 (h x hx).2
theorem PL_rows {k : Nat} {rows : List (List Int)} (hl : rows.length ≤ 100) (h : ∀ r ∈ rows, r.length ≤ 100 ∧ Rg (-1000) 1000 r) : PL (k + 2) (.tup (rows.map dI)) := by
  refine PL_tup (by simpa using hl) fun d hd => ?_
  obtain ⟨r, hr, rfl⟩ := List.mem_map.mp hd
  exact PL_dI (h r hr).1 (h r hr).2
theorem has_none_wq {n k : Nat} {d : D} {S : Store} {Q : D → Store → Prop} (hd : PL k d) (h : ∀ (b : Bool) S', Fr [] S S' → Q (.bl b) S') : wq (call gl fds (n + 1) f__law_has_none [d]) Q S := by
  rw [wq_call (fd := d__law_has_none) rfl rfl]
  dsimp only [d__law_has_none]
  unfold b__law_has_none
  walk_at "dl"
  walk_at "cj"
  walk_at "nx"
  walk_at "cj"
  rw [show rngItems 0 2000 = (List.range 2000).map fun (k : Nat) => D.int (k : Int) from rngItems_nat 2000]
  refine forL_inv1 (e := fun (k : Nat) => D.int (k : Int)) (fun i e S' => Fr [] S S' ∧ ∃ (l : Nat) (ds : List D), S.length ≤ l ∧ S'[l]? = some (.lst ds) ∧ ds.length ≤ 1 + 100 * i ∧ (∀ x ∈ ds, PL k x) ∧ ∃ o2 o3, e = [some d, some (.ref l), o2, o3]) (fun _ _ _ _ => Gd_none) ?_ ?_ ?_
  · exact ⟨Fr.new .refl _, S.length, [d], Nat.le_refl _, get_new, by simp, fun x hx => by rw [List.mem_singleton.mp hx]; exact hd, _, _, rfl⟩
  · rintro e S1 ⟨f1, l, ds, _, _, _, _, o2, o3, rfl⟩
    walk_at "nx"
    exact h false S1 f1
  · rintro i x e S1 hx ⟨f1, l, ds, hle, g, hl, hds, o2, o3, rfl⟩
    have hi : i < 2000 := by
      have := (List.getElem?_eq_some_iff.mp hx).1
      rwa [List.length_range] at this
    walk_at "dl"
    refine ⟨by decide, ?_⟩
    rcases List.eq_nil_or_concat ds with rfl | ⟨es, y, rfl⟩
    · rw [if_pos (by simp)]
      try walk_at "nx"
      exact h false S1 f1
    · rw [List.concat_eq_append] at g hds hl
      rw [if_neg (by simp; omega)]
      walk_at "nx"
      try rw [w_isL g, w_pop g]
      have hy := hds y (by simp)
      have f2 : Fr [] S (S1.set l (.lst es)) := f1.set _ (.inr hle)
      have g2 := get_set (o := Ob.lst es) g
      have hes : ∀ x ∈ es, PL k x := fun x hx => hds x (by simp [hx])
      simp only [List.length_append, List.length_cons, List.length_nil] at hl
      generalize S1.set l (.lst es) = S2 at *
      refine ⟨by decide, ?_⟩
      walk_at "nx"
      cases y with
      | non => rw [if_pos (by simp)]; exact h true S2 f2
      | int j =>
        rw [if_neg (by simp)]
        walk_at "nx"
        rw [w_isi (b := false) rfl]
        walk_at "dl"
        walk_at "nx"
        exact ⟨f2, l, es, hle, g2, by omega, hes, _, _, rfl⟩
      | str j =>
        rw [if_neg (by simp)]
        walk_at "nx"
        rw [w_isi (b := false) rfl]
        walk_at "dl"
        walk_at "nx"
        exact ⟨f2, l, es, hle, g2, by omega, hes, _, _, rfl⟩
      | tup js =>
        obtain ⟨hjl, hjs⟩ := pl_tup hy
        rw [if_neg (by simp)]
        walk_at "nx"
        rw [w_isi (b := true) rfl]
        walk_at "dl"
        try rw [w_addL (get_app g2) get_new]
        refine ⟨lens_big (by omega), by decide, ?_⟩
        walk_at "nx"
        walk_at "nx"
        refine ⟨(f2.new _).new _, _, es ++ js, ?_, get_new, by simp; omega, fun x hx => ?_, _, _, rfl⟩
        · simp only [List.length_append]
          have := f2.le
          omega
        · rcases List.mem_append.mp hx with hx | hx
          · exact hes x hx
          · exact PL_mono (hjs x hx) (by omega)
      | bl b => cases k <;> simp [PL, pl] at hy
      | ref b => cases k <;> simp [PL, pl] at hy
      | ro b => cases k <;> simp [PL, pl] at hy
theorem drawn_rows_wq {n l m : Nat} {S : Store} {Q : D → Store → Prop} (hd : Dw l S) (hm : m ≤ 10) (h : ∀ (rows : List (List Int)) S', rows.length = m → (∀ r ∈ rows, r.length = m ∧ Rg (-2) 2 r) → Dr l S S' → Q (.tup (rows.map dI)) S') : wq (call gl fds (n + 3) f__law_drawn_rows [.ref l, .int m]) Q S := by
  rw [wq_call (fd := d__law_drawn_rows) rfl rfl]
  dsimp only [d__law_drawn_rows]
  unfold b__law_drawn_rows
  walk_at "dl"
  refine ⟨small_rng (by omega), ?_⟩
  rw [rngItems_nat]
  refine compL_drw (e := fun (k : Nat) => D.int (k : Int)) (e2 := dI) (R := fun _ r => r.length = m ∧ Rg (-2) 2 r) (by simp; omega) (fun _ _ => Gd_none) hd (fun k hk S' a => ?_) fun rows S1 h1 h2 a => ?_
  · walk_at "dl"
    refine ⟨by decide, small_rng (by omega), ?_⟩
    rw [rngItems_nat]
    refine compL_drw (e := fun (k : Nat) => D.int (k : Int)) (e2 := D.int) (R := fun _ y => -2 ≤ y ∧ y ≤ 2) (by simp; omega) (fun _ _ => Gd_none) a.d (fun j hj S2 b => ?_) fun r S2 h1 h2 b => ?_
    · walk_at "dl"
      walk_at "cj"
      refine pick_wq (b.d.new _) get_new (by have := b.d.lt; omega) (by decide) fun d S4 hm4 d4 => ?_
      refine ⟨?_, (b.d.refl.new _).trans d4⟩
      simp only [List.mem_cons, List.not_mem_nil, or_false] at hm4
      rcases hm4 with rfl | rfl | rfl | rfl | rfl <;> exact ⟨_, rfl, by decide⟩
    · try walk_at "dl"
      refine ⟨⟨r, rfl, by simpa using h1, fun y hy => ?_⟩, b.new _⟩
      obtain ⟨i, hi, rfl⟩ := List.getElem_of_mem hy
      have := h2 ((List.range m)[i]'(by simp at h1 ⊢; omega), r[i]) (by
        rw [List.mem_iff_getElem]
        exact ⟨i, by simp at h1 ⊢; omega, by simp⟩)
      exact this
  · try walk_at "dl"
    refine h rows _ (by simpa using h1) (fun r hr => ?_) (a.new _)
    obtain ⟨i, hi, rfl⟩ := List.getElem_of_mem hr
    exact h2 ((List.range m)[i]'(by simp at h1 ⊢; omega), rows[i]) (by
      rw [List.mem_iff_getElem]
      exact ⟨i, by simp at h1 ⊢; omega, by simp⟩)
end K01
end

section
set_option Elab.async false
set_option linter.all false
set_option maxRecDepth 100000
set_option maxHeartbeats 1000000
set_option exponentiation.threshold 20000
namespace K01
open PySem PySem.Spec L2 Dl
local macro_rules | `(tactic| walk_at "dl") => `(tactic| simp (disch := first | assumption | exact get_new | (refine get_app ?_; first | assumption | exact get_new | (refine get_app ?_; first | assumption | exact get_new)) | (refine get_set ?_; assumption) | exact atI_0 | exact atI_1 | exact atI_2 | exact ok_lex | exact ok_degree | exact ok_back | exact ok_blocks | exact ok_weights) only [
  e_cB, e_fB, e_var, e_int, e_bl, e_non, e_str, e_glo, e_tup, e_lst, e_op, e_neg, e_not, e_and, e_or, e_cmp, e_chain, e_ite, e_ix, e_sl, e_rev, e_call, e_bi, e_me, e_isi, e_isis, e_comp, e_tupr, e_lstr, e_nil, e_cons, e_ono, e_oso, e_cno, e_cso, vt_and, vt_or, vt_not, vt_cmp, vt_chain, vt_var, vt_bl, vt_call, vt_bi, vt_isi, vt_isis, vi_seq, vi_rng1, vi_rng2, vi_zip, vg_nm, vg_tp, vg_ixs, gs_nil, gs_cons, x_asg, x_par, x_aug, x_expr, x_ret, x_retN, x_ite, x_for, x_whl, x_pass, x_brk, x_cnt, xs_nil, k_one, k_cons, k_rt, k_bk, k_ct, r_nx, r_rt, w_neg, w_tupr, w_lstr,
  TGs.len, wq_pure, List.getElem?_cons_zero, List.getElem?_cons_succ, List.set_cons_zero, List.set_cons_succ, List.length_cons, List.length_nil, List.length_map, if_true, Bool.false_eq_true, if_false, startE, List.map_cons, List.map_nil, List.replicate, List.cons_append, List.nil_append, wipeE, Nat.zero_add, Nat.reduceAdd, Nat.reduceSub, true_and,
  w_getL_ref, w_getS_ref, w_getL_ro, w_getS_ro, w_getS_tup, w_add, w_sub, w_mul, w_addT, w_addL, w_mulL, w_fdiv, w_mod, w_pow, w_shl, w_lt, w_le, w_gt, w_ge, w_ltT, w_gtT, w_eq, w_ne, w_isN, w_isnN, w_in, w_nin, w_trB, w_trN, w_trI, w_trT, w_trL, w_lenT, w_lenR, w_lenL, w_sumT, w_sumL, w_int, w_intB, w_tupL, w_listL, w_listT, w_append, w_pop, w_reverse, w_isL, w_revT, w_asInt, w_slR, w_srcT, w_srcR, w_srcL, w_rng, w_zipT, w_unpkT, w_unpkL, w_eqB, w_eqT, w_eqI, w_ixT, w_slT, w_eqS, w_eqTS, Bool.not_true, Bool.not_false, decide_true, decide_false, wd_lex_lex, wd_lex_degree, wd_lex_back, wd_lex_blocks, wd_lex_weights, wd_degree_lex, wd_degree_degree, wd_degree_back, wd_degree_blocks, wd_degree_weights, wd_back_lex, wd_back_degree, wd_back_back, wd_back_blocks, wd_back_weights, wd_blocks_lex, wd_blocks_degree, wd_blocks_back, wd_blocks_blocks, wd_blocks_weights, wd_weights_lex, wd_weights_degree, wd_weights_back, wd_weights_blocks, wd_weights_weights])
local macro_rules | `(tactic| walk_at "nx") => `(tactic| (rw [k_nx]; try walk_at "dl"))
local macro_rules | `(tactic| walk_at "cj") => `(tactic| repeat refine And.intro (by first | decide | exact lens_of (by decide) | exact lens_of (by simp) | simp) ?_)
local macro_rules | `(tactic| walk_at "cd") => `(tactic| repeat refine And.intro (by decide) ?_)
/-- what is spoilt: whole numbers, the word, tuples of these -/
def ps : Nat → D → Bool
  | n, .int i => decide (-300 ≤ i) && decide (i ≤ 300)
  | n, .str x => decide (x = "weights")
  | n + 1, .tup ds => decide (ds.length ≤ 20) && ds.all (ps n)
  | _, _ => false
theorem ps_tup {n : Nat} {ds : List D} (h : ps n (.tup ds) = true) : ds.length ≤ 20 ∧ ∀ d ∈ ds, ps (n - 1) d = true := by
  cases n with
  | zero => simp [ps] at h
  | succ n =>
    simp only [ps, Bool.and_eq_true, decide_eq_true_eq, List.all_eq_true] at h
    exact h
theorem ps_up : ∀ (n : Nat) (d : D), ps n d = true → ps (n + 1) d = true
  | n, .int i, h => by cases n <;> exact h
  | n, .str x, h => by cases n <;> exact h
  | 0, .tup ds, h => by simp [ps] at h
  | n + 1, .tup ds, h => by
    obtain ⟨h1, h2⟩ := ps_tup h
    simp only [ps, Bool.and_eq_true, decide_eq_true_eq, List.all_eq_true]
    exact ⟨h1, fun d hd => ps_up n d (h2 d hd)⟩
  | n, .non, h => by cases n <;> simp [ps] at h
  | n, .bl _, h => by cases n <;> simp [ps] at h
  | n, .ref _, h => by cases n <;> simp [ps] at h
  | n, .ro _, h => by cases n <;> simp [ps] at h
theorem ps_el {n : Nat} {ds : List D} (h : ps n (.tup ds) = true) {d : D} (hd : d ∈ ds) : ps n d = true := by
  have := (ps_tup h).2 d hd
  cases n with
  | zero => exact this
  | succ n => exact ps_up n d this
theorem ps_PL : ∀ (n : Nat) (d : D), ps n d = true → PL n d
  | n, .int i, h => by
    have : -300 ≤ i ∧ i ≤ 300 := by cases n <;> simpa [ps] using h
    exact PL_int (by omega) (by omega)
  | n, .str x, h => by
    have : x = "weights" := by cases n <;> simpa [ps] using h
    subst this
    exact PL_str (by decide +kernel)
  | 0, .tup ds, h => by simp [ps] at h
  | n + 1, .tup ds, h => by
    obtain ⟨h1, h2⟩ := ps_tup h
    exact PL_tup (by omega) fun d hd => ps_PL n d (h2 d hd)
  | n, .non, h => by cases n <;> simp [ps] at h
  | n, .bl _, h => by cases n <;> simp [ps] at h
  | n, .ref _, h => by cases n <;> simp [ps] at h
  | n, .ro _, h => by cases n <;> simp [ps] at h
theorem cut_sub {ds : List D} {lo hi : Option Int} : (cutD ds lo hi).length ≤ ds.length ∧ ∀ d ∈ cutD ds lo hi, d ∈ ds := by
  unfold cutD
  refine ⟨?_, fun d hd => List.mem_of_mem_drop (List.mem_of_mem_take hd)⟩
  simp only [List.length_take, List.length_drop]
  omega
theorem w_slS {S : Store} {z : Str} {lo hi : Option Int} {Q : D → Store → Prop} : wq (slD (.str z) lo hi) Q S = (lens z.length = true ∧ Q (.str (cutS z lo hi)) S) := by
  unfold slD
  dsimp only
  rw [wq_bind, wq_need, wq_pure]
theorem w_addS {S : Store} {x y : Str} {Q : D → Store → Prop} : wq (bop .Add (.str x) (.str y)) Q S = (lens (x.length + y.length) = true ∧ Q (.str (x ++ y)) S) := by
  unfold bop
  dsimp only
  rw [wq_bind, wq_need, wq_pure]
theorem abs_wq {α : Type} {m : M α} {Q : α → Store → Prop} {S : Store} (h : ∀ K, K = Q → wq m K S) : wq m Q S := h Q rfl
/-- a step of the path -/
def stepO (z : List D × Int) : Ob := .lst [.tup z.1, .int z.2]
theorem spoilt_wq {n l : Nat} {d : D} {S : Store} {Q : D → Store → Prop} (hd : Dw l S) (hp : ps 6 d = true) (h : ∀ (d' : D) S', PL 30 d' → Dr l S S' → Q d' S') : wq (call gl fds (n + 3) f__law_spoilt [.ref l, d]) Q S := by
  rw [wq_call (fd := d__law_spoilt) rfl rfl]
  dsimp only [d__law_spoilt]
  unfold b__law_spoilt
  walk_at "dl"
  walk_at "cj"
  walk_at "nx"
  walk_at "cj"
  walk_at "nx"
  walk_at "cj"
  have hlt := hd.lt
  -- what comes behind the path
  have key : ∀ (here : D) (S1 : Store) (pr : Nat) (rs : List Nat) (zs : List (List D × Int)) (o4 o5 o6 o7 : Option D), ps 6 here = true → Dr l S S1 → S.length ≤ pr → S1[pr]? = some (.lst (rs.map .ref)) → rs.length = zs.length → zs.length ≤ 12 →
      (∀ (i r : Nat) (z : List D × Int), rs[i]? = some r → zs[i]? = some z → S1[r]? = some (stepO z) ∧ r ≠ l ∧ ps 6 (.tup z.1) = true) →
      kQ gl (Dl.call gl fds (n + 2)) (ISs.cons (.ite (.isi (.var 3) .tuple) (.cons (.asg (.nm 5) (.call f__law_take (.cons (.var 0) (.cons (.op .Add (.bi .len (.cons (.var 3) .nil)) (.int 1)) .nil))))
  (.cons (.asg (.nm 6) (.call f__law_pick (.cons (.var 0) (.cons (.lst (.cons (.op .Add (.sl (.var 3) .no (.so (.var 5))) (.sl (.var 3) (.so (.op .Add (.var 5) (.int 1))) .no)) (.cons (.op .Add (.op .Add (.sl (.var 3) .no (.so (.var 5))) (.sl (.sl (.var 3) (.so (.var 5)) .no) .no (.so (.int 1)))) (.sl (.var 3) (.so (.var 5)) .no)) (.cons (.op .Add (.sl (.var 3) (.so (.var 5)) .no) (.sl (.var 3) .no (.so (.var 5)))) (.cons (.op .Add (.var 3) (.tup (.cons (.tup .nil) .nil))) (.cons (.tup .nil) (.cons (.op .Add (.op .Add (.sl (.var 3) .no (.so (.var 5))) (.tup (.cons (.int 0) .nil))) (.sl (.var 3) (.so (.op .Add (.var 5) (.int 1))) .no)) (.cons (.op .Add (.op .Add (.sl (.var 3) .no (.so (.var 5))) (.tup (.cons .non .nil))) (.sl (.var 3) (.so (.op .Add (.var 5) (.int 1))) .no)) .nil)))))))) .nil))))
  .nil)) (.cons (.ite (.isi (.var 3) .str) (.cons (.asg (.nm 6) (.call f__law_pick (.cons (.var 0) (.cons (.lst (.cons (.op .Add (.var 3) (.str "a")) (.cons (.sl (.var 3) (.so (.int 1)) .no) (.cons (.int 0) (.cons (.str "in") (.cons (.str "out") (.cons (.str "within") (.cons (.str "first") .nil)))))))) .nil))))
  .nil) (.cons (.asg (.nm 6) (.call f__law_pick (.cons (.var 0) (.cons (.lst (.cons (.op .Add (.var 3) (.int 1)) (.cons (.op .Sub (.var 3) (.int 1)) (.cons (.op .Add (.var 3) (.int 1)) (.cons (.op .Mult (.int 2) (.var 3)) (.cons (.op .Sub (.int 0) (.var 3)) (.cons (.int 0) (.cons (.str "a") (.cons (.tup (.cons (.var 3) .nil)) .nil))))))))) .nil))))
  .nil))
  .nil))
  (.cons (.forr (.tp (.cons (.nm 7) (.cons (.nm 5) .nil))) (.seq (.rev (.var 2))) (.cons (.asg (.nm 6) (.op .Add (.op .Add (.sl (.var 7) .no (.so (.var 5))) (.tup (.cons (.var 6) .nil))) (.sl (.var 7) (.so (.op .Add (.var 5) (.int 1))) .no)))
  .nil))
  (.cons (.ret (.var 6))
  .nil))) (fun r S' => wq (ofFl r) Q S') (.nx, [some (.ref l), some d, some (.ref pr), some here, o4, o5, o6, o7]) S1 := by
    intro here S1 pr rs zs o4 o5 o6 o7 hh d1 hpr gp hrz hz12 hst
    have hpl : pr ≠ l := by omega
    -- the rest: the path is gone back
    have back : ∀ (new : D) (S2 : Store) (o5 o7 : Option D), PL 9 new → Dr l S1 S2 → kQ gl (Dl.call gl fds (n + 2)) (ISs.cons (.forr (.tp (.cons (.nm 7) (.cons (.nm 5) .nil))) (.seq (.rev (.var 2))) (.cons (.asg (.nm 6) (.op .Add (.op .Add (.sl (.var 7) .no (.so (.var 5))) (.tup (.cons (.var 6) .nil))) (.sl (.var 7) (.so (.op .Add (.var 5) (.int 1))) .no)))
  .nil))
  (.cons (.ret (.var 6))
  .nil)) (fun r S' => wq (ofFl r) Q S') (.nx, [some (.ref l), some d, some (.ref pr), some here, o4, o5, some new, o7]) S2 := by
      intro new S2 o5 o7 hnew d2
      walk_at "nx"
      rw [w_revL (d2.get gp hpl), w_srcL get_new]
      dsimp only
      have g3 : (S2 ++ [Ob.lst (rs.map D.ref).reverse])[S2.length]? = some (.lst ((rs.reverse).map .ref)) := by rw [List.map_reverse]; exact get_new
      have d3 : Dr l S1 (S2 ++ [Ob.lst (rs.map D.ref).reverse]) := d2.new _
      rw [← List.map_reverse] at g3 d3 ⊢
      generalize S2 ++ [Ob.lst (rs.reverse.map D.ref)] = S3 at *
      generalize S2.length = rl at *
      refine forL_inv1 (e := D.ref) (fun i e S' => S' = S3 ∧ ∃ (o5 o7 : Option D) (nw : D), PL (9 + i) nw ∧ e = [some (.ref l), some d, some (.ref pr), some here, o4, o5, some nw, o7]) (fun _ _ _ k => by rw [k.1]; exact Gd_ref g3) ?_ ?_ ?_
      · exact ⟨rfl, _, _, new, hnew, rfl⟩
      · rintro e S4 ⟨rfl, o5, o7, nw, hn, rfl⟩
        walk_at "nx"
        refine h nw S4 (PL_mono hn ?_) (d1.trans d3)
        rw [List.length_reverse]
        omega
      · rintro i r e S4 hr ⟨rfl, o5, o7, nw, hn, rfl⟩
        have hil := (List.getElem?_eq_some_iff.mp hr).1
        rw [List.length_reverse] at hil
        rw [List.getElem?_reverse hil] at hr
        have hz : zs[rs.length - 1 - i]? = some (zs[rs.length - 1 - i]'(by omega)) := List.getElem?_eq_getElem _
        obtain ⟨q1, q2, q3⟩ := hst _ r _ hr hz
        generalize zs[rs.length - 1 - i]'(by omega) = z at *
        have q4 := d3.get q1 q2
        unfold stepO at q4
        obtain ⟨hzl, hze⟩ := ps_tup q3
        walk_at "dl"
        walk_at "cd"
        have c1 := cut_sub (ds := z.1) (lo := none) (hi := some z.2)
        have c2 := cut_sub (ds := z.1) (lo := some (z.2 + 1)) (hi := none)
        simp only [List.length_append, List.length_cons, List.length_nil]
        refine ⟨lens_of (by omega), lens_of (by omega), ?_⟩
        walk_at "cd"
        walk_at "nx"
        refine ⟨_, _, _, PL_tup (k := 9 + i) (by simp; omega) fun e he => ?_, rfl⟩
        have big : ∀ e ∈ z.1, PL (9 + i) e := fun e he => PL_mono (ps_PL 6 e (ps_el q3 he)) (by omega)
        simp only [List.mem_append, List.mem_cons, List.not_mem_nil, or_false] at he
        rcases he with (he | rfl) | he
        · exact big e (c1.2 e he)
        · exact hn
        · exact big e (c2.2 e he)
    have cuts : ∀ (ds : List D) (lo hi : Option Int), ps 6 (.tup ds) = true → (cutD ds lo hi).length ≤ 20 ∧ ∀ e ∈ cutD ds lo hi, PL 8 e := fun ds lo hi hps => by
      obtain ⟨h1, h2⟩ := ps_tup hps
      have c := cut_sub (ds := ds) (lo := lo) (hi := hi)
      exact ⟨by omega, fun e he => PL_mono (ps_PL 6 e (ps_el hps (c.2 e he))) (by omega)⟩
    walk_at "nx"
    cases here with
    | tup ds =>
      obtain ⟨hdl, hde⟩ := ps_tup hh
      rw [w_isi (b := true) rfl]
      walk_at "dl"
      refine take_wq d1.d (by omega) fun k S2 k0 k1 d2 => ?_
      try walk_at "dl"
      walk_at "cd"
      walk_at "nx"
      have a1 := cuts ds none (some k) hh
      have a2 := cuts ds (some (k + 1)) none hh
      have a3 := cuts ds (some k) none hh
      have a4 : (cutD (cutD ds (some k) none) none (some 1)).length ≤ 20 ∧ ∀ e ∈ cutD (cutD ds (some k) none) none (some 1), PL 8 e := by
        have c := cut_sub (ds := cutD ds (some k) none) (lo := none) (hi := some 1)
        exact ⟨by omega, fun e he => a3.2 e (c.2 e he)⟩
      have a0 : ∀ e ∈ ds, PL 8 e := fun e he => PL_mono (ps_PL 6 e (ps_el hh he)) (by omega)
      simp only [List.length_append, List.length_cons, List.length_nil]
      repeat refine And.intro (lens_of (by omega)) ?_
      refine pick_wq (d2.d.new _) get_new (by have := d2.d.lt; omega) (by simp) fun new S3 hm3 d3 => ?_
      refine ⟨by decide, ?_⟩
      walk_at "nx"
      refine back new S3 _ _ ?_ ((d2.trans (d2.d.refl.new _)).trans d3)
      simp only [List.mem_cons, List.not_mem_nil, or_false] at hm3
      have app : ∀ xs ys : List D, xs.length ≤ 50 → ys.length ≤ 50 → (∀ e ∈ xs, PL 8 e) → (∀ e ∈ ys, PL 8 e) → PL 9 (.tup (xs ++ ys)) := fun xs ys h1 h2 h3 h4 => PL_tup (by simp; omega) fun e he => by
        rcases List.mem_append.mp he with he | he
        · exact h3 e he
        · exact h4 e he
      have one : ∀ (xs : List D) (y : D), xs.length ≤ 20 → (∀ e ∈ xs, PL 8 e) → PL 8 y → (xs ++ [y]).length ≤ 50 ∧ ∀ e ∈ xs ++ [y], PL 8 e := fun xs y h1 h2 h3 => ⟨by simp; omega, fun e he => by
        rcases List.mem_append.mp he with he | he
        · exact h2 e he
        · rw [List.mem_singleton.mp he]; exact h3⟩
      rcases hm3 with rfl | rfl | rfl | rfl | rfl | rfl | rfl
      · exact app _ _ (by omega) (by omega) a1.2 a2.2
      · refine app _ _ (by simp; omega) (by omega) (fun e he => ?_) a3.2
        rcases List.mem_append.mp he with he | he
        · exact a1.2 e he
        · exact a4.2 e he
      · exact app _ _ (by omega) (by omega) a3.2 a1.2
      · exact app _ _ (by omega) (by decide) a0 (fun e he => by rw [List.mem_singleton.mp he]; exact PL_tup (k := 7) (by decide) fun e he => by cases he)
      · exact PL_tup (by decide) fun e he => by cases he
      · have := one _ (.int 0) a1.1 a1.2 (PL_int (by decide) (by decide))
        exact app _ _ this.1 (by omega) this.2 a2.2
      · have := one _ .non a1.1 a1.2 PL_non
        exact app _ _ this.1 (by omega) this.2 a2.2
    | str x =>
      have hx : x = "weights" := by simpa [ps] using hh
      subst hx
      rw [w_isi (b := false) rfl]
      walk_at "dl"
      rw [w_isi (b := true) rfl]
      walk_at "dl"
      rw [w_addS, w_slS]
      refine ⟨by decide +kernel, by decide +kernel, ?_⟩
      try walk_at "dl"
      walk_at "cd"
      refine pick_wq (d1.d.new _) get_new (by have := d1.d.lt; omega) (by simp) fun new S3 hm3 d3 => ?_
      refine ⟨by decide, ?_⟩
      walk_at "nx"
      walk_at "nx"
      refine back new S3 _ _ ?_ ((d1.d.refl.new _).trans d3)
      simp only [List.mem_cons, List.not_mem_nil, or_false] at hm3
      rcases hm3 with rfl | rfl | rfl | rfl | rfl | rfl | rfl
      · exact PL_str (by decide +kernel)
      · exact PL_str (by decide +kernel)
      · exact PL_int (by decide) (by decide)
      · exact PL_str (by decide +kernel)
      · exact PL_str (by decide +kernel)
      · exact PL_str (by decide +kernel)
      · exact PL_str (by decide +kernel)
    | int i =>
      have hi : -300 ≤ i ∧ i ≤ 300 := by simpa [ps] using hh
      rw [w_isi (b := false) rfl]
      walk_at "dl"
      rw [w_isi (b := false) rfl]
      walk_at "dl"
      refine ⟨mulFits_of (fits_small (by omega) (by omega)) (fits_small (by omega) (by omega)), ?_⟩
      walk_at "cd"
      refine pick_wq (d1.d.new _) get_new (by have := d1.d.lt; omega) (by simp) fun new S3 hm3 d3 => ?_
      refine ⟨by decide, ?_⟩
      walk_at "nx"
      walk_at "nx"
      refine back new S3 _ _ ?_ ((d1.d.refl.new _).trans d3)
      simp only [List.mem_cons, List.not_mem_nil, or_false] at hm3
      rcases hm3 with rfl | rfl | rfl | rfl | rfl | rfl | rfl | rfl
      · exact PL_int (by omega) (by omega)
      · exact PL_int (by omega) (by omega)
      · exact PL_int (by omega) (by omega)
      · exact PL_int (by omega) (by omega)
      · exact PL_int (by omega) (by omega)
      · exact PL_int (by decide) (by decide)
      · exact PL_str (by decide +kernel)
      · exact PL_tup (by simp) fun e he => by rw [List.mem_singleton.mp he]; exact PL_int (by omega) (by omega)
    | non => simp [ps] at hh
    | bl b => simp [ps] at hh
    | ref b => simp [ps] at hh
    | ro b => simp [ps] at hh
  have g1 : (S ++ [Ob.lst []])[S.length]? = some (.lst (([] : List Nat).map .ref)) := get_new
  have d1 : Dr l S (S ++ [Ob.lst []]) := hd.refl.new _
  have hple : S.length ≤ S.length := Nat.le_refl _
  generalize S ++ [Ob.lst []] = S1 at *
  generalize hpr : S.length = pr at *
  have hprl : pr ≠ l := by omega
  rw [show rngItems 0 12 = (List.range 12).map fun (k : Nat) => D.int (k : Int) from rngItems_nat 12]
  refine forL_inv1 (e := fun (k : Nat) => D.int (k : Int)) (fun j e S' => Dr l S S' ∧ ∃ (here : D) (rs : List Nat) (zs : List (List D × Int)) (o4 o5 o6 o7 : Option D), ps 6 here = true ∧ S'[pr]? = some (.lst (rs.map .ref)) ∧ rs.length = zs.length ∧ zs.length ≤ j ∧
    (∀ (i r : Nat) (z : List D × Int), rs[i]? = some r → zs[i]? = some z → S'[r]? = some (stepO z) ∧ r ≠ l ∧ ps 6 (.tup z.1) = true) ∧ e = [some (.ref l), some d, some (.ref pr), some here, o4, o5, o6, o7]) (fun _ _ _ _ => Gd_none) ?_ ?_ ?_
  · exact ⟨d1, d, [], [], _, _, _, _, hp, g1, rfl, by simp, fun i r z h => by simp at h, rfl⟩
  · rintro e S3 ⟨d3, here, rs, zs, o4, o5, o6, o7, hh, gp, hrz, hzj, hst, rfl⟩
    exact key here S3 pr rs zs _ _ _ _ hh d3 (by omega) gp hrz hzj hst
  · rintro j x e S3 hx ⟨d3, here, rs, zs, o4, o5, o6, o7, hh, gp, hrz, hzj, hst, rfl⟩
    have hj : j < 12 := by
      have := (List.getElem?_eq_some_iff.mp hx).1
      rwa [List.length_range] at this
    rw [e_fB, vg_nm]
    refine ⟨by simp, ?_⟩
    simp only [List.set_cons_zero, List.set_cons_succ]
    rw [k_cons]
    refine abs_wq fun K hK => ?_
    walk_at "dl"
    cases here with
    | tup ds =>
      obtain ⟨hdl, hde⟩ := ps_tup hh
      rw [w_isi (b := true) rfl]
      walk_at "dl"
      by_cases c1 : ds.length = 0
      · rw [if_pos (by simp [c1])]
        subst hK
        try walk_at "dl"
        exact key (.tup ds) S3 pr rs zs _ _ _ _ hh d3 (by omega) gp hrz (by omega) hst
      · rw [if_neg (by simpa using c1)]
        by_cases c2 : 0 < (x : Int)
        · rw [if_pos (decide_eq_true c2)]
          refine take_wq d3.d (by decide) fun r S4 r0 r1 dd => ?_
          try walk_at "dl"
          by_cases c3 : r = 0
          · try rw [if_pos (by simp [c3])]
            subst hK
            try walk_at "dl"
            exact key (.tup ds) S4 pr rs zs _ _ _ _ hh (d3.trans dd) (by omega) (dd.get gp hprl) hrz (by omega) (fun i r z e1 e2 => ⟨dd.get (hst i r z e1 e2).1 (hst i r z e1 e2).2.1, (hst i r z e1 e2).2⟩)
          · try rw [if_neg (by simpa using c3)]
            subst hK
            walk_at "nx"
            refine take_wq dd.d (by omega) fun k S4 k0 k1 d4 => ?_
            try walk_at "dl"
            walk_at "cd"
            walk_at "nx"
            have hk : k.toNat < ds.length := by omega
            have dS4 := (d3.trans dd).trans d4
            have gp4 := d4.get (dd.get gp hprl) hprl
            rw [w_isL gp4]
            try walk_at "dl"
            walk_at "cd"
            have gp5 := get_app (o := Ob.lst [.tup ds, .int k]) gp4
            try rw [w_append gp5]
            refine ⟨by rw [hrz]; exact Nat.lt_of_le_of_lt (show zs.length ≤ 12 by omega) (by decide), ?_⟩
            walk_at "nx"
            rw [w_ixT (atI_of k0 (List.getElem?_eq_getElem hk))]
            walk_at "cd"
            have hS4 := dS4.d.lt
            have hS4' : S.length ≤ S4.length := dS4.f.le
            have hpr4 := lt_of_get gp4
            refine ⟨(dS4.new _).set _ (by omega) hprl, ds[k.toNat], rs ++ [S4.length], zs ++ [(ds, k)], _, _, _, _, ps_el hh (List.getElem_mem _), by rw [get_set gp5]; simp, by simp [hrz], by simp; omega, fun i r z e1 e2 => ?_, rfl⟩
            by_cases c9 : i < rs.length
            · rw [List.getElem?_append_left c9] at e1
              rw [List.getElem?_append_left (by omega)] at e2
              obtain ⟨q1, q2, q3⟩ := hst i r z e1 e2
              have q4 := d4.get (dd.get q1 q2) q2
              have hrp : r ≠ pr := by
                rintro rfl
                rw [q1] at gp
                unfold stepO at gp
                cases rs with
                | nil => simp at gp
                | cons _ _ => simp at gp
              exact ⟨by rw [List.getElem?_set_ne (by omega)]; exact get_app q4, q2, q3⟩
            · rw [List.getElem?_append_right (by omega)] at e1
              rw [List.getElem?_append_right (by omega)] at e2
              have h0 : i - rs.length = 0 := by
                cases e : i - rs.length with
                | zero => rfl
                | succ j => rw [e] at e1; simp at e1
              rw [h0] at e1
              rw [show i - zs.length = 0 by omega] at e2
              simp at e1 e2
              subst e1 e2
              exact ⟨by rw [List.getElem?_set_ne (by omega)]; exact get_new, by omega, hh⟩
        · rw [if_neg (by simpa using c2)]
          try walk_at "dl"
          have dd : Dr l S3 S3 := d3.d.refl
          subst hK
          walk_at "nx"
          refine take_wq dd.d (by omega) fun k S4 k0 k1 d4 => ?_
          try walk_at "dl"
          walk_at "cd"
          walk_at "nx"
          have hk : k.toNat < ds.length := by omega
          have dS4 := (d3.trans dd).trans d4
          have gp4 := d4.get (dd.get gp hprl) hprl
          rw [w_isL gp4]
          try walk_at "dl"
          walk_at "cd"
          have gp5 := get_app (o := Ob.lst [.tup ds, .int k]) gp4
          try rw [w_append gp5]
          refine ⟨by rw [hrz]; exact Nat.lt_of_le_of_lt (show zs.length ≤ 12 by omega) (by decide), ?_⟩
          walk_at "nx"
          rw [w_ixT (atI_of k0 (List.getElem?_eq_getElem hk))]
          walk_at "cd"
          have hS4 := dS4.d.lt
          have hS4' : S.length ≤ S4.length := dS4.f.le
          have hpr4 := lt_of_get gp4
          refine ⟨(dS4.new _).set _ (by omega) hprl, ds[k.toNat], rs ++ [S4.length], zs ++ [(ds, k)], _, _, _, _, ps_el hh (List.getElem_mem _), by rw [get_set gp5]; simp, by simp [hrz], by simp; omega, fun i r z e1 e2 => ?_, rfl⟩
          by_cases c9 : i < rs.length
          · rw [List.getElem?_append_left c9] at e1
            rw [List.getElem?_append_left (by omega)] at e2
            obtain ⟨q1, q2, q3⟩ := hst i r z e1 e2
            have q4 := d4.get (dd.get q1 q2) q2
            have hrp : r ≠ pr := by
              rintro rfl
              rw [q1] at gp
              unfold stepO at gp
              cases rs with
              | nil => simp at gp
              | cons _ _ => simp at gp
            exact ⟨by rw [List.getElem?_set_ne (by omega)]; exact get_app q4, q2, q3⟩
          · rw [List.getElem?_append_right (by omega)] at e1
            rw [List.getElem?_append_right (by omega)] at e2
            have h0 : i - rs.length = 0 := by
              cases e : i - rs.length with
              | zero => rfl
              | succ j => rw [e] at e1; simp at e1
            rw [h0] at e1
            rw [show i - zs.length = 0 by omega] at e2
            simp at e1 e2
            subst e1 e2
            exact ⟨by rw [List.getElem?_set_ne (by omega)]; exact get_new, by omega, hh⟩
    | str y =>
      rw [w_isi (b := false) rfl]
      walk_at "dl"
      subst hK
      try walk_at "dl"
      exact key (.str y) S3 pr rs zs _ _ _ _ hh d3 (by omega) gp hrz (by omega) hst
    | int y =>
      rw [w_isi (b := false) rfl]
      walk_at "dl"
      subst hK
      try walk_at "dl"
      exact key (.int y) S3 pr rs zs _ _ _ _ hh d3 (by omega) gp hrz (by omega) hst
    | non => simp [ps] at hh
    | bl b => simp [ps] at hh
    | ref b => simp [ps] at hh
    | ro b => simp [ps] at hh
end K01
end

section
set_option Elab.async false
set_option linter.all false
set_option maxRecDepth 100000
set_option maxHeartbeats 1000000
set_option exponentiation.threshold 20000
namespace K01
open PySem PySem.Spec L2 Dl
local macro_rules | `(tactic| walk_at "dl") => `(tactic| simp (disch := first | assumption | exact get_new | (refine get_app ?_; first | assumption | exact get_new | (refine get_app ?_; first | assumption | exact get_new)) | (refine get_set ?_; assumption) | exact atI_0 | exact atI_1 | exact atI_2 | exact ok_lex | exact ok_degree | exact ok_back | exact ok_blocks | exact ok_weights) only [
  e_cB, e_fB, e_var, e_int, e_bl, e_non, e_str, e_glo, e_tup, e_lst, e_op, e_neg, e_not, e_and, e_or, e_cmp, e_chain, e_ite, e_ix, e_sl, e_rev, e_call, e_bi, e_me, e_isi, e_isis, e_comp, e_tupr, e_lstr, e_nil, e_cons, e_ono, e_oso, e_cno, e_cso, vt_and, vt_or, vt_not, vt_cmp, vt_chain, vt_var, vt_bl, vt_call, vt_bi, vt_isi, vt_isis, vi_seq, vi_rng1, vi_rng2, vi_zip, vg_nm, vg_tp, vg_ixs, gs_nil, gs_cons, x_asg, x_par, x_aug, x_expr, x_ret, x_retN, x_ite, x_for, x_whl, x_pass, x_brk, x_cnt, xs_nil, k_one, k_cons, k_rt, k_bk, k_ct, r_nx, r_rt, w_neg, w_tupr, w_lstr,
  TGs.len, wq_pure, List.getElem?_cons_zero, List.getElem?_cons_succ, List.set_cons_zero, List.set_cons_succ, List.length_cons, List.length_nil, List.length_map, if_true, Bool.false_eq_true, if_false, startE, List.map_cons, List.map_nil, List.replicate, List.cons_append, List.nil_append, wipeE, Nat.zero_add, Nat.reduceAdd, Nat.reduceSub, true_and,
  w_getL_ref, w_getS_ref, w_getL_ro, w_getS_ro, w_getS_tup, w_add, w_sub, w_mul, w_addT, w_addL, w_mulL, w_fdiv, w_mod, w_pow, w_shl, w_lt, w_le, w_gt, w_ge, w_ltT, w_gtT, w_eq, w_ne, w_isN, w_isnN, w_in, w_nin, w_trB, w_trN, w_trI, w_trT, w_trL, w_lenT, w_lenR, w_lenL, w_sumT, w_sumL, w_int, w_intB, w_tupL, w_listL, w_listT, w_append, w_pop, w_reverse, w_isL, w_revT, w_asInt, w_slR, w_srcT, w_srcR, w_srcL, w_rng, w_zipT, w_unpkT, w_unpkL, w_eqB, w_eqT, w_eqI, w_ixT, w_eqS, w_eqTS, Bool.not_true, Bool.not_false, decide_true, decide_false, wd_lex_lex, wd_lex_degree, wd_lex_back, wd_lex_blocks, wd_lex_weights, wd_degree_lex, wd_degree_degree, wd_degree_back, wd_degree_blocks, wd_degree_weights, wd_back_lex, wd_back_degree, wd_back_back, wd_back_blocks, wd_back_weights, wd_blocks_lex, wd_blocks_degree, wd_blocks_back, wd_blocks_blocks, wd_blocks_weights, wd_weights_lex, wd_weights_degree, wd_weights_back, wd_weights_blocks, wd_weights_weights])
local macro_rules | `(tactic| walk_at "nx") => `(tactic| (rw [k_nx]; try walk_at "dl"))
local macro_rules | `(tactic| walk_at "cj") => `(tactic| repeat refine And.intro (by first | decide | exact lens_of (by decide) | exact lens_of (by simp) | simp) ?_)
theorem sub_map {α β : Type} {f : β → α} {xs : List β} : ∀ {es : List α}, (∀ e ∈ es, e ∈ xs.map f) → ∃ ys : List β, es = ys.map f ∧ ∀ y ∈ ys, y ∈ xs
  | [], _ => ⟨[], rfl, fun _ h => by cases h⟩
  | e :: es, h => by
    obtain ⟨ys, a, b⟩ := sub_map fun e he => h e (List.mem_cons_of_mem _ he)
    obtain ⟨y, hy, rfl⟩ := List.mem_map.mp (h e List.mem_cons_self)
    refine ⟨y :: ys, by rw [a, List.map_cons], fun z hz => ?_⟩
    rcases List.mem_cons.mp hz with rfl | hz
    · exact hy
    · exact b z hz
inductive Od where
  | lex | deg | back | blk (ks : List Nat) | wts (rows : List (List Int))
def Od.d : Od → D
  | .lex => .str "lex"
  | .deg => .str "degree"
  | .back => .str "back"
  | .blk ks => .tup [.str "blocks", dN ks]
  | .wts rows => .tup [.str "weights", .tup (rows.map dI)]
def Od.ok (m : Nat) : Od → Prop
  | .blk ks => List.Sublist ks (List.range m)
  | .wts rows => rows.length ≤ 100 ∧ ∀ r ∈ rows, r.length = m ∧ Rg (-100) 100 r
  | _ => True
theorem order_wq {n l m : Nat} {S : Store} {Q : D → Store → Prop} (hd : Dw l S) (hm : 0 < m) (hm' : m ≤ 10)
    (h : ∀ (o : Od) (S' : Store), o.ok m → Dr l S S' → Q o.d S') : wq (call gl fds (n + 3) f__law_order [.ref l, .int m]) Q S := by
  rw [wq_call (fd := d__law_order) rfl rfl]
  dsimp only [d__law_order]
  unfold b__law_order
  walk_at "dl"
  refine ⟨lens_of (by decide), ?_⟩
  refine pick_wq (hd.new _) get_new (by have := hd.lt; omega) (by decide) fun d S2 hm2 d2 => ?_
  have d02 := (hd.refl.new _).trans d2
  clear d2
  simp only [List.mem_cons, List.not_mem_nil, or_false] at hm2
  have key : d = .str "lex" ∨ d = .str "degree" ∨ d = .str "back" ∨ d = .str "blocks" ∨ d = .str "weights" := by
    rcases hm2 with e | e | e | e | e | e | e <;> simp [e]
  clear hm2
  refine ⟨by decide, ?_⟩
  walk_at "nx"
  rcases key with rfl | rfl | rfl | rfl | rfl
  · walk_at "dl"
    walk_at "nx"
    exact h .lex S2 trivial d02
  · walk_at "dl"
    walk_at "nx"
    exact h .deg S2 trivial d02
  · walk_at "dl"
    walk_at "nx"
    exact h .back S2 trivial d02
  · walk_at "dl"
    refine ⟨small_rng (by omega), ?_⟩
    rw [rngItems_nat]
    refine compL_sub (e := fun (k : Nat) => D.int (k : Int)) (by simp; omega) (fun _ _ => Gd_none) d02.d (fun k hk S' a => ?_) fun ks S' sb a => ?_
    · walk_at "dl"
      refine ⟨by decide, ?_⟩
      try walk_at "dl"
      refine take_wq a.d (by decide) fun r S3 r0 r1 d3 => ?_
      try walk_at "dl"
      by_cases c : r = 0
      · rw [if_pos (decide_eq_true c)]
        exact ⟨by simp, d3⟩
      · rw [if_neg (by simpa using c)]
        exact ⟨by simp, d3⟩
    · refine ⟨lens_of (by decide), ?_⟩
      exact h (.blk ks) _ sb ((d02.trans a).new _)
  · walk_at "dl"
    walk_at "nx"
    walk_at "nx"
    refine ⟨small_rng (by omega), ?_⟩
    rw [rngItems_nat]
    refine compL_drw (e := fun (k : Nat) => D.int (k : Int)) (e2 := D.int) (R := fun _ y => 0 ≤ y ∧ y ≤ 99) (by simp; omega) (fun _ _ => Gd_none) d02.d (fun k hk S' a => ?_) fun first S3 hf1 hf2 a => ?_
    · walk_at "dl"
      refine ⟨by decide, lens_of (by decide), ?_⟩
      refine pick_wq (a.d.new _) get_new (by have := a.d.lt; omega) (by decide) fun d S4 hm4 d4 => ?_
      refine ⟨?_, (a.d.refl.new _).trans d4⟩
      simp only [List.mem_cons, List.not_mem_nil, or_false] at hm4
      rcases hm4 with rfl | rfl | rfl | rfl | rfl | rfl <;> exact ⟨_, rfl, by decide⟩
    have hfl : first.length = m := by simpa using hf1
    have hfr : Rg 0 100 first := fun y hy => by
      obtain ⟨i, hi, rfl⟩ := List.getElem_of_mem hy
      have := hf2 ((List.range m)[i]'(by simp; omega), first[i]) (by
        rw [List.mem_iff_getElem]
        exact ⟨i, by simp; omega, by simp⟩)
      simp only at this
      omega
    clear hf1 hf2
    have d3 := d02.trans a
    have hlt := hd.lt
    have hle := d3.f.le
    have hlt3 := a.d.lt
    refine ⟨by decide, ?_⟩
    have g3 : (S3 ++ [Ob.lst (first.map .int)])[S3.length]? = some (.lst (first.map .int)) := get_new
    have d4 := d3.new (Ob.lst (first.map .int))
    have hne : S3.length ≠ l := by omega
    have hrf : S.length ≤ S3.length := hle
    generalize S3.length = rf at *
    generalize (S3 ++ [Ob.lst (first.map .int)]) = S4 at *
    walk_at "nx"
    refine take_wq d4.d (by omega) fun lone S5 l0 l1 d5 => ?_
    have g5 := d5.get g3 hne
    have d05 := d4.trans d5
    try walk_at "dl"
    refine ⟨by decide, ?_⟩
    walk_at "nx"
    refine take_wq d5.d (by omega) fun v S6 v0 v1 d6 => ?_
    have g6 := d6.get g5 hne
    have d06 := d05.trans d6
    walk_at "dl"
    have hlone : lone.toNat < first.length := by omega
    rw [w_set g6 l0 (by simpa using hlone)]
    have g7 : (S6.set rf (.lst (List.set (first.map .int) lone.toNat (.int (1 + v)))))[rf]? = some (.lst ((first.set lone.toNat (1 + v)).map .int)) := by rw [get_set g6, List.map_set]
    have d07 := d06.set (.lst (List.set (first.map .int) lone.toNat (.int (1 + v)))) hrf hne
    have hfr7 : Rg 0 100 (first.set lone.toNat (1 + v)) := hfr.set (by omega) (by omega)
    have hfl7 : (first.set lone.toNat (1 + v)).length = m := by simpa using hfl
    generalize first.set lone.toNat (1 + v) = fst at *
    generalize (S6.set rf (.lst (List.set (first.map .int) lone.toNat (.int (1 + v))))) = S7 at *
    walk_at "nx"
    have hrf7 := lt_of_get g7
    refine ⟨lens_of (by decide), by decide, ?_⟩
    have g8 : (S7 ++ [Ob.lst []])[S7.length]? = some (.lst (([] : List (List Int)).map dI)) := get_new
    have g8f := get_app (o := Ob.lst []) g7
    have d08 := d07.new (Ob.lst [])
    have hne8 : S7.length ≠ l := by have := d07.d.lt; omega
    have hrr8 : S.length ≤ S7.length := d07.f.le
    have hfr8 : rf ≠ S7.length := by omega
    generalize S7.length = rr at *
    generalize (S7 ++ [Ob.lst []]) = S8 at *
    walk_at "nx"
    refine ⟨small_rng (by omega), ?_⟩
    rw [rngItems_nat]
    refine forL_inv1 (e := fun (k : Nat) => D.int (k : Int)) (fun i e S' => Dr l S S' ∧ S'[rf]? = some (.lst (fst.map .int)) ∧ (∃ rows : List (List Int), S'[rr]? = some (.lst (rows.map dI)) ∧ rows.length ≤ i ∧ ∀ r ∈ rows, r.length = m ∧ Rg (-100) 100 r) ∧ ∃ o6 o7 o8, e = [some (.ref l), some (.int m), some (.str "weights"), some (.ref rf), some (.int lone), some (.ref rr), o6, o7, o8]) (fun _ _ _ _ => Gd_none) ?_ ?_ ?_
    · exact ⟨d08, g8f, ⟨[], g8, by simp, fun r hr => by cases hr⟩, _, _, _, rfl⟩
    · rintro e S9 ⟨d9, gf, ⟨rows, gr, hrl, hrw⟩, o6, o7, o8, rfl⟩
      walk_at "nx"
      refine ⟨lens_of (by decide), shuffled_wq d9.d gr hne8 (by simp at hrl ⊢; omega) fun es r' S10 pm hr1 hr2 gr' d10 => ?_⟩
      walk_at "dl"
      obtain ⟨rows', rfl, hmem⟩ := sub_map (fun e he => pm.subset he)
      have hl' := pm.length_eq
      simp only [List.length_map, List.length_range] at hl' hrl
      refine ⟨lens_of (by simp; omega), lens_of (by decide), ?_⟩
      refine h (.wts (fst :: rows')) S10 ⟨by simp; omega, fun r hr => ?_⟩ (d9.trans d10)
      rcases List.mem_cons.mp hr with rfl | hr
      · exact ⟨hfl7, hfr7.mono (by omega) (by omega)⟩
      · exact hrw r (hmem r hr)
    · rintro i x e S9 hx ⟨d9, gf, ⟨rows, gr, hrl, hrw⟩, o6, o7, o8, rfl⟩
      have hxm : x < m := by
        have := List.mem_of_getElem? hx
        simpa using this
      have him : i < m := by
        have := (List.getElem?_eq_some_iff.mp hx).1
        simpa using this
      walk_at "dl"
      refine ⟨by decide, ?_⟩
      by_cases c : (x : Int) = lone
      · rw [if_neg (by simpa using c)]
        walk_at "nx"
        exact ⟨d9, gf, ⟨rows, gr, by omega, hrw⟩, _, _, _, rfl⟩
      · rw [if_pos (by simpa using c)]
        refine take_wq d9.d (by decide) fun y S10 y0 y1 d10 => ?_
        have gf10 := d10.get gf hne
        have gr10 := d10.get gr hne8
        walk_at "dl"
        refine ⟨mulFits_of (fits_small (by omega) (by omega)) (fits_small (by omega) (by omega)), lens_of (by decide), ?_⟩
        rw [w_ixL (get_app gf10) (atI_ints (by omega)), w_eqI]
        have hsg : ∃ sg : Int, -1 ≤ sg ∧ sg ≤ 1 ∧ atI [D.int (1 - 2 * y), D.int 1] (if decide (fst.getD x 0 = 0) = true then 1 else 0) = some (.int sg) := by
          split
          · exact ⟨1, by omega, by omega, atI_1⟩
          · exact ⟨1 - 2 * y, by omega, by omega, atI_0⟩
        obtain ⟨sg, s0, s1, hsg⟩ := hsg
        rw [w_ixL get_new hsg]
        refine ⟨by decide, ?_⟩
        have d11 := (d9.trans d10).new (Ob.lst [D.int (1 - 2 * y), D.int 1])
        have gf11 := get_app (o := Ob.lst [D.int (1 - 2 * y), D.int 1]) gf10
        have gr11 := get_app (o := Ob.lst [D.int (1 - 2 * y), D.int 1]) gr10
        generalize (S10 ++ [Ob.lst [D.int (1 - 2 * y), D.int 1]]) = S11 at *
        walk_at "nx"
        refine ⟨small_rng (by omega), ?_⟩
        rw [rngItems_nat]
        refine compL_drw (e := fun (k : Nat) => D.int (k : Int)) (e2 := D.int) (R := fun _ y => -100 ≤ y ∧ y ≤ 100) (by simp; omega) (fun _ _ => Gd_none) d11.d (fun j hj S' a => ?_) fun row S12 hf1 hf2 a => ?_
        · have hj := List.mem_range.mp hj
          walk_at "dl"
          refine ⟨by decide, take_wq a.d (by decide) fun r S13 r0 r1 d13 => ?_⟩
          walk_at "dl"
          have hr : sg * (1 + r) ≤ 3 ∧ -3 ≤ sg * (1 + r) := by
            have : sg = -1 ∨ sg = 0 ∨ sg = 1 := by omega
            rcases this with rfl | rfl | rfl <;> omega
          refine ⟨mulFits_of (fits_small (by omega) (by omega)) (fits_small (by omega) (by omega)), mulFits_of (fits_small (by omega) (by omega)) (by split <;> exact fits_small (by omega) (by omega)), ⟨_, rfl, ?_⟩, d13⟩
          split <;> omega
        · have hfl : row.length = m := by simpa using hf1
          have hfr : Rg (-100) 100 row := fun y hy => by
            obtain ⟨i, hi, rfl⟩ := List.getElem_of_mem hy
            have := hf2 ((List.range m)[i]'(by simp; omega), row[i]) (by
              rw [List.mem_iff_getElem]
              exact ⟨i, by simp; omega, by simp⟩)
            simp only at this
            omega
          have gf12 := a.get gf11 hne
          have gr12 := a.get gr11 hne8
          walk_at "dl"
          refine ⟨Nat.lt_of_le_of_lt (show rows.length ≤ 10 by omega) (by decide), ?_⟩
          walk_at "nx"
          walk_at "nx"
          refine ⟨((d11.trans a).new _).set _ hrr8 hne8, ?_, ⟨rows ++ [row], ?_, by simp; omega, ?_⟩, _, _, _, rfl⟩
          · rw [List.getElem?_set_ne (by omega)]
            exact get_app gf12
          · rw [get_set (get_app gr12)]
            simp [dI]
          · intro r hr
            rcases List.mem_append.mp hr with hr | hr
            · exact hrw r hr
            · rw [List.mem_singleton.mp hr]
              exact ⟨hfl, hfr⟩
end K01
end

section
set_option Elab.async false
set_option linter.all false
set_option maxRecDepth 100000
set_option maxHeartbeats 1000000
set_option exponentiation.threshold 20000
namespace K01
open PySem PySem.Spec L2 Dl
local macro_rules | `(tactic| walk_at "dl") => `(tactic| simp (disch := first | assumption | exact get_new | (refine get_app ?_; first | assumption | exact get_new | (refine get_app ?_; first | assumption | exact get_new)) | (refine get_set ?_; assumption) | exact atI_0 | exact atI_1 | exact atI_2 | exact ok_lex | exact ok_degree | exact ok_back | exact ok_blocks | exact ok_weights) only [
  e_cB, e_fB, e_var, e_int, e_bl, e_non, e_str, e_glo, e_tup, e_lst, e_op, e_neg, e_not, e_and, e_or, e_cmp, e_chain, e_ite, e_ix, e_sl, e_rev, e_call, e_bi, e_me, e_isi, e_isis, e_comp, e_tupr, e_lstr, e_nil, e_cons, e_ono, e_oso, e_cno, e_cso, vt_and, vt_or, vt_not, vt_cmp, vt_chain, vt_var, vt_bl, vt_call, vt_bi, vt_isi, vt_isis, vi_seq, vi_rng1, vi_rng2, vi_zip, vg_nm, vg_tp, vg_ixs, gs_nil, gs_cons, x_asg, x_par, x_aug, x_expr, x_ret, x_retN, x_ite, x_for, x_whl, x_pass, x_brk, x_cnt, xs_nil, k_one, k_cons, k_rt, k_bk, k_ct, r_nx, r_rt, w_neg, w_tupr, w_lstr,
  TGs.len, wq_pure, List.getElem?_cons_zero, List.getElem?_cons_succ, List.set_cons_zero, List.set_cons_succ, List.length_cons, List.length_nil, List.length_map, if_true, Bool.false_eq_true, if_false, startE, List.map_cons, List.map_nil, List.replicate, List.cons_append, List.nil_append, wipeE, Nat.zero_add, Nat.reduceAdd, Nat.reduceSub, true_and,
  w_getL_ref, w_getS_ref, w_getL_ro, w_getS_ro, w_getS_tup, w_add, w_sub, w_mul, w_addT, w_addL, w_mulL, w_fdiv, w_mod, w_pow, w_shl, w_lt, w_le, w_gt, w_ge, w_ltT, w_gtT, w_eq, w_ne, w_isN, w_isnN, w_in, w_nin, w_trB, w_trN, w_trI, w_trT, w_trL, w_lenT, w_lenR, w_lenL, w_sumT, w_sumL, w_int, w_intB, w_tupL, w_listL, w_listT, w_append, w_pop, w_reverse, w_isL, w_revT, w_asInt, w_slR, w_srcT, w_srcR, w_srcL, w_rng, w_zipT, w_unpkT, w_unpkL, w_eqB, w_eqT, w_eqI, w_ixT, w_eqS, w_eqTS, Bool.not_true, Bool.not_false, decide_true, decide_false, wd_lex_lex, wd_lex_degree, wd_lex_back, wd_lex_blocks, wd_lex_weights, wd_degree_lex, wd_degree_degree, wd_degree_back, wd_degree_blocks, wd_degree_weights, wd_back_lex, wd_back_degree, wd_back_back, wd_back_blocks, wd_back_weights, wd_blocks_lex, wd_blocks_degree, wd_blocks_back, wd_blocks_blocks, wd_blocks_weights, wd_weights_lex, wd_weights_degree, wd_weights_back, wd_weights_blocks, wd_weights_weights])
local macro_rules | `(tactic| walk_at "nx") => `(tactic| (rw [k_nx]; try walk_at "dl"))
local macro_rules | `(tactic| walk_at "cj") => `(tactic| repeat refine And.intro (by first | decide | exact lens_of (by decide) | exact lens_of (by simp) | simp) ?_)
theorem cut_map {α : Type} {e : α → D} {xs : List α} (lo hi : Option Int) : ∃ ys : List α, cutD (xs.map e) lo hi = ys.map e ∧ ys.length ≤ xs.length := by
  refine ⟨(xs.drop (HT.sIx xs.length 0 lo)).take (HT.sIx xs.length xs.length hi - HT.sIx xs.length 0 lo), ?_, ?_⟩
  · unfold cutD
    rw [List.length_map, List.map_take, List.map_drop]
  · simp only [List.length_take, List.length_drop]
    omega
theorem fmod_rg {a b : Int} (hb : 0 < b) : 0 ≤ a.fmod b ∧ a.fmod b < b := ⟨Int.fmod_nonneg_of_pos _ hb, Int.fmod_lt_of_pos _ hb⟩
theorem big_cell {x : Int} (h : 0 ≤ x ∧ x < 1 * 2 ^ (7200 : Int).toNat) : x.natAbs < 2 ^ 8000 := by
  have e : ((7200 : Int).toNat) = 7200 := rfl
  rw [e, Int.one_mul] at h
  have h1 : (2 : Nat) ^ 7200 ≤ 2 ^ 8000 := Nat.pow_le_pow_right (by omega) (by omega)
  have h2 : ((2 : Int) ^ 7200) = ((2 ^ 7200 : Nat) : Int) := by rw [Int.natCast_pow]; rfl
  rw [h2] at h
  generalize (2 : Nat) ^ 7200 = u at *
  generalize (2 : Nat) ^ 8000 = v at *
  omega
theorem big_pos : (0 : Int) < 1 * 2 ^ (7200 : Int).toNat := by
  rw [Int.one_mul]
  exact Int.pow_pos (by decide)
theorem if_both {a b : Bool} {X E : Prop} (h : a = true → b = true → X) (h2 : E) : if a = true then (if b = true then X else E) else E := by
  cases a <;> cases b <;> simp_all
theorem draws_wq {n m : Nat} {ns : List Int} {S : Store} {Q : D → Store → Prop} (hn : ns.length ≤ 63) (hm : m ≤ 1000)
    (h : ∀ (l : Nat) (S' : Store), Dw l S' → Q (.ref l) S') : wq (call gl fds (n + 1) f__law_draws [.ro (ns.map .int), .int m]) Q S := by
  rw [wq_call (fd := d__law_draws) rfl rfl]
  dsimp only [d__law_draws]
  unfold b__law_draws
  walk_at "dl"
  obtain ⟨cut, hc, hcl⟩ := cut_map (e := D.int) (xs := ns) none (some 63)
  rw [hc]
  have hgd : (S ++ [Ob.lst (cut.map .int)])[S.length]? = some (.lst (cut.map .int)) := get_new
  refine compL_tot (e := D.int) (fun c => D.int (c.fmod (1 * 2 ^ (7200 : Int).toNat))) (by omega) (fun S' f => Gd_ref (f.get _ _ (by simp) hgd)) (fun c hc S' a => ?_) fun S1 a => ?_
  · walk_at "dl"
    refine ⟨by decide, by decide, ?_, .refl⟩
    exact decide_eq_true (Int.ne_of_gt big_pos)
  · refine ⟨by decide, ?_⟩
    have hcs : ∃ cs : List Int, cut.map (fun c => D.int (c.fmod (1 * 2 ^ (7200 : Int).toNat))) = cs.map .int ∧ cs.length ≤ 63 ∧ ∀ c ∈ cs, 0 ≤ c ∧ c < 1 * 2 ^ (7200 : Int).toNat := by
      refine ⟨cut.map fun c => c.fmod (1 * 2 ^ (7200 : Int).toNat), by rw [List.map_map]; rfl, by simp; omega, fun c hc => ?_⟩
      obtain ⟨c', _, rfl⟩ := List.mem_map.mp hc
      exact fmod_rg big_pos
    obtain ⟨cs, e, hcl, hcb⟩ := hcs
    rw [e]
    clear a hgd hc e
    have g1 : (S1 ++ [Ob.lst (cs.map .int)])[S1.length]? = some (.lst (cs.map .int)) := get_new
    generalize (S1 ++ [Ob.lst (cs.map .int)]) = S2 at *
    generalize S1.length = rc at *
    walk_at "nx"
    -- one cell at least
    have key : ∀ (ds : List Int) (S3 : Store), S3[rc]? = some (.lst (ds.map .int)) → 0 < ds.length → ds.length ≤ 63 → (∀ c ∈ ds, 0 ≤ c ∧ c < 1 * 2 ^ (7200 : Int).toNat) →
        wq (exs gl (Dl.call gl fds n) (ISs.cons (.asg (.nm 3) (.bi .list (.cons (.var 2) .nil)))
  (.cons (.asg (.nm 4) (.lst .nil))
  (.cons (.forr (.nm 5) (.rng1 (.var 1)) (.cons (.asg (.nm 6) (.op .Mod (.bi .int (.cons (.var 5) .nil)) (.bi .len (.cons (.var 2) .nil))))
  (.cons (.ite (.and (.cmp .GtE (.ix (.var 2) (.var 6)) (.op .Pow (.int 10) (.int 18))) (.cmp .Gt (.ix (.var 3) (.var 6)) (.int 0))) (.cons (.expr (.me .append (.var 4) (.cons (.op .Mod (.bi .int (.cons (.ix (.var 3) (.var 6)) .nil)) (.int 1000)) .nil)))
  (.cons (.asg (.ixs (.var 3) (.var 6)) (.op .FloorDiv (.ix (.var 3) (.var 6)) (.int 1000)))
  .nil)) (.cons (.asg (.nm 7) (.op .Mod (.bi .int (.cons (.op .Add (.op .Add (.op .Mult (.ix (.var 2) (.var 6)) (.int 48271)) (.op .Mult (.var 5) (.int 69621))) (.int 11)) .nil)) (.int 2147483647)))
  (.cons (.expr (.me .append (.var 4) (.cons (.op .Mod (.bi .int (.cons (.op .Add (.op .Add (.op .Mult (.var 7) (.var 7)) (.op .Mult (.int 3) (.var 7))) (.var 5)) .nil)) (.int 1000003)) .nil)))
  .nil)))
  .nil)))
  (.cons (.expr (.me .reverse (.var 4) .nil))
  (.cons (.ret (.var 4))
  .nil))))) [some (.ro (ns.map .int)), some (.int m), some (.ref rc), none, none, none, none, none, none]) (fun r S' => wq (ofFl r) Q S') S3 := by
      intro ds S3 g3 h0 h63 hb
      walk_at "dl"
      refine ⟨by decide, ?_⟩
      have gl4 : (S3 ++ [Ob.lst (ds.map .int)])[S3.length]? = some (.lst (ds.map .int)) := get_new
      have gc4 := get_app (o := Ob.lst (ds.map .int)) g3
      have hne1 : rc < S3.length := lt_of_get g3
      generalize S3.length = rl at *
      generalize (S3 ++ [Ob.lst (ds.map .int)]) = S4 at *
      walk_at "nx"
      refine ⟨lens_of (by decide), by decide, ?_⟩
      have hne2 : rl < S4.length := lt_of_get gl4
      have gd5 : (S4 ++ [Ob.lst []])[S4.length]? = some (.lst (([] : List Int).map .int)) := get_new
      have gl5 := get_app (o := Ob.lst []) gl4
      have gc5 := get_app (o := Ob.lst []) gc4
      generalize S4.length = rd at *
      generalize (S4 ++ [Ob.lst []]) = S5 at *
      walk_at "nx"
      refine ⟨small_rng (by omega), ?_⟩
      rw [rngItems_nat]
      refine forL_inv1 (e := fun (k : Nat) => D.int (k : Int)) (fun i e S' => S'[rc]? = some (.lst (ds.map .int)) ∧ (∃ ls : List Int, S'[rl]? = some (.lst (ls.map .int)) ∧ ls.length = ds.length) ∧ (∃ xs : List Int, S'[rd]? = some (.lst (xs.map .int)) ∧ xs.length ≤ i) ∧ ∃ o5 o6 o7 o8, e = [some (.ro (ns.map .int)), some (.int m), some (.ref rc), some (.ref rl), some (.ref rd), o5, o6, o7, o8]) (fun _ _ _ _ => Gd_none) ?_ ?_ ?_
      · exact ⟨gc5, ⟨ds, gl5, rfl⟩, ⟨[], gd5, by simp⟩, _, _, _, _, rfl⟩
      · rintro e S6 ⟨gc, ⟨ls, gl, hll⟩, ⟨xs, gd, hxl⟩, o5, o6, o7, o8, rfl⟩
        walk_at "nx"
        walk_at "nx"
        exact h rd _ ⟨xs.reverse, by rw [get_set gd, List.map_reverse]⟩
      · rintro i x e S6 hx ⟨gc, ⟨ls, gl, hll⟩, ⟨xs, gd, hxl⟩, o5, o6, o7, o8, rfl⟩
        have him : i < m := by
          have := (List.getElem?_eq_some_iff.mp hx).1
          simpa using this
        have hxm : x < m := by simpa using List.mem_of_getElem? hx
        have hxs : xs.length < sizeLine := Nat.lt_of_le_of_lt (show xs.length ≤ 1000 by omega) (by decide)
        walk_at "dl"
        have hp := fmod_rg (a := (x : Int)) (b := (ds.length : Int)) (by omega)
        refine ⟨by decide, decide_eq_true (by omega), by decide, ?_⟩
        generalize (x : Int).fmod (ds.length : Int) = p at *
        have hpd : p.toNat < ds.length := by omega
        walk_at "nx"
        rw [w_ixL gc (atI_int hp.1 hpd)]
        walk_at "dl"
        have hcb := hb _ (Dl.getD_mem hpd)
        refine ⟨by decide, ?_⟩
        generalize ds.getD p.toNat 0 = c at *
        have hpl : p.toNat < ls.length := by omega
        rw [w_ixL gl (atI_int hp.1 hpl), w_gt]
        generalize ls.getD p.toNat 0 = v at *
        refine if_both (fun _ _ => ?_) ?_
        · try walk_at "dl"
          rw [w_ixL gl (atI_int hp.1 hpl)]
          try walk_at "dl"
          generalize ls.getD p.toNat 0 = v at *
          refine ⟨by decide, hxs, ?_⟩
          have gd' := get_set (o := Ob.lst (xs.map .int ++ [D.int (v.fmod 1000)])) gd
          have gl' : (S6.set rd (Ob.lst (xs.map .int ++ [D.int (v.fmod 1000)])))[rl]? = some (.lst (ls.map .int)) := by rw [List.getElem?_set_ne (by omega)]; exact gl
          have gc' : (S6.set rd (Ob.lst (xs.map .int ++ [D.int (v.fmod 1000)])))[rc]? = some (.lst (ds.map .int)) := by rw [List.getElem?_set_ne (by omega)]; exact gc
          generalize (S6.set rd (Ob.lst (xs.map .int ++ [D.int (v.fmod 1000)]))) = S7 at *
          walk_at "nx"
          rw [w_ixL gl' (atI_int hp.1 hpl)]
          walk_at "dl"
          generalize ls.getD p.toNat 0 = v2 at *
          refine ⟨by decide, ?_⟩
          rw [w_set gl' hp.1 (by simpa using hpl)]
          walk_at "nx"
          refine ⟨?_, ⟨ls.set p.toNat (v2.fdiv 1000), ?_, by simpa using hll⟩, ⟨xs ++ [v.fmod 1000], ?_, by simp; omega⟩, _, _, _, _, rfl⟩
          · rw [List.getElem?_set_ne (by omega)]; exact gc'
          · rw [get_set gl', List.map_set]
          · rw [List.getElem?_set_ne (by omega), gd', List.map_append]; rfl
        · rw [w_ixL gc (atI_int hp.1 hpd)]
          try walk_at "dl"
          have hcb := hb _ (Dl.getD_mem hpd)
          generalize ds.getD p.toNat 0 = c2 at *
          refine ⟨mulFits_of (big_cell hcb) (fits_small (by omega) (by omega)), mulFits_of (fits_small (by omega) (by omega)) (fits_small (by omega) (by omega)), by decide, by decide, ?_⟩
          have hmx := fmod_rg (a := c2 * 48271 + (x : Int) * 69621 + 11) (b := 2147483647) (by omega)
          generalize (c2 * 48271 + (x : Int) * 69621 + 11).fmod 2147483647 = w at *
          walk_at "nx"
          refine ⟨mulFits_of (fits_big (by omega) (by omega)) (fits_big (by omega) (by omega)), mulFits_of (fits_big (by omega) (by omega)) (fits_big (by omega) (by omega)), by decide, hxs, ?_⟩
          walk_at "nx"
          generalize (w * w + 3 * w + (x : Int)).fmod 1000003 = y
          refine ⟨?_, ⟨ls, ?_, hll⟩, ⟨xs ++ [y], ?_, by simp; omega⟩, _, _, _, _, rfl⟩
          · rw [List.getElem?_set_ne (by omega)]; exact gc
          · rw [List.getElem?_set_ne (by omega)]; exact gl
          · rw [get_set gd, List.map_append]; rfl
    by_cases hz : cs = []
    · subst hz
      rw [if_pos (by decide)]
      walk_at "dl"
      refine ⟨by decide, ?_⟩
      walk_at "nx"
      rw [k_nx]
      exact key [0] _ (by rw [get_set g1]; rfl) (by decide) (by decide) fun c hc => by
        rw [List.mem_singleton.mp hc]
        exact ⟨by decide, big_pos⟩
    · rw [if_neg (by simpa using hz)]
      try walk_at "dl"
      rw [k_nx]
      exact key cs _ g1 (List.length_pos_iff.mpr hz) hcl hcb
end K01
end

section
set_option Elab.async false
set_option linter.all false
set_option maxRecDepth 100000
set_option maxHeartbeats 1000000
set_option exponentiation.threshold 20000
namespace K01
open PySem PySem.Spec L2 Dl
local macro_rules | `(tactic| walk_at "dl") => `(tactic| simp (disch := first | assumption | exact get_new | (refine get_app ?_; first | assumption | exact get_new | (refine get_app ?_; first | assumption | exact get_new)) | (refine get_set ?_; assumption) | exact atI_0 | exact atI_1 | exact atI_2 | exact ok_lex | exact ok_degree | exact ok_back | exact ok_blocks | exact ok_weights) only [
  e_cB, e_fB, e_var, e_int, e_bl, e_non, e_str, e_glo, e_tup, e_lst, e_op, e_neg, e_not, e_and, e_or, e_cmp, e_chain, e_ite, e_ix, e_sl, e_rev, e_call, e_bi, e_me, e_isi, e_isis, e_comp, e_tupr, e_lstr, e_nil, e_cons, e_ono, e_oso, e_cno, e_cso, vt_and, vt_or, vt_not, vt_cmp, vt_chain, vt_var, vt_bl, vt_call, vt_bi, vt_isi, vt_isis, vi_seq, vi_rng1, vi_rng2, vi_zip, vg_nm, vg_tp, vg_ixs, gs_nil, gs_cons, x_asg, x_par, x_aug, x_expr, x_ret, x_retN, x_ite, x_for, x_whl, x_pass, x_brk, x_cnt, xs_nil, k_one, k_cons, k_rt, k_bk, k_ct, r_nx, r_rt, w_neg, w_tupr, w_lstr,
  TGs.len, wq_pure, List.getElem?_cons_zero, List.getElem?_cons_succ, List.set_cons_zero, List.set_cons_succ, List.length_cons, List.length_nil, List.length_map, if_true, Bool.false_eq_true, if_false, startE, List.map_cons, List.map_nil, List.replicate, List.cons_append, List.nil_append, wipeE, Nat.zero_add, Nat.reduceAdd, Nat.reduceSub, true_and,
  w_getL_ref, w_getS_ref, w_getL_ro, w_getS_ro, w_getS_tup, w_add, w_sub, w_mul, w_addT, w_addL, w_mulL, w_fdiv, w_mod, w_pow, w_shl, w_lt, w_le, w_gt, w_ge, w_ltT, w_gtT, w_eq, w_ne, w_isN, w_isnN, w_in, w_nin, w_trB, w_trN, w_trI, w_trT, w_trL, w_lenT, w_lenR, w_lenL, w_sumT, w_sumL, w_int, w_intB, w_tupL, w_listL, w_listT, w_append, w_pop, w_reverse, w_isL, w_revT, w_asInt, w_slR, w_srcT, w_srcR, w_srcL, w_rng, w_zipT, w_unpkT, w_unpkL, w_eqB, w_eqT, w_eqI, w_ixT, w_slT, w_eqS, w_eqTS, Bool.not_true, Bool.not_false, decide_true, decide_false, wd_lex_lex, wd_lex_degree, wd_lex_back, wd_lex_blocks, wd_lex_weights, wd_degree_lex, wd_degree_degree, wd_degree_back, wd_degree_blocks, wd_degree_weights, wd_back_lex, wd_back_degree, wd_back_back, wd_back_blocks, wd_back_weights, wd_blocks_lex, wd_blocks_degree, wd_blocks_back, wd_blocks_blocks, wd_blocks_weights, wd_weights_lex, wd_weights_degree, wd_weights_back, wd_weights_blocks, wd_weights_weights])
local macro_rules | `(tactic| walk_at "nx") => `(tactic| (rw [k_nx]; try walk_at "dl"))
local macro_rules | `(tactic| walk_at "cj") => `(tactic| repeat refine And.intro (by first | decide | exact lens_of (by decide) | exact lens_of (by simp) | simp) ?_)
local macro_rules | `(tactic| walk_at "cd") => `(tactic| repeat refine And.intro (by decide) ?_)
theorem Od_PL {m : Nat} (hm : m ≤ 4) (o : Od) (h : o.ok m) : PL 30 o.d := by
  cases o with
  | lex => exact PL_str (by decide +kernel)
  | deg => exact PL_str (by decide +kernel)
  | back => exact PL_str (by decide +kernel)
  | blk ks =>
    have hs : List.Sublist ks (List.range m) := h
    have hl := hs.length_le
    rw [List.length_range] at hl
    refine PL_tup (by simp) fun d hd => ?_
    simp only [List.mem_cons, List.not_mem_nil, or_false] at hd
    rcases hd with rfl | rfl
    · exact PL_str (by decide +kernel)
    · refine PL_tup (by rw [List.length_map]; omega) fun d hd => ?_
      obtain ⟨k, hk, rfl⟩ := List.mem_map.mp hd
      have := List.mem_range.mp (hs.subset hk)
      exact PL_int (by omega) (by omega)
  | wts rows =>
    refine PL_tup (by simp) fun d hd => ?_
    simp only [List.mem_cons, List.not_mem_nil, or_false] at hd
    rcases hd with rfl | rfl
    · exact PL_str (by decide +kernel)
    · exact PL_rows (k := 27) h.1 fun r hr => ⟨by rw [(h.2 r hr).1]; omega, (h.2 r hr).2.mono (by omega) (by omega)⟩
theorem PL_pair {k : Nat} {x : Str} {d : D} (hx : WD.contains x = true) (hd : PL k d) : PL (k + 1) (.tup [.str x, d]) := PL_tup (by simp) fun e he => by
  simp only [List.mem_cons, List.not_mem_nil, or_false] at he
  rcases he with rfl | rfl
  · exact PL_str hx
  · exact hd
def unitR (m j : Nat) : List Int := (List.range m).map fun (k : Nat) => if decide ((k : Int) = (j : Int)) = true then 1 else 0
def unitRows (m : Nat) : List (List Int) := (List.range m).map (unitR m)
theorem unitR_ok {m j : Nat} : (unitR m j).length = m ∧ Rg 0 1 (unitR m j) := by
  refine ⟨by simp [unitR], fun x hx => ?_⟩
  obtain ⟨k, _, rfl⟩ := List.mem_map.mp hx
  split <;> omega
theorem unit_mem {m : Nat} {r : List Int} (h : r ∈ unitRows m) : r.length = m ∧ Rg 0 1 r := by
  obtain ⟨j, _, rfl⟩ := List.mem_map.mp h
  exact unitR_ok
/-- the list of things: two known ones, then others -/
structure Th (S : Store) (t : Nat) (a0 a1 : D) (n : Nat) : Prop where
  out : ∃ ds : List D, S[t]? = some (.lst (a0 :: a1 :: ds)) ∧ ds.length ≤ n ∧ ∀ d ∈ a0 :: a1 :: ds, PL 30 d
theorem Th.add {S : Store} {t n : Nat} {a0 a1 d : D} {Q : D → Store → Prop} (h : Th S t a0 a1 n) (hn : n ≤ 50) (hd : PL 30 d) (k : ∀ o, Th (S.set t o) t a0 a1 (n + 1) → Q .non (S.set t o)) : wq (meRun .append (.ref t) [d]) Q S := by
  obtain ⟨ds, h1, h2, h3⟩ := h.out
  rw [w_append h1]
  refine ⟨?_, k _ ⟨ds ++ [d], get_set h1, by simp; omega, fun e he => ?_⟩⟩
  · simp only [List.length_cons]
    exact Nat.lt_of_le_of_lt (show ds.length + 1 + 1 ≤ 100 by omega) (by decide)
  · simp only [List.cons_append, List.mem_cons, List.mem_append, List.not_mem_nil, or_false] at he
    rcases he with rfl | rfl | he | rfl
    · exact h3 _ (by simp)
    · exact h3 _ (by simp)
    · exact h3 _ (by simp [he])
    · exact hd
theorem Th.is {S : Store} {t n : Nat} {a0 a1 : D} {QU : Unit → Store → Prop} (h : Th S t a0 a1 n) (k : QU () S) : wq (isL (.ref t)) QU S := by
  obtain ⟨ds, h1, h2, h3⟩ := h.out
  rw [w_isL h1]
  exact k
theorem Th.fr {S S' : Store} {L : List Nat} {t n : Nat} {a0 a1 : D} (h : Th S t a0 a1 n) (f : Fr L S S') (hl : t ∉ L) : Th S' t a0 a1 n := by
  obtain ⟨ds, h1, h2, h3⟩ := h.out
  exact ⟨ds, f.get _ _ hl h1, h2, h3⟩
theorem Th.mono {S : Store} {t n n' : Nat} {a0 a1 : D} (h : Th S t a0 a1 n) (hn : n ≤ n') : Th S t a0 a1 n' := by
  obtain ⟨ds, h1, h2, h3⟩ := h.out
  exact ⟨ds, h1, by omega, h3⟩
abbrev words : List D := [.str "lex", .str "degree", .str "back", .str "", .str "Lex", .str "lexx", .str "blocks", .str "weights", .tup [.str "lex"], .tup [.str "back", .tup []], .tup []]
theorem words_PL : ∀ e ∈ words, PL 30 e := by unfold PL; decide +kernel
abbrev things1 (m : Nat) : List D := [.tup [], .tup [.int 0], .tup [.int (m : Int)], .tup [.int (-1)], .tup [.int 0, .int 0], .tup [.int 1, .int 0], .tup [.int 0, .int 1], .tup [.str "a"], .tup [.tup [.int 0]], .int 0, .str "", .tup [.int 0, .int ((m : Int) - 1)]]
theorem things1_PL {m : Nat} (hm : m ≤ 4) : ∀ e ∈ things1 m, PL 29 e := by
  have : m = 0 ∨ m = 1 ∨ m = 2 ∨ m = 3 ∨ m = 4 := by omega
  unfold PL
  rcases this with rfl | rfl | rfl | rfl | rfl <;> decide +kernel
theorem ps_weights {rows : List (List Int)} (hl : rows.length ≤ 20) (h : ∀ r ∈ rows, r.length ≤ 20 ∧ Rg (-300) 300 r) : ps 6 (.tup [.str "weights", .tup (rows.map dI)]) = true := by
  simp only [ps, List.length_cons, List.length_nil, List.all_cons, List.all_nil, Bool.and_true, Bool.and_eq_true, decide_eq_true_eq, List.length_map, List.all_eq_true]
  refine ⟨by omega, trivial, hl, fun d hd => ?_⟩
  obtain ⟨r, hr, rfl⟩ := List.mem_map.mp hd
  unfold dI
  simp only [ps, Bool.and_eq_true, decide_eq_true_eq, List.length_map, List.all_eq_true]
  refine ⟨(h r hr).1, fun d hd => ?_⟩
  obtain ⟨x, hx, rfl⟩ := List.mem_map.mp hd
  have := (h r hr).2 x hx
  simp [ps, this]
theorem cut_map2 (rows : List (List Int)) : ∃ ys : List (List Int), cutD (rows.map dI) (some 1) none = ys.map dI ∧ ys.length ≤ rows.length ∧ ∀ r ∈ ys, r ∈ rows := by
  refine ⟨(rows.drop (HT.sIx rows.length 0 (some 1))).take (HT.sIx rows.length rows.length none - HT.sIx rows.length 0 (some 1)), ?_, ?_, fun r hr => List.mem_of_mem_drop (List.mem_of_mem_take hr)⟩
  · unfold cutD
    rw [List.length_map, List.map_take, List.map_drop]
  · simp only [List.length_take, List.length_drop]
    omega
abbrev things2 (m : Nat) : List D := [.tup ((unitRows m).map dI), .tup ((unitRows m).map dI).reverse, .tup (cutD ((unitRows m).map dI) (some 1) none), .tup ((unitRows m).map dI ++ cutD ((unitRows m).map dI) none (some 1)), .tup (List.replicate (m : Int).toNat (cutD ((unitRows m).map dI) none (some 1))).flatten, .tup [], .int 1, .tup (List.replicate (m : Int).toNat [D.tup []]).flatten]
theorem things2_PL {m : Nat} (hm0 : 0 < m) (hm : m ≤ 4) : ∀ e ∈ things2 m, PL 29 e := by
  have hU : ∀ d ∈ (unitRows m).map dI, PL 28 d := fun d hd => by
    obtain ⟨r, hr, rfl⟩ := List.mem_map.mp hd
    exact PL_dI (k := 27) (by rw [(unit_mem hr).1]; omega) ((unit_mem hr).2.mono (by omega) (by omega))
  have hUl : ((unitRows m).map dI).length ≤ 4 := by simp [unitRows]; omega
  have c1 := cut_sub (ds := (unitRows m).map dI) (lo := some 1) (hi := none)
  have c2 := cut_sub (ds := (unitRows m).map dI) (lo := none) (hi := some 1)
  intro e he
  unfold things2 at he
  generalize (unitRows m).map dI = U at *
  simp only [List.mem_cons, List.not_mem_nil, or_false] at he
  rcases he with rfl | rfl | rfl | rfl | rfl | rfl | rfl | rfl
  · exact PL_tup (by omega) hU
  · exact PL_tup (by rw [List.length_reverse]; omega) fun d hd => hU d (by simpa using hd)
  · exact PL_tup (by omega) fun d hd => hU d (c1.2 d hd)
  · refine PL_tup (by simp; omega) fun d hd => ?_
    rcases List.mem_append.mp hd with hd | hd
    · exact hU d hd
    · exact hU d (c2.2 d hd)
  · refine PL_tup ?_ fun d hd => ?_
    · rw [List.length_flatten, List.map_replicate, List.sum_replicate_nat, Int.toNat_natCast]
      have : m * (cutD U none (some 1)).length ≤ 4 * 4 := Nat.mul_le_mul hm (by omega)
      omega
    · obtain ⟨q, hq, hd⟩ := List.mem_flatten.mp hd
      rw [List.eq_of_mem_replicate hq] at hd
      exact hU d (c2.2 d hd)
  · exact PL_tup (by simp) fun d hd => by cases hd
  · exact PL_int (by decide) (by decide)
  · refine PL_tup ?_ fun d hd => ?_
    · rw [List.length_flatten, List.map_replicate, List.sum_replicate_nat, Int.toNat_natCast]
      simp; omega
    · obtain ⟨q, hq, hd⟩ := List.mem_flatten.mp hd
      rw [List.eq_of_mem_replicate hq] at hd
      rw [List.mem_singleton.mp hd]
      exact PL_tup (k := 27) (by simp) fun d hd => by cases hd
theorem w_mulT {S : Store} {x : List D} {k : Int} {Q : D → Store → Prop} (hx : x ≠ []) (h1 : 1 ≤ k) (h2 : k ≤ 1000) (h3 : x.length ≤ 1000) : wq (bop .Mult (.tup x) (.int k)) Q S = Q (.tup (List.replicate k.toNat x).flatten) S := by
  unfold bop
  dsimp only
  rw [wq_bind, wq_need, wq_pure]
  have : (decide (x ≠ []) && decide (1 ≤ k) && decide (k ≤ 1000) && decide (x.length ≤ 1000)) = true := by
    rw [decide_eq_true hx, decide_eq_true h1, decide_eq_true h2, decide_eq_true h3]; rfl
  rw [this]
  simp
theorem w_isB {a b : Bool} {QB : Bool → Store → Prop} {S : Store} : wq (cop .Is (.bl a) (.bl b)) QB S = QB (decide (a = b)) S := by
  unfold cop
  exact wq_l rfl
abbrev d1 : D := .tup [.str "weights", .tup [.tup [.int 1, .int 1], .tup [.int 0, .int (-1)]]]
abbrev d2 : D := .tup [.str "weights", .tup [.tup [.int 1, .int (-1)], .tup [.int 0, .int 1]]]
theorem d1_PL : PL 30 d1 := by unfold PL; decide +kernel
theorem d2_PL : PL 30 d2 := by unfold PL; decide +kernel
theorem d1_ok : ordP 2 d1 := by
  refine .inr (.inr (.inr (.inr ⟨_, rfl, [[1, 1], [0, -1]], rfl, rfl, ?_, ?_, ?_⟩)))
  · intro r hr
    simp only [List.mem_cons, List.not_mem_nil, or_false] at hr
    rcases hr with rfl | rfl <;> rfl
  · intro k hk
    match k, hk with
    | 0, _ => decide +kernel
    | 1, _ => decide +kernel
  · rintro ⟨v, hv, ⟨x, hx, hx0⟩, hr⟩
    match v, hv with
    | [a, b], _ =>
      have h1 := hr _ (remQ_mem.mpr ⟨0, [1, 1], Nat.le_refl _, rfl, rfl⟩)
      have h2 := hr _ (remQ_mem.mpr ⟨1, [0, -1], Nat.zero_le _, rfl, rfl⟩)
      simp only [List.drop_zero, toQ, List.map_cons, List.map_nil, dotQ] at h1 h2
      have e1 : ((1 : Int) : Rat) = 1 := rfl
      have e2 : ((0 : Int) : Rat) = 0 := rfl
      have e3 : ((-1 : Int) : Rat) = -1 := rfl
      rw [e1] at h1
      rw [e2, e3] at h2
      have hb : b = 0 := by grind
      have ha : a = 0 := by grind
      simp only [List.mem_cons, List.not_mem_nil, or_false] at hx
      rcases hx with rfl | rfl
      · exact hx0 ha
      · exact hx0 hb
theorem d2_no : ¬ ordP 2 d2 := by
  intro h
  obtain ⟨a, b, e, q⟩ := ordP_tup h
  cases e
  rcases q with q | q
  · exact absurd q.1 (by decide +kernel)
  · obtain ⟨rows, e, h1, h2, h3, h4⟩ := q.2
    have e : rows = [[1, -1], [0, 1]] := by
      have e' : ([[1, -1], [0, 1]] : List (List Int)).map dI = rows.map dI := by simpa [dI] using e
      exact (mapdI_inj e').symm
    subst e
    exact absurd (h3 1 (by decide)) (by decide +kernel)
theorem law_wq {n : Nat} {ns : List Int} (hn : ns.length ≤ 63) : wq (call gl fds (n + 10) f_law [.ro (ns.map .int)]) (fun d _ => d = .bl true) [] := by
  rw [wq_call (fd := d_law) rfl rfl]
  dsimp only [d_law]
  unfold b_law
  walk_at "dl"
  refine draws_wq (m := 600) hn (by decide) fun l S1 w1 => ?_
  try walk_at "dl"
  walk_at "cd"
  walk_at "nx"
  walk_at "cd"
  rw [show rngItems 0 3 = (List.range 3).map fun (k : Nat) => D.int (k : Int) from rngItems_nat 3]
  refine forL_inv1 (e := fun (k : Nat) => D.int (k : Int)) (fun i e S' => Dw l S' ∧ ∃ o2 o3 o4 o5 o6 o7 o8 o9 o10 o11 o12 o13, e = [some (.ro (ns.map .int)), some (.ref l), o2, o3, o4, o5, o6, o7, o8, o9, o10, o11, o12, o13]) (fun _ _ _ _ => Gd_none) ?_ ?_ ?_
  · exact ⟨w1, _, _, _, _, _, _, _, _, _, _, _, _, rfl⟩
  · rintro e S2 ⟨w2, o2, o3, o4, o5, o6, o7, o8, o9, o10, o11, o12, o13, rfl⟩
    walk_at "nx"
    walk_at "cd"
    refine is_order_wq (m := 2) (k := 30) d1_PL (by decide) (by decide) fun b1 S3 e1 f3 => ?_
    have hb1 : b1 = true := e1.mpr d1_ok
    subst hb1
    rw [w_isB]
    rw [if_pos (by decide)]
    walk_at "cd"
    refine is_order_wq (m := 2) (k := 30) d2_PL (by decide) (by decide) fun b2 S4 e2 f4 => ?_
    have hb2 : b2 = false := by
      cases b2 with
      | false => rfl
      | true => exact absurd (e2.mp rfl) d2_no
    subst hb2
    rw [w_isB]
    rfl
  · rintro i x e S2 hx ⟨w2, o2, o3, o4, o5, o6, o7, o8, o9, o10, o11, o12, o13, rfl⟩
    walk_at "dl"
    walk_at "cd"
    refine take_wq w2 (by decide) fun v S3 v0 v1 d3 => ?_
    try walk_at "dl"
    walk_at "cd"
    obtain ⟨m, hm⟩ : ∃ m : Nat, 1 + v = (m : Int) := ⟨(1 + v).toNat, by omega⟩
    rw [hm]
    have hm0 : 0 < m := by omega
    have hm4 : m ≤ 4 := by omega
    clear hm
    walk_at "nx"
    refine order_wq d3.d hm0 (by omega) fun o S4 ho d4 => ?_
    try walk_at "dl"
    walk_at "cd"
    walk_at "nx"
    walk_at "cd"
    have hwd : ∀ e ∈ words, PL 30 e := words_PL
    have gw : (S4 ++ [Ob.lst words])[S4.length]? = some (.lst words) := get_new
    have d5 : Dr l S4 (S4 ++ [Ob.lst words]) := d4.d.refl.new _
    have hwl : S4.length ≠ l := by have := d4.d.lt; omega
    change kQ _ _ _ _ _ (S4 ++ [Ob.lst words])
    generalize S4.length = wl at *
    generalize S4 ++ [Ob.lst words] = S5 at *
    walk_at "nx"
    refine drawn_rows_wq d5.d (by omega) fun r1 S6 hr1 hr1b d6 => ?_
    try walk_at "dl"
    walk_at "cd"
    refine drawn_rows_wq d6.d (by omega) fun r2 S7 hr2 hr2b d7 => ?_
    try walk_at "dl"
    walk_at "cd"
    have hw : ∀ r : List (List Int), r.length = m → (∀ x ∈ r, x.length = m ∧ Rg (-2) 2 x) → PL 30 (.tup [.str "weights", .tup (r.map dI)]) := fun r h1 h2 => PL_pair (k := 29) (by decide +kernel) (PL_rows (k := 27) (by omega) fun x hx => ⟨by rw [(h2 x hx).1]; omega, (h2 x hx).2.mono (by omega) (by omega)⟩)
    have hth : Th (S7 ++ [Ob.lst [o.d, .tup [.str "weights", .tup (r1.map dI)], .tup [.str "weights", .tup (r2.map dI)]]]) S7.length o.d (.tup [.str "weights", .tup (r1.map dI)]) 1 := ⟨[_], get_new, by simp, fun e he => by
      simp only [List.mem_cons, List.not_mem_nil, or_false] at he
      rcases he with rfl | rfl | rfl
      · exact Od_PL hm4 o ho
      · exact hw r1 hr1 hr1b
      · exact hw r2 hr2 hr2b⟩
    have d57 := (d5.d.refl.trans d6).trans d7
    have gw7 := d57.get gw hwl
    have d8 := d7.d.refl.new (.lst [o.d, .tup [.str "weights", .tup (r1.map dI)], .tup [.str "weights", .tup (r2.map dI)]])
    have gw8 := get_app (o := Ob.lst [o.d, .tup [.str "weights", .tup (r1.map dI)], .tup [.str "weights", .tup (r2.map dI)]]) gw7
    have htl : S7.length ≠ l := by have := d7.d.lt; omega
    have htw : wl ≠ S7.length := by have := lt_of_get gw7; omega
    have ha1 : ps 6 (.tup [.str "weights", .tup (r1.map dI)]) = true := ps_weights (by omega) fun x hx => ⟨by rw [(hr1b x hx).1]; omega, (hr1b x hx).2.mono (by omega) (by omega)⟩
    have w8 := d8.d
    generalize S7.length = t at *
    generalize S7 ++ [Ob.lst [o.d, .tup [.str "weights", .tup (r1.map dI)], .tup [.str "weights", .tup (r2.map dI)]]] = S8 at *
    generalize (D.tup [.str "weights", .tup (r1.map dI)]) = A1 at *
    generalize o.d = A0 at *
    clear d57 gw7 d8 d7 d6 d5 gw hr1b hr2b hr1 hr2 d4 d3 ho hw
    walk_at "nx"
    walk_at "cd"
    have hlt8 : t < S8.length := by obtain ⟨ds, q, _⟩ := hth.out; exact lt_of_get q
    have g9 : ∀ ds : List D, (S8 ++ [Ob.lst ds])[S8.length]? = some (.lst ds) := fun ds => get_new
    refine forL_each (fun done rest e S' => (∃ f : Fr [t] S8 S', S'[S8.length]? = some (.lst (things1 m)) ∧ Th S' t A0 A1 (1 + done.length)) ∧ done ++ rest = things1 m ∧ ∃ o7 o8 o9 o10 o11 o12 o13, e = [some (.ro (ns.map .int)), some (.ref l), some (.int x), some (.int m), some A0, some (.ref wl), some (.ref t), o7, o8, o9, o10, o11, o12, o13]) (fun _ _ _ S' k => Gd_ref k.1.2.1) ?_ ?_ ?_
    · exact ⟨⟨Fr.new .refl _, get_new, hth.fr (Fr.new (L := []) .refl _) (by simp)⟩, rfl, _, _, _, _, _, _, _, rfl⟩
    · rintro e S9 ⟨⟨f9, g9, h9⟩, _, o7, o8, o9, o10, o11, o12, o13, rfl⟩
      walk_at "nx"
      have w9 : Dw l S9 := by
        obtain ⟨xs, q⟩ := w8
        exact ⟨xs, f9.get _ _ (by simp; omega) q⟩
      have gw9 := f9.get _ _ (by simp; omega) gw8
      have h9 := h9.mono (show _ ≤ 13 by simp)
      clear f9 g9 hth gw8 w8
      refine ⟨small_rng (by omega), ?_⟩
      rw [rngItems_nat]
      refine compL_tot (e := fun (k : Nat) => D.int (k : Int)) (fun j => dI (unitR m j)) (by simp; omega) (fun _ _ => Gd_none) (fun j hj S' f => ?_) fun S10 f10 => ?_
      · walk_at "dl"
        refine ⟨by decide, small_rng (by omega), ?_⟩
        rw [rngItems_nat]
        refine compL_tot (e := fun (k : Nat) => D.int (k : Int)) (fun k => D.int (if decide ((k : Int) = (j : Int)) = true then 1 else 0)) (by simp; omega) (fun _ _ => Gd_none) (fun k hk S'' f2 => ?_) fun S'' f2 => ?_
        · walk_at "dl"
          exact ⟨by decide, .refl⟩
        · try walk_at "dl"
          refine ⟨?_, f2.new _⟩
          unfold dI unitR
          rw [List.map_map]
          rfl
      · have eU : (List.range m).map (fun j => dI (unitR m j)) = (unitRows m).map dI := by unfold unitRows; rw [List.map_map]; rfl
        rw [eU]
        have h11 := (h9.fr f10 (by simp)).fr (Fr.new (L := []) .refl (.lst ((unitRows m).map dI))) (by simp)
        have w11 := ((w9.fr f10).new (.lst ((unitRows m).map dI))).d
        have gw11 := get_app (o := Ob.lst ((unitRows m).map dI)) (f10.get _ _ (by simp) gw9)
        clear h9 w9 gw9 f10
        generalize (S10 ++ [Ob.lst ((unitRows m).map dI)]) = S11 at *
        walk_at "cd"
        have hUl : (unitRows m).length = m := by simp [unitRows]
        have hUne : cutD ((unitRows m).map dI) none (some 1) ≠ [] := by
          rw [cut1]
          intro e
          have := congrArg List.length e
          simp [hUl] at this
          omega
        have hUt : (cutD ((unitRows m).map dI) none (some 1)).length ≤ 1 := by rw [cut1]; simp; omega
        walk_at "nx"
        refine ⟨lens_of (by omega), ?_⟩
        rw [w_mulT hUne (by omega) (by omega) (by omega)]
        walk_at "cd"
        rw [w_mulT (by simp) (by omega) (by omega) (by simp)]
        walk_at "cd"
        have hlt11 : t < S11.length := by obtain ⟨ds, q, _⟩ := h11.out; exact lt_of_get q
        have hnew : ∀ ds : List D, (S11 ++ [Ob.lst ds])[S11.length]? = some (.lst ds) := fun ds => get_new
        refine forL_each (fun done rest e S' => (∃ f : Fr [t] S11 S', S'[S11.length]? = some (.lst (things2 m)) ∧ Th S' t A0 A1 (13 + done.length)) ∧ done ++ rest = things2 m ∧ ∃ o9 o10 o11 o12 o13, e = [some (.ro (ns.map .int)), some (.ref l), some (.int x), some (.int m), some A0, some (.ref wl), some (.ref t), o7, some (.tup ((unitRows m).map dI)), o9, o10, o11, o12, o13]) (fun _ _ _ S' k => Gd_ref k.1.2.1) ?_ ?_ ?_
        · exact ⟨⟨Fr.new .refl _, get_new, h11.fr (Fr.new (L := []) .refl _) (by simp)⟩, rfl, _, _, _, _, _, rfl⟩
        · rintro e S12 ⟨⟨f12, g12, h12⟩, _, o9, o10, o11, o12, o13, rfl⟩
          have w12 : Dw l S12 := by
            obtain ⟨xs, q⟩ := w11
            exact ⟨xs, f12.get _ _ (by simp; omega) q⟩
          have gw12 := f12.get _ _ (by simp; omega) gw11
          have h12 := h12.mono (show _ ≤ 21 by simp)
          clear f12 g12 h11 gw11 w11
          walk_at "nx"
          refine h12.is ?_
          walk_at "cd"
          refine ⟨?_, lens_of (by decide), ?_⟩
          · rw [decide_eq_true (by omega), decide_eq_true (by omega), lens_of (by omega)]; rfl
          obtain ⟨ys, hys, hysl, hysm⟩ := cut_map2 (unitRows m)
          rw [hys]
          have gt12 := h12
          refine compL_tot (e := dI) (fun r => dI (r.map fun x => 0 - x)) (by omega) (fun _ _ => Gd_none) (fun r hr S' f => ?_) fun S13 f13 => ?_
          · unfold dI
            walk_at "dl"
            refine ⟨by decide, ?_⟩
            refine compL_tot (e := D.int) (fun x => D.int (0 - x)) (by rw [(unit_mem (hysm r hr)).1]; omega) (fun _ _ => Gd_none) (fun x hx S'' f2 => ?_) fun S'' f2 => ?_
            · walk_at "dl"
              exact ⟨by decide, .refl⟩
            · try walk_at "dl"
              refine ⟨by rw [List.map_map]; rfl, f2.new _⟩
          · have F : Fr [] S12 (S13 ++ [Ob.lst (ys.map fun r => dI (r.map fun x => 0 - x))]) := (((Fr.new .refl _).new _).trans f13).new _
            have h13 := h12.fr F (by simp)
            have w13 := (w12.fr F).d
            have gw13 := F.get _ _ (by simp) gw12
            clear h12 w12 gw12 F f13 gt12
            simp only [List.length_map]
            refine ⟨lens_of (by omega), lens_of (by decide), ?_⟩
            generalize (S13 ++ [Ob.lst (ys.map fun r => dI (r.map fun x => 0 - x))]) = S14 at *
            refine h13.add (by decide) (PL_pair (k := 29) (by decide +kernel) (PL_tup (k := 28) (by simp; omega) fun e he => ?_)) fun u hu => ?_
            · rcases List.mem_cons.mp he with rfl | he
              · refine PL_tup (k := 27) ?_ fun d hd => ?_
                · rw [List.length_flatten, List.map_replicate, List.sum_replicate_nat, Int.toNat_natCast]
                  simp; omega
                · obtain ⟨q, hq, hd⟩ := List.mem_flatten.mp hd
                  rw [List.eq_of_mem_replicate hq] at hd
                  rw [List.mem_singleton.mp hd]
                  exact PL_int (by decide) (by decide)
              · obtain ⟨r, hr, rfl⟩ := List.mem_map.mp he
                have hrm := unit_mem (hysm r hr)
                refine PL_dI (k := 27) (by rw [List.length_map, hrm.1]; omega) fun x hx => ?_
                obtain ⟨y, hy, rfl⟩ := List.mem_map.mp hx
                have := hrm.2 y hy
                omega
            · have w15 := w13.set u htl
              have gw15 : (S14.set t u)[wl]? = some (.lst words) := by rw [List.getElem?_set_ne (by omega)]; exact gw13
              obtain ⟨ds, gt15, hdl, hds⟩ := hu.out
              clear hu h13 w13 gw13
              generalize S14.set t u = S15 at *
              have hpsU : ps 6 (.tup [.str "weights", .tup ((unitRows m).map dI)]) = true := ps_weights (by rw [hUl]; omega) fun r hr => ⟨by rw [(unit_mem hr).1]; omega, (unit_mem hr).2.mono (by omega) (by omega)⟩
              walk_at "nx"
              refine ⟨lens_of (by omega), lens_of (by decide), ?_⟩
              change wq _ _ (S15 ++ [Ob.lst (words ++ A0 :: A1 :: ds)])
              have ga := get_new (S := S15) (o := Ob.lst (words ++ A0 :: A1 :: ds))
              have gt16 := get_app (o := Ob.lst (words ++ A0 :: A1 :: ds)) gt15
              have w16 := w15.new (Ob.lst (words ++ A0 :: A1 :: ds))
              have hal : S15.length ≠ l := by have := w15.lt; omega
              have gb : (S15 ++ [Ob.lst (words ++ A0 :: A1 :: ds)])[S15.length]? = some (.lst (words ++ A0 :: A1 :: ds)) := ga
              generalize hbig : words ++ A0 :: A1 :: ds = big at *
              have hbigl : big.length ≤ 40 := by rw [← hbig]; simp; omega
              have hbigP : ∀ e ∈ big, PL 30 e := by
                intro e he
                rw [← hbig] at he
                rcases List.mem_append.mp he with he | he
                · exact hwd e he
                · exact hds e he
              generalize S15.length = ba at *
              generalize S15 ++ [Ob.lst big] = S16 at *
              refine spoilt_wq w16 hpsU fun e1 S17 he1 d17 => ?_
              rw [w_ixL (d17.get gt16 htl) atI_1]
              refine spoilt_wq d17.d ha1 fun e2 S18 he2 d18 => ?_
              try walk_at "dl"
              refine ⟨lens_of (by decide), ?_⟩
              rw [w_addL (get_app (d18.get (d17.get gb hal) hal)) get_new]
              refine ⟨lens_of (by simp; omega), ?_⟩
              have w19 : Dw l (S18 ++ [Ob.lst [e1, e2]] ++ [Ob.lst (big ++ [e1, e2])]) := (d18.d.new _).new _
              have g19 : (S18 ++ [Ob.lst [e1, e2]] ++ [Ob.lst (big ++ [e1, e2])])[(S18 ++ [Ob.lst [e1, e2]]).length]? = some (.lst (big ++ [e1, e2])) := get_new
              have hall : ∀ e ∈ big ++ [e1, e2], PL 30 e := fun e he => by
                simp only [List.mem_append, List.mem_cons, List.not_mem_nil, or_false] at he
                rcases he with he | rfl | rfl
                · exact hbigP e he
                · exact he1
                · exact he2
              generalize (S18 ++ [Ob.lst [e1, e2]]).length = fa at *
              generalize S18 ++ [Ob.lst [e1, e2]] ++ [Ob.lst (big ++ [e1, e2])] = S19 at *
              generalize big ++ [e1, e2] = all at *
              rw [w_srcL g19]
              dsimp only
              refine forL_each (fun done rest e S' => Fr [] S19 S' ∧ done ++ rest = all ∧ ∃ o7 o8 o9 o10 o11 o12 o13, e = [some (.ro (ns.map .int)), some (.ref l), some (.int x), some (.int m), some A0, some (.ref wl), some (.ref t), o7, o8, o9, o10, o11, o12, o13]) (fun _ _ _ S' k => Gd_ref (k.1.get _ _ (by simp) g19)) ?_ ?_ ?_
              · exact ⟨.refl, rfl, _, _, _, _, _, _, _, rfl⟩
              · rintro e S20 ⟨f20, _, o7, o8, o9, o10, o11, o12, o13, rfl⟩
                try walk_at "nx"
                exact ⟨(w19.fr f20).d, _, _, _, _, _, _, _, _, _, _, _, _, rfl⟩
              · rintro done z rest e S20 hd ⟨f20, hdr, o7, o8, o9, o10, o11, o12, o13, rfl⟩
                have hz := hall z (by rw [← hdr]; simp)
                walk_at "dl"
                walk_at "cd"
                refine has_none_wq hz fun b S21 f21 => ?_
                try walk_at "dl"
                cases b with
                | true =>
                  try rw [if_neg (by decide)]
                  try walk_at "nx"
                  exact ⟨f20.trans f21, by simpa using hdr, _, _, _, _, _, _, _, rfl⟩
                | false =>
                  try rw [if_pos (by decide)]
                  try walk_at "dl"
                  refine is_order_wq hz (by decide) hm4 fun b1 S22 e3 f22 => ?_
                  try walk_at "dl"
                  refine law_is_order_wq hz (by decide) hm4 fun b2 S23 e4 f23 => ?_
                  try walk_at "dl"
                  refine sameB_wq ?_
                  have hb : b1 = b2 := by
                    have hh := e3.trans e4.symm
                    exact Bool.eq_iff_iff.mpr hh
                  subst hb
                  rw [beq_self_eq_true]
                  walk_at "dl"
                  try rw [if_neg (by decide)]
                  try walk_at "nx"
                  exact ⟨((f20.trans f21).trans f22).trans f23, by simpa using hdr, _, _, _, _, _, _, _, rfl⟩
        · rintro done z rest e S12 hd ⟨⟨f12, g12, h12⟩, hdr, o9, o10, o11, o12, o13, rfl⟩
          walk_at "dl"
          walk_at "cd"
          have hz : z ∈ things2 m := by rw [← hdr]; simp
          have hdl : done.length ≤ 8 := by
            have := congrArg List.length hdr
            simp [things2] at this
            omega
          refine h12.is ?_
          walk_at "cd"
          refine h12.add (by omega) (PL_pair (k := 29) (by decide +kernel) (things2_PL hm0 hm4 z hz)) fun u hu => ?_
          try walk_at "nx"
          refine ⟨⟨f12.set _ (.inl (by simp)), by rw [List.getElem?_set_ne (by omega)]; exact g12, hu.mono (by simp; omega)⟩, by simpa using hdr, _, _, _, _, _, rfl⟩
    · rintro done z rest e S9 hd ⟨⟨f9, g9, h9⟩, hdr, o7, o8, o9, o10, o11, o12, o13, rfl⟩
      walk_at "dl"
      walk_at "cd"
      have hz : z ∈ things1 m := by rw [← hdr]; simp
      have hdl : done.length ≤ 12 := by
        have := congrArg List.length hdr
        simp [things1] at this
        omega
      refine h9.is ?_
      walk_at "cd"
      refine h9.add (by omega) (PL_pair (k := 29) (by decide +kernel) (things1_PL hm4 z hz)) fun u hu => ?_
      try walk_at "nx"
      refine ⟨⟨f9.set _ (.inl (by simp)), by rw [List.getElem?_set_ne (by omega)]; exact g9, hu.mono (by simp; omega)⟩, by simpa using hdr, _, _, _, _, _, _, _, rfl⟩
end K01
end

section
set_option Elab.async false
set_option linter.all false
set_option maxRecDepth 100000
/-! Dl: how values over the hand layer's heap stand for data -/
namespace Dl
open PySem PySem.Spec PyProof.Rows L2

/-- a list that nobody writes -/
def SqF (K : PySem.W.Frag) (H : Hp) (a : Addr) (xs : List V) : Prop :=
  (∃ o, H a = some (.frz o (.lst xs))) ∨
    ∃ (o : Obj) (its : Array Value) (n : Nat), K.lookup a = some o ∧ o.cls = .type "list" ∧ o.dict = none ∧ o.data = .seq its n ∧ its.size ≤ sizeLine ∧ Vals xs its.toList
theorem SqF.sql {K : PySem.W.Frag} {H : Hp} {a : Addr} {xs : List V} (h : SqF K H a xs) : SqL K H a xs := by
  rcases h with h | h
  · exact .inl (.inr h)
  · exact .inr h
mutual
inductive Rep (K : PySem.W.Frag) (ρ : List Addr) (H : Hp) : V → D → Prop where
  | non : Rep K ρ H .non .non
  | bl (b : Bool) : Rep K ρ H (.bl b) (.bl b)
  | int (i : Int) : Rep K ρ H (.int i) (.int i)
  | str (x : Str) : Rep K ρ H (.str x) (.str x)
  | tup {a : Addr} {xs : List V} {ds : List D} : SqT K H a xs → Reps K ρ H xs ds → Rep K ρ H (.ref a) (.tup ds)
  | ref {a : Addr} {l : Nat} : ρ[l]? = some a → Rep K ρ H (.ref a) (.ref l)
  | ro {a : Addr} {xs : List V} {ds : List D} : SqF K H a xs → Reps K ρ H xs ds → Rep K ρ H (.ref a) (.ro ds)
inductive Reps (K : PySem.W.Frag) (ρ : List Addr) (H : Hp) : List V → List D → Prop where
  | nil : Reps K ρ H [] []
  | cons {v : V} {d : D} {vs : List V} {ds : List D} : Rep K ρ H v d → Reps K ρ H vs ds → Reps K ρ H (v :: vs) (d :: ds)
end
/-- what the heap must keep: tuples and known objects -/
structure Kp (H H' : Hp) : Prop where
  t : ∀ a xs, H a = some (.tup xs) → H' a = some (.tup xs)
  f : ∀ a o u, H a = some (.frz o u) → H' a = some (.frz o u)
section
variable {K : PySem.W.Frag} {ρ ρ' τ : List Addr} {H H' : Hp}
theorem Kp.refl : Kp H H := ⟨fun _ _ h => h, fun _ _ _ h => h⟩
theorem Kp.sqt (k : Kp H H') {a : Addr} {xs : List V} (h : SqT K H a xs) : SqT K H' a xs := by
  rcases h with (h | ⟨o, h⟩) | h
  · exact .inl (.inl (k.t _ _ h))
  · exact .inl (.inr ⟨o, k.f _ _ _ h⟩)
  · exact .inr h
theorem Kp.sqf (k : Kp H H') {a : Addr} {xs : List V} (h : SqF K H a xs) : SqF K H' a xs := by
  rcases h with ⟨o, h⟩ | h
  · exact .inl ⟨o, k.f _ _ _ h⟩
  · exact .inr h
mutual
theorem Rep.kp (k : Kp H H') : ∀ {v : V} {d : D}, Rep K ρ H v d → Rep K (ρ ++ τ) H' v d
  | _, _, .non => .non
  | _, _, .bl b => .bl b
  | _, _, .int i => .int i
  | _, _, .str x => .str x
  | _, _, .tup h r => .tup (k.sqt h) (Reps.kp k r)
  | _, _, .ref h => .ref (by rw [List.getElem?_append_left (List.getElem?_eq_some_iff.mp h).1]; exact h)
  | _, _, .ro h r => .ro (k.sqf h) (Reps.kp k r)
theorem Reps.kp (k : Kp H H') : ∀ {v : List V} {d : List D}, Reps K ρ H v d → Reps K (ρ ++ τ) H' v d
  | _, _, .nil => .nil
  | _, _, .cons h r => .cons (Rep.kp k h) (Reps.kp k r)
end
theorem Reps.length : ∀ {vs : List V} {ds : List D}, Reps K ρ H vs ds → vs.length = ds.length
  | _, _, .nil => rfl
  | _, _, .cons _ r => congrArg Nat.succ r.length
theorem Reps.append : ∀ {vs ws : List V} {ds es : List D}, Reps K ρ H vs ds → Reps K ρ H ws es → Reps K ρ H (vs ++ ws) (ds ++ es)
  | _, _, _, _, .nil, s => s
  | _, _, _, _, .cons h r, s => .cons h (r.append s)
theorem Reps.get : ∀ {vs : List V} {ds : List D} {i : Nat} {d : D}, Reps K ρ H vs ds → ds[i]? = some d → ∃ v, vs[i]? = some v ∧ Rep K ρ H v d
  | _, _, _, _, .nil, e => by simp at e
  | _, _, 0, _, .cons h r, e => by simp at e; subst e; exact ⟨_, rfl, h⟩
  | _, _, i + 1, _, .cons h r, e => by
    obtain ⟨v, e1, e2⟩ := r.get (i := i) (by simpa using e)
    exact ⟨v, by simpa using e1, e2⟩
theorem Reps.take : ∀ {vs : List V} {ds : List D} (n : Nat), Reps K ρ H vs ds → Reps K ρ H (vs.take n) (ds.take n)
  | _, _, 0, _ => .nil
  | _, _, _ + 1, .nil => .nil
  | _, _, n + 1, .cons h r => .cons h (r.take n)
theorem Reps.drop : ∀ {vs : List V} {ds : List D} (n : Nat), Reps K ρ H vs ds → Reps K ρ H (vs.drop n) (ds.drop n)
  | _, _, 0, r => r
  | _, _, _ + 1, .nil => .nil
  | _, _, n + 1, .cons h r => r.drop n
theorem Reps.reverse : ∀ {vs : List V} {ds : List D}, Reps K ρ H vs ds → Reps K ρ H vs.reverse ds.reverse
  | _, _, .nil => .nil
  | _, _, .cons h r => by
    rw [List.reverse_cons, List.reverse_cons]
    exact r.reverse.append (.cons h .nil)
theorem Reps.set {v : V} {d : D} (h : Rep K ρ H v d) : ∀ {vs : List V} {ds : List D} (i : Nat), Reps K ρ H vs ds → Reps K ρ H (vs.set i v) (ds.set i d)
  | _, _, _, .nil => .nil
  | _, _, 0, .cons _ r => .cons h r
  | _, _, i + 1, .cons g r => .cons g (r.set h i)
theorem Reps.eraseIdx : ∀ {vs : List V} {ds : List D} (i : Nat), Reps K ρ H vs ds → Reps K ρ H (vs.eraseIdx i) (ds.eraseIdx i)
  | _, _, _, .nil => .nil
  | _, _, 0, .cons _ r => r
  | _, _, i + 1, .cons g r => .cons g (r.eraseIdx i)
theorem Reps.dropLast {vs : List V} {ds : List D} (r : Reps K ρ H vs ds) : Reps K ρ H vs.dropLast ds.dropLast := by
  rw [List.dropLast_eq_take, List.dropLast_eq_take, r.length]
  exact r.take _
theorem Reps.replicate {v : V} {d : D} (h : Rep K ρ H v d) : ∀ n : Nat, Reps K ρ H (List.replicate n v) (List.replicate n d)
  | 0 => .nil
  | n + 1 => .cons h (Reps.replicate h n)
theorem Reps.repl {vs : List V} {ds : List D} (r : Reps K ρ H vs ds) : ∀ n : Nat, Reps K ρ H (List.replicate n vs).flatten (List.replicate n ds).flatten
  | 0 => .nil
  | n + 1 => by
    rw [List.replicate_succ, List.replicate_succ, List.flatten_cons, List.flatten_cons]
    exact r.append (Reps.repl r n)
theorem Reps.nil_iff {vs : List V} {ds : List D} (r : Reps K ρ H vs ds) : vs = [] ↔ ds = [] := by
  cases r <;> simp
theorem Reps.ints : ∀ {vs : List V} {ds : List D} {ns : List Int}, Reps K ρ H vs ds → intsOf ds = some ns → vs = ns.map V.int
  | _, _, _, .nil, e => by simp [intsOf] at e; subst e; rfl
  | _, _, _, .cons (d := d) h r, e => by
    cases d <;> simp [intsOf] at e
    obtain ⟨ns, e1, rfl⟩ := e
    cases h
    rw [r.ints e1]; rfl
theorem Reps.bls : ∀ {vs : List V} {ds : List D} {ns : List Bool}, Reps K ρ H vs ds → blsOf ds = some ns → vs = ns.map V.bl
  | _, _, _, .nil, e => by simp [blsOf] at e; subst e; rfl
  | _, _, _, .cons (d := d) h r, e => by
    cases d <;> simp [blsOf] at e
    obtain ⟨ns, e1, rfl⟩ := e
    cases h
    rw [r.bls e1]; rfl
theorem Reps.ofInts : ∀ ns : List Int, Reps K ρ H (ns.map V.int) (ns.map D.int)
  | [] => .nil
  | n :: ns => .cons (.int n) (Reps.ofInts ns)
theorem Rep.flatV {v : V} {d : D} (h : Rep K ρ H v d) (f : flat d = true) : L2.flatV v = true := by
  cases h <;> first | rfl | simp [flat] at f
theorem Reps.allFlat : ∀ {vs : List V} {ds : List D}, Reps K ρ H vs ds → ds.all flat = true → vs.all L2.flatV = true
  | _, _, .nil, _ => rfl
  | _, _, .cons h r, f => by
    simp only [List.all_cons, Bool.and_eq_true] at f ⊢
    exact ⟨h.flatV f.1, r.allFlat f.2⟩
theorem Rep.eqF {v w : V} {d e : D} (h : Rep K ρ H v d) (g : Rep K ρ H w e) (f : flat d = true) (f' : flat e = true) : L2.eqV v w = Dl.eqF d e := by
  cases h <;> first | (simp [flat] at f; done) | (cases g <;> first | rfl | (simp [flat] at f'; done))
theorem Reps.inF {v : V} {d : D} (h : Rep K ρ H v d) (f : flat d = true) : ∀ {vs : List V} {ds : List D}, Reps K ρ H vs ds → ds.all flat = true → L2.inV v vs = Dl.inF d ds
  | _, _, .nil, _ => rfl
  | _, _, .cons g r, k => by
    simp only [List.all_cons, Bool.and_eq_true] at k
    have ih := Reps.inF h f r k.2
    unfold L2.inV Dl.inF at ih ⊢
    rw [List.any_cons, List.any_cons, ih, g.eqF h k.1 f]
end

/-- an object of the store at an address -/
def ObR (K : PySem.W.Frag) (ρ : List Addr) (H : Hp) (a : Addr) : Ob → Prop
  | .lst ds => ∃ vs, H a = some (.lst vs) ∧ Reps K ρ H vs ds
  | .dk kvs => ∃ ws, H a = some (.dK ws) ∧ ws.map (·.1) = kvs.map (·.1) ∧ Reps K ρ H (ws.map (·.2)) (kvs.map (·.2))
  | .dt kvs => ∃ ws, H a = some (.dT ws) ∧ ws.map (·.1) = kvs.map (·.1) ∧ Reps K ρ H (ws.map (·.2)) (kvs.map (·.2))
/-- the store at its addresses -/
structure WS (K : PySem.W.Frag) (ρ : List Addr) (S : Store) (H : Hp) : Prop where
  nd : ρ.Nodup
  len : ρ.length = S.length
  ob : ∀ (i : Nat) (a : Addr) (o : Ob), ρ[i]? = some a → S[i]? = some o → ObR K ρ H a o
/-- the heap has gone on: new objects, old ones changed at ρ alone -/
structure Step (ρ : List Addr) (H : Hp) (ρ' : List Addr) (H' : Hp) : Prop where
  pre : ∃ τ, ρ' = ρ ++ τ
  new : ∀ a ∈ ρ', a ∈ ρ ∨ H a = none
  keep : ∀ a o, a ∉ ρ → H a = some o → H' a = some o
def ObM : HO → Prop
  | .lst _ => True | .dK _ => True | .dT _ => True | _ => False
section
variable {K : PySem.W.Frag} {ρ ρ' ρ'' : List Addr} {H H' H'' : Hp} {S S' : Store}
theorem ObR.mut {a : Addr} {o : Ob} (h : ObR K ρ H a o) : ∃ u, H a = some u ∧ ObM u := by
  cases o with
  | lst ds => obtain ⟨vs, e, _⟩ := h; exact ⟨_, e, trivial⟩
  | dk kvs => obtain ⟨vs, e, _⟩ := h; exact ⟨_, e, trivial⟩
  | dt kvs => obtain ⟨vs, e, _⟩ := h; exact ⟨_, e, trivial⟩
theorem WS.mem (w : WS K ρ S H) {a : Addr} (h : a ∈ ρ) : ∃ u, H a = some u ∧ ObM u := by
  obtain ⟨i, hi⟩ := List.getElem?_of_mem h
  have hl : i < S.length := by rw [← w.len]; exact (List.getElem?_eq_some_iff.mp hi).1
  exact (w.ob i a S[i] hi (List.getElem?_eq_getElem hl)).mut
theorem WS.notin (w : WS K ρ S H) {a : Addr} {o : HO} (e : H a = some o) (n : ¬ ObM o) : a ∉ ρ := fun h => by
  obtain ⟨u, e', m⟩ := w.mem h
  rw [e] at e'; cases e'
  exact n m
theorem WS.fresh (w : WS K ρ S H) {a : Addr} (e : H a = none) : a ∉ ρ := fun h => by
  obtain ⟨u, e', m⟩ := w.mem h
  rw [e] at e'; cases e'
theorem Step.refl : Step ρ H ρ H := ⟨⟨[], (List.append_nil _).symm⟩, fun _ h => .inl h, fun _ _ _ h => h⟩
theorem Step.trans (a : Step ρ H ρ' H') (b : Step ρ' H' ρ'' H'') : Step ρ H ρ'' H'' := by
  obtain ⟨τ, rfl⟩ := a.pre
  obtain ⟨τ', rfl⟩ := b.pre
  refine ⟨⟨τ ++ τ', by rw [List.append_assoc]⟩, fun x hx => ?_, fun x o hx e => ?_⟩
  · rcases b.new x hx with h | h
    · exact a.new x h
    · by_cases hr : x ∈ ρ
      · exact .inl hr
      · refine .inr ?_
        cases q : H x with
        | none => rfl
        | some u => rw [a.keep x u hr q] at h; cases h
  · refine b.keep x o (fun h => ?_) (a.keep x o hx e)
    rcases a.new x h with h | h
    · exact hx h
    · rw [e] at h; cases h
theorem Step.kp (w : WS K ρ S H) (s : Step ρ H ρ' H') : Kp H H' := ⟨fun a xs e => s.keep _ _ (w.notin e (fun z => z)) e, fun a o u e => s.keep _ _ (w.notin e (fun z => z)) e⟩
theorem Rep.step (w : WS K ρ S H) (s : Step ρ H ρ' H') {v : V} {d : D} (r : Rep K ρ H v d) : Rep K ρ' H' v d := by
  obtain ⟨τ, e⟩ := s.pre
  rw [e]
  exact r.kp (s.kp w)
theorem Reps.step (w : WS K ρ S H) (s : Step ρ H ρ' H') {v : List V} {d : List D} (r : Reps K ρ H v d) : Reps K ρ' H' v d := by
  obtain ⟨τ, e⟩ := s.pre
  rw [e]
  exact r.kp (s.kp w)
theorem ObR.kp {τ : List Addr} {a : Addr} {o : Ob} (k : Kp H H') (e : H' a = H a) (h : ObR K ρ H a o) : ObR K (ρ ++ τ) H' a o := by
  cases o with
  | lst ds => obtain ⟨vs, q, r⟩ := h; exact ⟨vs, by rw [e]; exact q, r.kp k⟩
  | dk kvs => obtain ⟨vs, q, q2, r⟩ := h; exact ⟨vs, by rw [e]; exact q, q2, r.kp k⟩
  | dt kvs => obtain ⟨vs, q, q2, r⟩ := h; exact ⟨vs, by rw [e]; exact q, q2, r.kp k⟩
/-- a new tuple -/
theorem Kp.new {p : Addr} {u : HO} (hp : H p = none) : Kp H (upd H p u) :=
  ⟨fun a xs e => by rw [upd_ne (ne_of_none e hp)]; exact e, fun a o z e => by rw [upd_ne (ne_of_none e hp)]; exact e⟩
theorem Step.tup {p : Addr} {u : HO} (hp : H p = none) : Step ρ H ρ (upd H p u) :=
  ⟨⟨[], (List.append_nil _).symm⟩, fun _ h => .inl h, fun a o _ e => by rw [upd_ne (ne_of_none e hp)]; exact e⟩
theorem WS.tup (w : WS K ρ S H) {p : Addr} {u : HO} (hp : H p = none) : WS K ρ S (upd H p u) := by
  refine ⟨w.nd, w.len, fun i a o h1 h2 => ?_⟩
  have q := (w.ob i a o h1 h2).kp (τ := []) (Kp.new (u := u) hp) (upd_ne fun e => by subst e; exact w.fresh hp (List.mem_of_getElem? h1))
  rw [List.append_nil] at q
  exact q
/-- a new object of the store -/
theorem Step.alloc {p : Addr} {u : HO} (hp : H p = none) : Step ρ H (ρ ++ [p]) (upd H p u) :=
  ⟨⟨[p], rfl⟩, fun a h => by
    rcases List.mem_append.mp h with h | h
    · exact .inl h
    · rw [List.mem_singleton.mp h]; exact .inr hp, fun a o _ e => by rw [upd_ne (ne_of_none e hp)]; exact e⟩
theorem WS.alloc (w : WS K ρ S H) {p : Addr} {u : HO} {o : Ob} (hp : H p = none) (h : ObR K (ρ ++ [p]) (upd H p u) p o) : WS K (ρ ++ [p]) (S ++ [o]) (upd H p u) := by
  refine ⟨?_, by rw [List.length_append, List.length_append, w.len]; rfl, fun i a o' h1 h2 => ?_⟩
  · refine List.nodup_append.mpr ⟨w.nd, List.nodup_cons.mpr ⟨by simp, List.nodup_nil⟩, fun a ha b hb e => ?_⟩
    rw [List.mem_singleton.mp hb] at e
    subst e
    exact w.fresh hp ha
  · by_cases hi : i < ρ.length
    · rw [List.getElem?_append_left hi] at h1
      rw [List.getElem?_append_left (by rw [← w.len]; exact hi)] at h2
      exact (w.ob i a o' h1 h2).kp (Kp.new (u := u) hp) (upd_ne fun e => by subst e; exact w.fresh hp (List.mem_of_getElem? h1))
    · have e1 : i = ρ.length := by
        have := (List.getElem?_eq_some_iff.mp h1).1
        rw [List.length_append, List.length_singleton] at this
        omega
      subst e1
      rw [List.getElem?_append_right (Nat.le_refl _), Nat.sub_self] at h1
      rw [w.len, List.getElem?_append_right (Nat.le_refl _), Nat.sub_self] at h2
      simp at h1 h2
      subst h1 h2
      exact h
/-- an object of the store is changed -/
theorem Step.set (w : WS K ρ S H) {l : Nat} {a : Addr} {u : HO} (h : ρ[l]? = some a) : Step ρ H ρ (upd H a u) :=
  ⟨⟨[], (List.append_nil _).symm⟩, fun _ h => .inl h, fun b o hb e => by rw [upd_ne (fun z => hb (by rw [z]; exact List.mem_of_getElem? h))]; exact e⟩
theorem WS.set (w : WS K ρ S H) {l : Nat} {a : Addr} {u : HO} {o : Ob} (h : ρ[l]? = some a) (ho : ObR K ρ (upd H a u) a o) : WS K ρ (S.set l o) (upd H a u) := by
  have st := Step.set w (u := u) h
  refine ⟨w.nd, by rw [List.length_set]; exact w.len, fun i b o' h1 h2 => ?_⟩
  by_cases hi : l = i
  · subst hi
    rw [h] at h1; cases h1
    have hl : l < S.length := by rw [← w.len]; exact (List.getElem?_eq_some_iff.mp h).1
    rw [List.getElem?_set_self hl] at h2
    cases h2
    exact ho
  · rw [List.getElem?_set_ne hi] at h2
    have hne : b ≠ a := fun z => by
      subst z
      have := List.getElem_inj (i := l) (j := i) w.nd (h₀ := (List.getElem?_eq_some_iff.mp h).1) (h₁ := (List.getElem?_eq_some_iff.mp h1).1)
      rw [(List.getElem?_eq_some_iff.mp h).2, (List.getElem?_eq_some_iff.mp h1).2] at this
      exact hi (this.mp rfl)
    have q := (w.ob i b o' h1 h2).kp (τ := []) (st.kp w) (upd_ne hne)
    rw [List.append_nil] at q
    exact q
theorem WS.lst (w : WS K ρ S H) {l : Nat} {a : Addr} {ds : List D} (h : ρ[l]? = some a) (e : S[l]? = some (.lst ds)) : ∃ vs, H a = some (.lst vs) ∧ Reps K ρ H vs ds := w.ob l a _ h e
theorem WS.lt (w : WS K ρ S H) {l : Nat} {a : Addr} (h : ρ[l]? = some a) : l < S.length := by rw [← w.len]; exact (List.getElem?_eq_some_iff.mp h).1
theorem Rep.new (w : WS K ρ S H) {p : Addr} : Rep K (ρ ++ [p]) H' (.ref p) (.ref S.length) := .ref (by
  rw [← w.len, List.getElem?_append_right (Nat.le_refl _), Nat.sub_self]; rfl)
end

/-! ### readings from data -/
/-- the slots of a def stand for data -/
structure EnvR (K : PySem.W.Frag) (ρ : List Addr) (H : Hp) (σ : L2.St) (env : Sl) : Prop where
  len : σ.length = env.length
  at_ : ∀ (i : Nat) (d : D), env[i]? = some (some d) → ∃ v, σ[i]? = some (some v) ∧ Rep K ρ H v d
section
variable {K : PySem.W.Frag} {ρ ρ' ρ'' : List Addr} {H H' H'' : Hp} {S S' : Store} {σ : L2.St} {env : Sl}
theorem EnvR.step (e : EnvR K ρ H σ env) (w : WS K ρ S H) (s : Step ρ H ρ' H') : EnvR K ρ' H' σ env :=
  ⟨e.len, fun i d h => let ⟨v, h1, h2⟩ := e.at_ i d h; ⟨v, h1, h2.step w s⟩⟩
theorem EnvR.set (e : EnvR K ρ H σ env) {i : Nat} {v : V} {d : D} (r : Rep K ρ H v d) : EnvR K ρ H (σ.set i (some v)) (env.set i (some d)) := by
  refine ⟨by rw [List.length_set, List.length_set]; exact e.len, fun j d' h => ?_⟩
  by_cases hj : i = j
  · subst hj
    have hl : i < env.length := by
      have := (List.getElem?_eq_some_iff.mp h).1
      rw [List.length_set] at this
      exact this
    rw [List.getElem?_set_self hl] at h
    cases h
    exact ⟨v, List.getElem?_set_self (by rw [e.len]; exact hl), r⟩
  · rw [List.getElem?_set_ne hj] at h ⊢
    exact e.at_ j d' h
theorem EnvR.wipe (e : EnvR K ρ H σ env) : ∀ vs : List Nat, EnvR K ρ H (wipe σ vs) (wipeE env vs)
  | [] => e
  | v :: vs => by
    have ih := EnvR.wipe e vs
    unfold L2.wipe wipeE
    refine ⟨by rw [List.length_set, List.length_set]; exact ih.len, fun j d' h => ?_⟩
    by_cases hj : v = j
    · subst hj
      have hl : v < (wipeE env vs).length := by
        have := (List.getElem?_eq_some_iff.mp h).1
        rw [List.length_set] at this
        exact this
      rw [List.getElem?_set_self hl] at h
      cases h
    · rw [List.getElem?_set_ne hj] at h ⊢
      exact ih.at_ j d' h
/-- what a wished end says of a datum -/
def Post (K : PySem.W.Frag) (ρ : List Addr) (H : Hp) (Q : VK) : D → Store → Prop := fun d S' => ∀ ρ' H' v, Step ρ H ρ' H' → WS K ρ' S' H' → Rep K ρ' H' v d → Q v H'
def PostB (K : PySem.W.Frag) (ρ : List Addr) (H : Hp) (Q : Bool → Hp → Prop) : Bool → Store → Prop := fun d S' => ∀ ρ' H', Step ρ H ρ' H' → WS K ρ' S' H' → Q d H'
def PostS (K : PySem.W.Frag) (ρ : List Addr) (H : Hp) (Q : List V → Hp → Prop) : List D → Store → Prop := fun d S' => ∀ ρ' H' v, Step ρ H ρ' H' → WS K ρ' S' H' → Reps K ρ' H' v d → Q v H'
theorem Post.step {Q : VK} {d : D} (p : Post K ρ H Q d S) (s : Step ρ H ρ' H') : Post K ρ' H' Q d S := fun _ _ v t w r => p _ _ v (s.trans t) w r
theorem PostB.step {Q : Bool → Hp → Prop} {d : Bool} (p : PostB K ρ H Q d S) (s : Step ρ H ρ' H') : PostB K ρ' H' Q d S := fun _ _ t w => p _ _ (s.trans t) w
theorem PostS.step {Q : List V → Hp → Prop} {d : List D} (p : PostS K ρ H Q d S) (s : Step ρ H ρ' H') : PostS K ρ' H' Q d S := fun _ _ v t w r => p _ _ v (s.trans t) w r
/-- readings -/
def TD (K : PySem.W.Frag) (m : Sl → M D) : TE := fun σ H Q => ∃ ρ S env, WS K ρ S H ∧ EnvR K ρ H σ env ∧ wp (m env) (Post K ρ H Q) S
def TB (K : PySem.W.Frag) (m : Sl → M Bool) : TT := fun σ H Q => ∃ ρ S env, WS K ρ S H ∧ EnvR K ρ H σ env ∧ wp (m env) (PostB K ρ H Q) S
def TDs (K : PySem.W.Frag) (m : Sl → M (List D)) : TA := fun σ H Q => ∃ ρ S env, WS K ρ S H ∧ EnvR K ρ H σ env ∧ wp (m env) (PostS K ρ H Q) S
/-- an operator by data -/
def rD (K : PySem.W.Frag) (f : D → D → M D) : R2 := fun v u H Q => ∃ ρ S x y, WS K ρ S H ∧ Rep K ρ H v x ∧ Rep K ρ H u y ∧ wp (f x y) (Post K ρ H Q) S
def rD1 (K : PySem.W.Frag) (f : D → M D) : V → Hp → VK → Prop := fun v H Q => ∃ ρ S x, WS K ρ S H ∧ Rep K ρ H v x ∧ wp (f x) (Post K ρ H Q) S
def rDs (K : PySem.W.Frag) (f : List D → M D) : List V → Hp → VK → Prop := fun vs H Q => ∃ ρ S ds, WS K ρ S H ∧ Reps K ρ H vs ds ∧ wp (f ds) (Post K ρ H Q) S
def rDm (K : PySem.W.Frag) (f : D → List D → M D) : V → List V → Hp → VK → Prop := fun v vs H Q => ∃ ρ S x ds, WS K ρ S H ∧ Rep K ρ H v x ∧ Reps K ρ H vs ds ∧ wp (f x ds) (Post K ρ H Q) S
end
theorem PE.of {X : Cx} {e : Expr} {t t' : TE} (h : PE X e t) (k : ∀ σ H Q, t' σ H Q → t σ H Q) : PE X e t' := ⟨fun pins s σ H Q I hw => h.run pins s σ H Q I (k σ H Q hw)⟩
theorem PT.of {X : Cx} {e : Expr} {t t' : TT} (h : PT X e t) (k : ∀ σ H Q, t' σ H Q → t σ H Q) : PT X e t' := ⟨fun pins s σ H Q I hw => h.run pins s σ H Q I (k σ H Q hw)⟩
theorem PW.of {X : Cx} {e : Expr} {t t' : TT} (h : PW X e t) (k : ∀ σ H Q, t' σ H Q → t σ H Q) : PW X e t' := ⟨fun wh pins s σ H Q I hw => h.run wh pins s σ H Q I (k σ H Q hw)⟩
theorem PA.of {X : Cx} {e : List Expr} {t t' : TA} (h : PA X e t) (k : ∀ σ H Q, t' σ H Q → t σ H Q) : PA X e t' := ⟨fun pos pins s σ H Q I hw => h.run pos pins s σ H Q I (k σ H Q hw)⟩
theorem PS.of {X : Cx} {e : Stmt} {t t' : TS} (h : PS X e t) (k : ∀ D σ H, t' D σ H → t D σ H) : PS X e t' := ⟨fun pins s σ H D I hw => h.run pins s σ H D I (k D σ H hw)⟩
theorem PSs.of {X : Cx} {e : List Stmt} {t t' : TS} (h : PSs X e t) (k : ∀ D σ H, t' D σ H → t D σ H) : PSs X e t' := ⟨fun pins s σ H D I hw => h.run pins s σ H D I (k D σ H hw)⟩
theorem OpR.of {X : Cx} {f : Value → Value → Sem Value} {r r' : R2} (h : OpR X f r) (k : ∀ x y H Q, r' x y H Q → r x y H Q) : OpR X f r' := fun pins s σ H x y v u Q I rx ry q => h pins s σ H x y v u Q I rx ry (k _ _ _ _ q)

/-! ### one thing after another -/
section
variable {K : PySem.W.Frag} {σ : L2.St} {H : Hp}
/-- behind an expression: its datum in the store's new state -/
theorem TD.then_ {m : Sl → M D} {f : D → Sl → M D} {Q : VK} {R : VK} (h : TD K (fun env => do let x ← m env; f x env) σ H Q)
    (k : ∀ ρ S env d v H', WS K ρ S H' → EnvR K ρ H' σ env → Rep K ρ H' v d → wp (f d env) (Post K ρ H' Q) S → R v H') : TD K m σ H R := by
  obtain ⟨ρ, S, env, w, e, h⟩ := h
  rw [wp_bind] at h
  refine ⟨ρ, S, env, w, e, wp_mono h fun d S' q ρ' H' v st w' r => ?_⟩
  exact k ρ' S' env d v H' w' (e.step w st) r (wp_mono q fun d' S'' p => p.step st)
theorem TD.thenB {m : Sl → M D} {f : D → Sl → M Bool} {Q : Bool → Hp → Prop} {R : VK} (h : TB K (fun env => do let x ← m env; f x env) σ H Q)
    (k : ∀ ρ S env d v H', WS K ρ S H' → EnvR K ρ H' σ env → Rep K ρ H' v d → wp (f d env) (PostB K ρ H' Q) S → R v H') : TD K m σ H R := by
  obtain ⟨ρ, S, env, w, e, h⟩ := h
  rw [wp_bind] at h
  refine ⟨ρ, S, env, w, e, wp_mono h fun d S' q ρ' H' v st w' r => ?_⟩
  exact k ρ' S' env d v H' w' (e.step w st) r (wp_mono q fun d' S'' p => p.step st)
theorem TB.then_ {m : Sl → M Bool} {f : Bool → Sl → M D} {Q : VK} {R : Bool → Hp → Prop} (h : TD K (fun env => do let x ← m env; f x env) σ H Q)
    (k : ∀ ρ S env d H', WS K ρ S H' → EnvR K ρ H' σ env → wp (f d env) (Post K ρ H' Q) S → R d H') : TB K m σ H R := by
  obtain ⟨ρ, S, env, w, e, h⟩ := h
  rw [wp_bind] at h
  refine ⟨ρ, S, env, w, e, wp_mono h fun d S' q ρ' H' st w' => ?_⟩
  exact k ρ' S' env d H' w' (e.step w st) (wp_mono q fun d' S'' p => p.step st)
theorem TB.thenB {m : Sl → M Bool} {f : Bool → Sl → M Bool} {Q : Bool → Hp → Prop} {R : Bool → Hp → Prop} (h : TB K (fun env => do let x ← m env; f x env) σ H Q)
    (k : ∀ ρ S env d H', WS K ρ S H' → EnvR K ρ H' σ env → wp (f d env) (PostB K ρ H' Q) S → R d H') : TB K m σ H R := by
  obtain ⟨ρ, S, env, w, e, h⟩ := h
  rw [wp_bind] at h
  refine ⟨ρ, S, env, w, e, wp_mono h fun d S' q ρ' H' st w' => ?_⟩
  exact k ρ' S' env d H' w' (e.step w st) (wp_mono q fun d' S'' p => p.step st)
theorem TDs.then_ {m : Sl → M (List D)} {f : List D → Sl → M D} {Q : VK} {R : List V → Hp → Prop} (h : TD K (fun env => do let x ← m env; f x env) σ H Q)
    (k : ∀ ρ S env d v H', WS K ρ S H' → EnvR K ρ H' σ env → Reps K ρ H' v d → wp (f d env) (Post K ρ H' Q) S → R v H') : TDs K m σ H R := by
  obtain ⟨ρ, S, env, w, e, h⟩ := h
  rw [wp_bind] at h
  refine ⟨ρ, S, env, w, e, wp_mono h fun d S' q ρ' H' v st w' r => ?_⟩
  exact k ρ' S' env d v H' w' (e.step w st) r (wp_mono q fun d' S'' p => p.step st)
theorem TD.thenS {m : Sl → M D} {f : D → Sl → M (List D)} {Q : List V → Hp → Prop} {R : VK} (h : TDs K (fun env => do let x ← m env; f x env) σ H Q)
    (k : ∀ ρ S env d v H', WS K ρ S H' → EnvR K ρ H' σ env → Rep K ρ H' v d → wp (f d env) (PostS K ρ H' Q) S → R v H') : TD K m σ H R := by
  obtain ⟨ρ, S, env, w, e, h⟩ := h
  rw [wp_bind] at h
  refine ⟨ρ, S, env, w, e, wp_mono h fun d S' q ρ' H' v st w' r => ?_⟩
  exact k ρ' S' env d v H' w' (e.step w st) r (wp_mono q fun d' S'' p => p.step st)
theorem TDs.thenS {m : Sl → M (List D)} {f : List D → Sl → M (List D)} {Q : List V → Hp → Prop} {R : List V → Hp → Prop} (h : TDs K (fun env => do let x ← m env; f x env) σ H Q)
    (k : ∀ ρ S env d v H', WS K ρ S H' → EnvR K ρ H' σ env → Reps K ρ H' v d → wp (f d env) (PostS K ρ H' Q) S → R v H') : TDs K m σ H R := by
  obtain ⟨ρ, S, env, w, e, h⟩ := h
  rw [wp_bind] at h
  refine ⟨ρ, S, env, w, e, wp_mono h fun d S' q ρ' H' v st w' r => ?_⟩
  exact k ρ' S' env d v H' w' (e.step w st) r (wp_mono q fun d' S'' p => p.step st)
/-- two expressions and an operator -/
theorem TD.op {ma mb : Sl → M D} {f : D → D → M D} {Q : VK} (h : TD K (fun env => do let x ← ma env; let y ← mb env; f x y) σ H Q) : tOp (rD K f) (TD K ma) (TD K mb) σ H Q := by
  refine TD.then_ (m := ma) (f := fun x env => do let y ← mb env; f x y) h fun ρ S env x v H' w e r h => ?_
  rw [wp_bind] at h
  refine ⟨ρ, S, env, w, e, wp_mono h fun y S' q ρ' H'' u st w' r' => ?_⟩
  exact ⟨ρ', S', x, y, w', r.step w st, r', wp_mono q fun d' S'' p => p.step st⟩
theorem TD.un {ma : Sl → M D} {f : D → M D} {Q : VK} (h : TD K (fun env => do let x ← ma env; f x) σ H Q) : tUn (rD1 K f) (TD K ma) σ H Q :=
  TD.then_ (m := ma) (f := fun x _ => f x) h fun ρ S env x v H' w e r h => ⟨ρ, S, x, w, r, h⟩
theorem TDs.cb {ma : Sl → M (List D)} {f : List D → M D} {Q : VK} (h : TD K (fun env => do let x ← ma env; f x) σ H Q) : tCB (rDs K f) (TDs K ma) σ H Q :=
  TDs.then_ (m := ma) (f := fun x _ => f x) h fun ρ S env x v H' w e r h => ⟨ρ, S, x, w, r, h⟩
end
end Dl
end

section
set_option Elab.async false
set_option linter.all false
set_option maxRecDepth 100000
set_option maxHeartbeats 1000000
/-! Dl: the operations are the machine's -/
namespace Dl
open PySem PySem.Spec PyProof.Rows L2
section
variable {X : Cx} {K : PySem.W.Frag} {ρ : List Addr} {S : Store} {H : Hp} {Q : VK}
theorem Post.int {i : Int} (w : WS K ρ S H) (p : Post K ρ H Q (.int i) S) : Q (.int i) H := p ρ H _ .refl w (.int i)
theorem Post.bl {i : Bool} (w : WS K ρ S H) (p : Post K ρ H Q (.bl i) S) : Q (.bl i) H := p ρ H _ .refl w (.bl i)
theorem Post.str {i : Str} (w : WS K ρ S H) (p : Post K ρ H Q (.str i) S) : Q (.str i) H := p ρ H _ .refl w (.str i)
theorem Post.non (w : WS K ρ S H) (p : Post K ρ H Q .non S) : Q .non H := p ρ H _ .refl w .non
theorem Post.same {v : V} {d : D} (w : WS K ρ S H) (r : Rep K ρ H v d) (p : Post K ρ H Q d S) : Q v H := p ρ H _ .refl w r
/-- a new tuple -/
theorem Post.tup {xs : List V} {ds : List D} (w : WS K ρ S H) (r : Reps K ρ H xs ds) (p : Post K ρ H Q (.tup ds) S) {a : Addr} (ha : H a = none) : Q (.ref a) (upd H a (.tup xs)) :=
  have r' : Reps K (ρ ++ []) (upd H a (.tup xs)) xs ds := r.kp (Kp.new ha)
  p ρ _ _ (.tup ha) (w.tup ha) (.tup (SqT.of upd_same) (by rw [List.append_nil] at r'; exact r'))
/-- a new list -/
theorem Post.lst {xs : List V} {ds : List D} (w : WS K ρ S H) (r : Reps K ρ H xs ds) (p : Post K ρ H Q (.ref S.length) (S ++ [.lst ds])) {a : Addr} (ha : H a = none) : Q (.ref a) (upd H a (.lst xs)) :=
  p _ _ _ (.alloc ha) (w.alloc ha ⟨xs, upd_same, r.kp (Kp.new ha)⟩) (Rep.new w)
/-- a list is changed -/
theorem Post.set {xs : List V} {ds : List D} {l : Nat} {a : Addr} {v : V} {d : D} (w : WS K ρ S H) (h : ρ[l]? = some a) (r : Reps K ρ H xs ds) (rv : Rep K ρ H v d) (p : Post K ρ H Q d (S.set l (.lst ds))) : Q v (upd H a (.lst xs)) := by
  have st := Step.set w (u := .lst xs) h
  have r' : Reps K (ρ ++ []) (upd H a (.lst xs)) xs ds := r.kp (st.kp w)
  rw [List.append_nil] at r'
  exact p ρ _ _ st (w.set h ⟨xs, upd_same, r'⟩) (rv.step w st)
theorem Rep.int_ {v : V} {i : Int} (r : Rep K ρ H v (.int i)) : v = .int i := by cases r; rfl
theorem Rep.str_ {v : V} {i : Str} (r : Rep K ρ H v (.str i)) : v = .str i := by cases r; rfl
theorem Rep.bl_ {v : V} {i : Bool} (r : Rep K ρ H v (.bl i)) : v = .bl i := by cases r; rfl
theorem Rep.non_ {v : V} (r : Rep K ρ H v .non) : v = .non := by cases r; rfl
theorem Rep.tup_ {v : V} {ds : List D} (r : Rep K ρ H v (.tup ds)) : ∃ a xs, v = .ref a ∧ SqT K H a xs ∧ Reps K ρ H xs ds := by cases r; exact ⟨_, _, rfl, by assumption, by assumption⟩
theorem Rep.ref_ {v : V} {l : Nat} (r : Rep K ρ H v (.ref l)) : ∃ a, v = .ref a ∧ ρ[l]? = some a := by cases r; exact ⟨_, rfl, by assumption⟩
theorem Rep.ro_ {v : V} {ds : List D} (r : Rep K ρ H v (.ro ds)) : ∃ a xs, v = .ref a ∧ SqF K H a xs ∧ Reps K ρ H xs ds := by cases r; exact ⟨_, _, rfl, by assumption, by assumption⟩
theorem and2 {a b : Bool} (h : (a && b) = true) : a = true ∧ b = true := Bool.and_eq_true_iff.mp h
theorem dec {p : Prop} [Decidable p] (h : decide p = true) : p := of_decide_eq_true h

theorem bop_ok (o : Operator) : OpR X (binaryOp o) (rD X.K (bop o)) := by
  intro pins s σ H v u vv uu Q I rv ru h
  obtain ⟨ρ, S, x, y, w, rx, ry, h⟩ := h
  unfold bop at h
  split at h
  · -- int + int
    cases rx.int_; cases ry.int_
    exact op_add pins s σ H _ _ _ _ Q I rv ru ⟨_, _, rfl, rfl, Post.int w h⟩
  · -- tup + tup
    obtain ⟨a, xs, rfl, hx, r1⟩ := rx.tup_
    obtain ⟨b, ys, rfl, hy, r2⟩ := ry.tup_
    simp only [wp_bind, wp_need, wp_pure] at h
    obtain ⟨hl, h⟩ := h
    have hz := dec hl
    rw [← r1.length, ← r2.length] at hz
    refine op_catA pins s σ H _ _ _ _ Q I rv ru ⟨a, b, xs, ys, rfl, rfl, hx, hy, hz, fun e => ?_, fun _ e => ?_, fun _ _ p hp => Post.tup w (r1.append r2) h hp⟩
    · rw [r1.nil_iff.mp e, List.nil_append] at h
      exact Post.same w ry h
    · rw [r2.nil_iff.mp e, List.append_nil] at h
      exact Post.same w rx h
  · -- list + list
    obtain ⟨a, rfl, h1⟩ := rx.ref_
    obtain ⟨b, rfl, h2⟩ := ry.ref_
    simp only [wp_bind, wp_getO] at h
    obtain ⟨o1, e1, o2, e2, h⟩ := h
    split at h
    · obtain ⟨xs, g1, r1⟩ := w.lst h1 e1
      obtain ⟨ys, g2, r2⟩ := w.lst h2 e2
      simp only [wp_bind, wp_need, wp_newO] at h
      obtain ⟨hl, h⟩ := h
      have hz := dec hl
      rw [← r1.length, ← r2.length] at hz
      exact op_cat pins s σ H _ _ _ _ Q I rv ru ⟨a, b, xs, ys, rfl, rfl, g1, g2, hz, fun p hp => Post.lst w (r1.append r2) h hp⟩
    · exact h.elim
  · -- str + str
    cases rx.str_; cases ry.str_
    simp only [wp_bind, wp_need, wp_pure] at h
    exact op_add_str pins s σ H _ _ _ _ Q I rv ru ⟨_, _, rfl, rfl, dec h.1, Post.str w h.2⟩
  · -- int - int
    cases rx.int_; cases ry.int_
    exact op_sub pins s σ H _ _ _ _ Q I rv ru ⟨_, _, rfl, rfl, Post.int w h⟩
  · -- int * int
    cases rx.int_; cases ry.int_
    simp only [wp_bind, wp_need, wp_pure] at h
    exact op_mulW pins s σ H _ _ _ _ Q I rv ru ⟨_, _, rfl, rfl, of_decide_eq_true (p := _ < _) h.1, Post.int w h.2⟩
  · -- tup * int
    obtain ⟨a, xs, rfl, hx, r1⟩ := rx.tup_
    cases ry.int_
    simp only [wp_bind, wp_need, wp_pure] at h
    obtain ⟨hl, h⟩ := h
    rename_i x k
    obtain ⟨hl, c4⟩ := and2 hl
    obtain ⟨hl, c3⟩ := and2 hl
    obtain ⟨c1, c2⟩ := and2 hl
    have c1 := dec c1; have c2 := dec c2; have c3 := dec c3; have c4 := dec c4
    by_cases hk : k = 1
    · subst hk
      refine op_repT1 pins s σ H _ _ _ _ Q I rv ru ⟨a, xs, rfl, rfl, hx, ?_⟩
      have e : (List.replicate (1 : Int).toNat x).flatten = x := by
        show (List.replicate 1 x).flatten = x
        simp
      rw [e] at h
      exact Post.same w rx h
    · exact op_repT pins s σ H _ _ _ _ Q I rv ru ⟨a, k, xs, rfl, rfl, hx, fun e => c1 (r1.nil_iff.mp e), by omega, c3, by rw [r1.length]; exact c4, fun p hp => Post.tup w (r1.repl k.toNat) h hp⟩
  · -- list * int
    obtain ⟨a, rfl, h1⟩ := rx.ref_
    cases ry.int_
    simp only [wp_bind, wp_getO] at h
    obtain ⟨o1, e1, h⟩ := h
    split at h
    · obtain ⟨xs, g1, r1⟩ := w.lst h1 e1
      simp only [wp_bind, wp_need, wp_newO] at h
      obtain ⟨hl, h⟩ := h
      obtain ⟨hl, c3⟩ := and2 hl
      obtain ⟨c1, c2⟩ := and2 hl
      have c3 := dec c3
      rw [← r1.length] at c3
      exact op_rep pins s σ H _ _ _ _ Q I rv ru ⟨a, _, xs, rfl, rfl, g1, dec c1, dec c2, c3, fun p hp => Post.lst w (r1.repl _) h hp⟩
    · exact h.elim
  · -- int // int
    cases rx.int_; cases ry.int_
    simp only [wp_bind, wp_need, wp_pure] at h
    obtain ⟨c1, c2⟩ := and2 h.1
    have q := Post.int w h.2
    obtain ⟨t, rfl⟩ := rv
    obtain ⟨t', rfl⟩ := ru
    exact floordiv_int (dec c1) ⟨.int _, H, I.tok _, ⟨_, rfl⟩, q⟩ (.inl (PyProof.noPylong_of_log2 (dec c2)))
  · cases rx.int_; cases ry.int_
    simp only [wp_bind, wp_need, wp_pure] at h
    exact op_modN pins s σ H _ _ _ _ Q I rv ru ⟨_, _, rfl, rfl, dec h.1, Post.int w h.2⟩
  · cases rx.int_; cases ry.int_
    simp only [wp_bind, wp_need, wp_pure] at h
    obtain ⟨hl, c3⟩ := and2 h.1
    obtain ⟨c1, c2⟩ := and2 hl
    exact op_pow pins s σ H _ _ _ _ Q I rv ru ⟨_, _, rfl, rfl, ⟨dec c1, dec c2, dec c3⟩, Post.int w h.2⟩
  · cases rx.int_; cases ry.int_
    simp only [wp_bind, wp_need, wp_pure] at h
    obtain ⟨hl, c3⟩ := and2 h.1
    obtain ⟨c1, c2⟩ := and2 hl
    exact op_shl pins s σ H _ _ _ _ Q I rv ru ⟨_, _, rfl, rfl, ⟨dec c1, dec c2, dec c3⟩, Post.int w h.2⟩
  · exact h.elim

/-! ### comparisons -/
mutual
theorem Rep.dp {w : WS K ρ S H} : ∀ {v : V} (d : D) {p : PyData}, Rep K ρ H v d → pyOf d = some p → Dp K H v p
  | _, .non, p, r, e => by simp [pyOf] at e; subst e; cases r.non_; exact .non
  | _, .bl b, p, r, e => by simp [pyOf] at e; subst e; cases r.bl_; exact .bl _
  | _, .int b, p, r, e => by simp [pyOf] at e; subst e; cases r.int_; exact .int _
  | _, .str b, p, r, e => by simp [pyOf] at e; subst e; cases r.str_; exact .str _
  | _, .tup ds, p, r, e => by
    simp [pyOf] at e
    obtain ⟨ps, e1, rfl⟩ := e
    obtain ⟨a, xs, rfl, h1, h2⟩ := r.tup_
    exact .tup h1 (Reps.dp (w := w) ds h2 e1)
  | _, .ref _, p, r, e => by simp [pyOf] at e
  | _, .ro _, p, r, e => by simp [pyOf] at e
theorem Reps.dp {w : WS K ρ S H} : ∀ {vs : List V} (ds : List D) {ps : List PyData}, Reps K ρ H vs ds → pysOf ds = some ps → DpAll K H vs ps
  | _, [], ps, r, e => by simp [pysOf] at e; subst e; cases r; exact .nil
  | _, d :: ds, ps, r, e => by
    cases r with
    | cons h r =>
      simp only [pysOf] at e
      cases e1 : pyOf d with
      | none => rw [e1] at e; simp at e
      | some p =>
        cases e2 : pysOf ds with
        | none => rw [e1, e2] at e; simp at e
        | some qs =>
          rw [e1, e2] at e
          simp at e
          subst e
          exact .cons (Rep.dp (w := w) d h e1) (Reps.dp (w := w) ds r e2)
end
theorem Rep.dpAt (w : WS K ρ S H) {v : V} {d : D} {p : PyData} (r : Rep K ρ H v d) (e : pyAt S d = some p) : Dp K H v p := by
  cases d with
  | ref l =>
    obtain ⟨a, rfl, h⟩ := r.ref_
    simp only [pyAt] at e
    split at e
    · rename_i ds q
      obtain ⟨xs, h1, h2⟩ := w.lst h q
      simp at e
      obtain ⟨ps, e1, rfl⟩ := e
      exact .lst (SqL.of h1) (Reps.dp (w := w) ds h2 e1)
    · cases e
  | _ => exact Rep.dp (w := w) _ r e
theorem Reps.dpsAt (w : WS K ρ S H) : ∀ {vs : List V} {ds : List D} {ps : List PyData}, Reps K ρ H vs ds → pysAt S ds = some ps → DpAll K H vs ps
  | _, _, ps, .nil, e => by simp [pysAt] at e; subst e; exact .nil
  | _, _, ps, .cons (d := d) (ds := ds) h r, e => by
    simp only [pysAt] at e
    cases e1 : pyAt S d with
    | none => rw [e1] at e; simp at e
    | some p =>
      cases e2 : pysAt S ds with
      | none => rw [e1, e2] at e; simp at e
      | some qs =>
        rw [e1, e2] at e
        simp at e
        subst e
        exact .cons (h.dpAt w e1) (Reps.dpsAt w r e2)
theorem remAt_some {xs : List D} {d : D} {S S1 : Store} {j : Nat} (e : remAt xs d S = some (j, S1)) : S1 = S ∧ ∃ ps p, pysAt S xs = some ps ∧ pyAt S d = some p ∧ SeqAt.shaped (.list ps) = true ∧ SeqAt.shaped p = true ∧ (ps.findIdx? fun z => PyData.eqv z p) = some j := by
  unfold remAt at e
  split at e
  · rename_i ps p e1 e2
    split at e
    · rename_i hs
      split at e
      · rename_i j' e3
        cases e
        obtain ⟨s1, s2⟩ := and2 hs
        exact ⟨rfl, ps, p, e1, e2, s1, s2, e3⟩
      · cases e
    · cases e
  · cases e
theorem eqD_wp {a b : D} {R : Bool → Store → Prop} (h : wp (eqD a b) R S) : ∃ x y, pyAt S a = some x ∧ pyAt S b = some y ∧ SeqAt.shaped x = true ∧ SeqAt.shaped y = true ∧ R (PyData.eqv x y) S := by
  unfold wp eqD at h
  cases e1 : pyAt S a with
  | none => simp [e1] at h
  | some x =>
    cases e2 : pyAt S b with
    | none => simp [e1, e2] at h
    | some y =>
      simp only [e1, e2] at h
      by_cases hs : (SeqAt.shaped x && SeqAt.shaped y) = true
      · rw [if_pos hs] at h
        exact ⟨x, y, rfl, rfl, (and2 hs).1, (and2 hs).2, h⟩
      · rw [if_neg hs] at h
        exact h.elim
theorem getL_wp {d : D} {R : List D → Store → Prop} (w : WS K ρ S H) {v : V} (r : Rep K ρ H v d) (h : wp (getL d) R S) : ∃ a xs ds, v = .ref a ∧ SqL K H a xs ∧ Reps K ρ H xs ds ∧ R ds S := by
  cases d with
  | ref l =>
    obtain ⟨a, rfl, h1⟩ := r.ref_
    simp only [getL, wp_bind, wp_getO] at h
    obtain ⟨o, e, h⟩ := h
    split at h
    · obtain ⟨xs, g, r1⟩ := w.lst h1 e
      exact ⟨a, xs, _, rfl, SqL.of g, r1, h⟩
    · exact h.elim
  | ro ds =>
    obtain ⟨a, xs, rfl, h1, r1⟩ := r.ro_
    exact ⟨a, xs, ds, rfl, h1.sql, r1, h⟩
  | _ => exact h.elim
theorem getS_wp {d : D} {R : List D → Store → Prop} (w : WS K ρ S H) {v : V} (r : Rep K ρ H v d) (h : wp (getS d) R S) : ∃ a xs ds, v = .ref a ∧ (SqL K H a xs ∨ SqT K H a xs) ∧ Reps K ρ H xs ds ∧ R ds S := by
  cases d with
  | tup ds =>
    obtain ⟨a, xs, rfl, h1, r1⟩ := r.tup_
    exact ⟨a, xs, ds, rfl, .inr h1, r1, h⟩
  | ref l =>
    obtain ⟨a, xs, ds, e, h1, h2, h3⟩ := getL_wp w r (show wp (getL (.ref l)) R S from h)
    exact ⟨a, xs, ds, e, .inl h1, h2, h3⟩
  | ro l =>
    obtain ⟨a, xs, ds, e, h1, h2, h3⟩ := getL_wp w r (show wp (getL (.ro l)) R S from h)
    exact ⟨a, xs, ds, e, .inl h1, h2, h3⟩
  | _ => exact h.elim
theorem Rep.isNon {v : V} {d : D} (r : Rep K ρ H v d) : decide (v = .non) = decide (d = .non) := by
  cases r <;> simp
abbrev rC (K : PySem.W.Frag) (o : CmpOp) : R2 := rD K fun x y => do let r ← cop o x y; pure (.bl r)
theorem cop_ok (hu : X.A.units + 64 < cLine) (o : CmpOp) : OpR X (compareOp o) (rC X.K o) := by
  intro pins s σ H v u vv uu Q I rv ru h
  obtain ⟨ρ, S, x, y, w, rx, ry, h⟩ := h
  rw [wp_bind] at h
  simp only [wp_pure] at h
  unfold cop at h
  split at h
  · cases rx.int_; cases ry.int_
    exact op_lt pins s σ H _ _ _ _ Q I rv ru ⟨_, _, rfl, rfl, Post.bl w h⟩
  · cases rx.int_; cases ry.int_
    exact op_le pins s σ H _ _ _ _ Q I rv ru ⟨_, _, rfl, rfl, Post.bl w h⟩
  · cases rx.int_; cases ry.int_
    exact op_gt pins s σ H _ _ _ _ Q I rv ru ⟨_, _, rfl, rfl, Post.bl w h⟩
  · cases rx.int_; cases ry.int_
    exact op_ge pins s σ H _ _ _ _ Q I rv ru ⟨_, _, rfl, rfl, Post.bl w h⟩
  · split at h
    · rename_i e1 e2
      obtain ⟨a, xs, rfl, hx, r1⟩ := rx.tup_
      obtain ⟨b, ys, rfl, hy, r2⟩ := ry.tup_
      rw [r1.ints e1] at hx
      rw [r2.ints e2] at hy
      exact op_ltU (by omega) pins s σ H _ _ _ _ Q I rv ru ⟨a, b, _, _, rfl, rfl, hx, hy, Post.bl w h⟩
    · exact h.elim
  · split at h
    · rename_i e1 e2
      obtain ⟨a, xs, rfl, hx, r1⟩ := rx.tup_
      obtain ⟨b, ys, rfl, hy, r2⟩ := ry.tup_
      rw [r1.ints e1] at hx
      rw [r2.ints e2] at hy
      exact op_gtT (by omega) pins s σ H _ _ _ _ Q I rv ru ⟨a, b, _, _, rfl, rfl, hx, hy, Post.bl w h⟩
    · exact h.elim
  · simp only [wp_bind, wp_getO] at h
    obtain ⟨a, rfl, h1⟩ := rx.ref_
    obtain ⟨b, rfl, h2⟩ := ry.ref_
    obtain ⟨o1, e1, o2, e2, h⟩ := h
    split at h
    · obtain ⟨xs, g1, r1⟩ := w.lst h1 e1
      obtain ⟨ys, g2, r2⟩ := w.lst h2 e2
      split at h
      · rename_i e3 e4
        rw [r1.ints e3] at g1
        rw [r2.ints e4] at g2
        exact op_ltL (by omega) pins s σ H _ _ _ _ Q I rv ru ⟨a, b, _, _, rfl, rfl, SqL.of g1, SqL.of g2, Post.bl w h⟩
      · exact h.elim
    · exact h.elim
  · obtain ⟨p, q, e1, e2, s1, s2, h⟩ := eqD_wp h
    exact op_eqD hu pins s σ H _ _ _ _ Q I rv ru ⟨p, q, rx.dpAt w e1, ry.dpAt w e2, s1, s2, Post.bl w h⟩
  · rw [wp_bind] at h
    obtain ⟨p, q, e1, e2, s1, s2, h⟩ := eqD_wp h
    exact op_neD hu pins s σ H _ _ _ _ Q I rv ru ⟨p, q, rx.dpAt w e1, ry.dpAt w e2, s1, s2, Post.bl w h⟩
  · cases ry.non_
    exact op_isN pins s σ H _ _ _ _ Q I rv ru ⟨rfl, by rw [rx.isNon]; exact Post.bl w h⟩
  · cases ry.non_
    exact op_notN pins s σ H _ _ _ _ Q I rv ru ⟨rfl, by rw [rx.isNon]; exact Post.bl w h⟩
  · cases rx.bl_; cases ry.bl_
    exact op_isBl pins s σ H _ _ _ _ Q I rv ru ⟨_, _, rfl, rfl, Post.bl w h⟩
  · cases rx.bl_; cases ry.bl_
    exact op_notBl pins s σ H _ _ _ _ Q I rv ru ⟨_, _, rfl, rfl, Post.bl w h⟩
  · rw [wp_bind] at h
    obtain ⟨a, xs, ds, rfl, hs, r2, h⟩ := getS_wp w ry h
    simp only [wp_bind, wp_need, wp_pure] at h
    obtain ⟨f1, f2⟩ := and2 h.1
    exact op_in_seq pins s σ H _ _ _ _ Q I rv ru ⟨a, xs, rfl, hs, rx.flatV f1, r2.allFlat f2, by
      rw [if_neg Bool.false_ne_true, Reps.inF rx f1 r2 f2]; exact Post.bl w h.2⟩
  · rw [wp_bind] at h
    obtain ⟨a, xs, ds, rfl, hs, r2, h⟩ := getS_wp w ry h
    simp only [wp_bind, wp_need, wp_pure] at h
    obtain ⟨f1, f2⟩ := and2 h.1
    exact op_notIn_seq pins s σ H _ _ _ _ Q I rv ru ⟨a, xs, rfl, hs, rx.flatV f1, r2.allFlat f2, by
      rw [if_pos rfl, Reps.inF rx f1 r2 f2]; exact Post.bl w h.2⟩
  · exact h.elim
/-! ### truth -/
theorem Reps.emp {xs : List V} {ds : List D} (r : Reps K ρ H xs ds) : xs.isEmpty = ds.isEmpty := by cases r <;> rfl
theorem truth_ok (w : WS K ρ S H) {v : V} {d : D} (r : Rep K ρ H v d) {R : Bool → Store → Prop} (h : wp (truth d) R S) : ∃ k, TruV K v H k ∧ R k S := by
  cases d with
  | non => cases r.non_; exact ⟨_, rfl, h⟩
  | bl b => cases r.bl_; exact ⟨_, rfl, h⟩
  | int i => cases r.int_; exact ⟨_, rfl, h⟩
  | str x =>
    cases r.str_
    simp only [truth, wp_bind, wp_need, wp_pure] at h
    exact ⟨_, ⟨dec h.1, rfl⟩, h.2⟩
  | tup ds =>
    obtain ⟨a, xs, rfl, h1, r1⟩ := r.tup_
    exact ⟨_, .inr (.inl ⟨xs, h1, rfl⟩), by rw [r1.emp]; exact h⟩
  | ref l =>
    obtain ⟨a, rfl, h1⟩ := r.ref_
    simp only [truth, wp_bind, wp_getO] at h
    obtain ⟨o, e, h⟩ := h
    split at h
    · obtain ⟨xs, g, r1⟩ := w.lst h1 e
      exact ⟨_, .inl ⟨xs, SqL.of g, rfl⟩, by rw [r1.emp]; exact h⟩
    · exact h.elim
  | ro ds =>
    obtain ⟨a, xs, rfl, h1, r1⟩ := r.ro_
    exact ⟨_, .inl ⟨xs, h1.sql, rfl⟩, by rw [r1.emp]; exact h⟩
/-! ### subscripts, slices -/
theorem Reps.atI {xs : List V} {ds : List D} (r : Reps K ρ H xs ds) {i : Int} {d : D} (e : L2.atI ds i = some d) : ∃ v, L2.atI xs i = some v ∧ Rep K ρ H v d := by
  unfold L2.atI at e ⊢
  rw [r.length]
  cases q : ixN ds.length i with
  | none => rw [q] at e; cases e
  | some j =>
    rw [q] at e
    obtain ⟨v, e1, e2⟩ := r.get (i := j) (d := d) e
    exact ⟨v, e1, e2⟩
theorem ixD_ok : IxR X (rD X.K ixD) := by
  intro value slice pins s σ H v u vv uu Q I rv ru h hs
  obtain ⟨ρ, S, x, y, w, rx, ry, h⟩ := h
  unfold ixD at h
  split at h
  · cases ry.int_
    split at h
    · cases rx.str_
      simp only [wp_bind, wp_need] at h
      obtain ⟨hl, h⟩ := h
      split at h
      · rename_i c e
        exact ix_str value slice pins s σ H _ _ _ _ Q I rv ru ⟨_, _, c, rfl, rfl, dec hl, e, Post.str w h⟩ hs
      · exact h.elim
    · rw [wp_bind] at h
      obtain ⟨a, xs, ds, rfl, hq, r2, h⟩ := getS_wp w rx h
      split at h
      · rename_i d e
        obtain ⟨z, e1, e2⟩ := r2.atI e
        rcases hq with hq | hq
        · exact ix_list value slice pins s σ H _ _ _ _ Q I rv ru ⟨a, xs, _, z, rfl, rfl, hq, e1, Post.same w e2 h⟩ hs
        · exact ix_tup value slice pins s σ H _ _ _ _ Q I rv ru ⟨a, xs, _, z, rfl, rfl, hq, e1, Post.same w e2 h⟩ hs
      · exact h.elim
  · exact h.elim
theorem Reps.cut {xs : List V} {ds : List D} (r : Reps K ρ H xs ds) (lo hi : Option Int) : Reps K ρ H (cutV xs lo hi) (cutD ds lo hi) := by
  unfold cutV cutD
  rw [r.length]
  exact (r.drop _).take _
def rSlD (K : PySem.W.Frag) : V → Option Int → Option Int → Hp → VK → Prop := fun v lo hi H Q => ∃ ρ S x, WS K ρ S H ∧ Rep K ρ H v x ∧ wp (slD x lo hi) (Post K ρ H Q) S
theorem sIx_le_ (n : Nat) (hi : Option Int) : HT.sIx n n hi ≤ n := HT.sIx_le _ _ (Nat.le_refl _) hi
theorem slD_ok : SlR X (rSlD X.K) := by
  intro pins s σ H v vv vl vu lo hi sl Q I rv hs pl pu h
  obtain ⟨ρ, S, x, w, rx, h⟩ := h
  unfold slD at h
  split at h
  · obtain ⟨a, xs, rfl, hx, r1⟩ := rx.tup_
    refine sl_tupA pins s σ H _ _ vl vu lo hi sl Q I rv hs pl pu ⟨a, xs, rfl, hx, fun e => ?_, fun _ p hp => Post.tup w (r1.cut lo hi) h hp⟩
    rename_i ds
    have ec : cutD ds lo hi = ds := by
      unfold cutD
      rw [r1.length] at e
      rw [e.1, e.2]
      simp
    rw [ec] at h
    exact Post.same w rx h
  · obtain ⟨a, rfl, h1⟩ := rx.ref_
    simp only [wp_bind, wp_getO] at h
    obtain ⟨o1, e1, h⟩ := h
    split at h
    · obtain ⟨xs, g1, r1⟩ := w.lst h1 e1
      exact sl_list pins s σ H _ _ vl vu lo hi sl Q I rv hs pl pu ⟨a, xs, rfl, SqL.of g1, fun p hp => Post.lst w (r1.cut lo hi) h hp⟩
    · exact h.elim
  · obtain ⟨a, xs, rfl, h1, r1⟩ := rx.ro_
    exact sl_list pins s σ H _ _ vl vu lo hi sl Q I rv hs pl pu ⟨a, xs, rfl, h1.sql, fun p hp => Post.lst w (r1.cut lo hi) h hp⟩
  · cases rx.str_
    simp only [wp_bind, wp_need, wp_pure] at h
    exact sl_str pins s σ H _ _ vl vu lo hi sl Q I rv hs pl pu ⟨_, rfl, dec h.1, Post.same w (.str _) h.2⟩
  · exact h.elim
theorem rev_ok {e : Expr} {te : TE} {k : Nat} {p1 p2 p3 pos : Pos} (he : PE X e te) : PE X (.Subscript e (.Slice none none (some (.UnaryOp .USub (.Constant (.int 1) k p1) p2)) p3) pos) (tUn (rD1 X.K revD) te) := by
  refine ⟨fun pins s σ H Q I h => ?_⟩
  refine Subscript_ (thn (he.run pins s σ H _ I h) fun v s1 ⟨x, H1, I1, r1, q1⟩ => ?_)
  obtain ⟨ρ, S, d, w, rx, h⟩ := q1
  have hst : PO X (some (.UnaryOp .USub (.Constant (.int 1) k p1) p2)) (tPart (tUn (rU fun i => .int (-i)) (tC (.int 1)))) := po_some (pe_un un_neg pe_int)
  refine wpAny_Slice (thn (po_none.run pins s1 σ H1 (fun o H2 => o = none ∧ H2 = H1) I1 ⟨rfl, rfl⟩) fun vl s2 ⟨l, H2, I2, pl, el, e2⟩ => ?_)
  subst el e2
  refine thn (po_none.run pins s2 σ H2 (fun o H3 => o = none ∧ H3 = H2) I2 ⟨rfl, rfl⟩) fun vu s3 ⟨u, H3, I3, pu, eu, e3⟩ => ?_
  subst eu e3
  refine thn (hst.run pins s3 σ H3 (fun o H4 => o = some (-1) ∧ H4 = H3) I3 ⟨1, rfl, -1, rfl, rfl, rfl⟩) fun vs s4 ⟨o, H4, I4, ps, eo, e4⟩ => ?_
  subst eo e4
  have I5 : Inv X pins σ H4 { s4 with heap := s4.heap.push { cls := .type "slice", data := .fields #[vl, vu, vs] } } := I4.kept (t' := s4.toks) fun b ob q => Heap.get?_push_of_some _ q
  unfold revD at h
  split at h
  · obtain ⟨a, xs, rfl, hx, r2⟩ := rx.tup_
    cases r1
    obtain ⟨its, r, ht, hz⟩ := I5.tuple hx
    have hlen := r.length
    show wpAny (model X.prog X.w) X.A (subscriptTail e (.Slice none none (some (.UnaryOp .USub (.Constant (.int 1) k p1) p2)) p3) (.ref a) (.ref s4.heap.objs.size)) (EP X pins σ Q) X.xe { s4 with heap := s4.heap.push { cls := .type "slice", data := .fields #[vl, vu, vs] } }
    refine tail_any (ops := [.ref a, .ref s4.heap.objs.size]) ht.typeIs (PyProof.Rows.slot_tuple_getitem.lookup) ?_ (by with_unfolding_all rfl)
    refine getItem_tuple_rev ht (Heap.IsSliceOf.new _ vl vu vs) pl pu ps ?_ (by rw [List.size_toArray]; omega)
    refine ⟨.ref _, _, I5.laid (t' := s4.toks) (o := .tup xs.reverse) (fun b ob q => Heap.get?_push_of_some _ q) (Nat.le_refl _) ?_, rfl, Post.tup w r2.reverse h (I5.hok.fresh (Nat.le_refl _))⟩
    exact ⟨by rw [List.length_reverse]; exact hz, _, r.reverse, IsTup.new _ _⟩
  · obtain ⟨a, rfl, h1⟩ := rx.ref_
    simp only [wp_bind, wp_getO] at h
    obtain ⟨o1, e1, h⟩ := h
    split at h
    · obtain ⟨xs, g1, r2⟩ := w.lst h1 e1
      cases r1
      obtain ⟨its, r, ht, hz⟩ := I5.list (SqL.of g1)
      have hlen := r.length
      show wpAny (model X.prog X.w) X.A (subscriptTail e (.Slice none none (some (.UnaryOp .USub (.Constant (.int 1) k p1) p2)) p3) (.ref a) (.ref s4.heap.objs.size)) (EP X pins σ Q) X.xe { s4 with heap := s4.heap.push { cls := .type "slice", data := .fields #[vl, vu, vs] } }
      refine tail_any (ops := [.ref a, .ref s4.heap.objs.size]) ht.isList.typeIs (PySem.slot_list_getitem.lookup) ?_ (by with_unfolding_all rfl)
      refine wpAny_getItem_list_slice ht.isList (Heap.IsSliceOf.new _ vl vu vs) pl pu ps (by decide) ?_ (by rw [List.size_toArray]; omega)
      rw [PySem.W.krv_pick]
      refine ⟨.ref _, _, I5.laid (t' := s4.toks) (o := .lst xs.reverse) (fun b ob q => Heap.get?_push_of_some _ q) (Nat.le_refl _) ?_, rfl, Post.lst w r2.reverse h (I5.hok.fresh (Nat.le_refl _))⟩
      exact ⟨by rw [List.length_reverse]; exact hz, _, 0, r.reverse, Heap.get?_push_size _ rfl⟩
    · exact h.elim
  · exact h.elim

/-! ### built-ins -/
def Bi.val : Bi → Value
  | .len => .builtin "len" | .sum => .builtin "sum" | .abs => .builtin "abs" | .int => .type "int" | .max => .builtin "max" | .min => .builtin "min"
  | .tuple => .type "tuple" | .list => .type "list" | .all => .builtin "all" | .any => .builtin "any" | .gcd => .builtin "math.gcd"
theorem Reps.one_ {vs : List V} {d : D} (r : Reps K ρ H vs [d]) : ∃ v, vs = [v] ∧ Rep K ρ H v d := by
  cases r with
  | cons h r => cases r; exact ⟨_, rfl, h⟩
theorem Reps.two_ {vs : List V} {d e : D} (r : Reps K ρ H vs [d, e]) : ∃ v u, vs = [v, u] ∧ Rep K ρ H v d ∧ Rep K ρ H u e := by
  cases r with
  | cons h r =>
    cases r with
    | cons g r => cases r; exact ⟨_, _, rfl, h, g⟩
theorem bi_ok (hc : X.calm = true) (b : Bi) : CallR X b.val (rDs X.K (biRun b)) := by
  intro pins s σ H vs us Q I rv h
  obtain ⟨ρ, S, ds, w, r, h⟩ := h
  unfold biRun at h
  split at h
  · obtain ⟨v, rfl, rx⟩ := r.one_
    cases rx.str_
    simp only [wp_bind, wp_need, wp_pure] at h
    exact call_len_str pins s σ H _ us Q I rv ⟨_, rfl, dec h.1, Post.int w h.2⟩
  · obtain ⟨v, rfl, rx⟩ := r.one_
    rw [wp_bind] at h
    obtain ⟨a, xs, ds, rfl, hq, r2, h⟩ := getS_wp w rx h
    exact call_len_seq pins s σ H _ us Q I rv ⟨a, xs, rfl, hq, by rw [r2.length]; exact Post.int w h⟩
  · obtain ⟨v, rfl, rx⟩ := r.one_
    rw [wp_bind] at h
    obtain ⟨a, xs, ds, rfl, hq, r2, h⟩ := getS_wp w rx h
    split at h
    · rename_i ns e
      rw [r2.ints e] at hq
      rcases hq with hq | hq
      · exact cr_sum hc pins s σ H _ us Q I rv ⟨a, ns, rfl, hq, Post.int w h⟩
      · exact cr_sumT hc pins s σ H _ us Q I rv ⟨a, ns, rfl, hq, Post.int w h⟩
    · exact h.elim
  · obtain ⟨v, rfl, rx⟩ := r.one_
    cases rx.int_
    exact call_abs pins s σ H _ us Q I rv ⟨_, rfl, Post.int w h⟩
  · obtain ⟨v, rfl, rx⟩ := r.one_
    cases rx.int_
    exact call_int1 pins s σ H _ us Q I rv (.inl ⟨_, rfl, Post.int w h⟩)
  · obtain ⟨v, rfl, rx⟩ := r.one_
    cases rx.bl_
    exact call_int1 pins s σ H _ us Q I rv (.inr ⟨_, rfl, Post.int w h⟩)
  · obtain ⟨v, u, rfl, rx, ry⟩ := r.two_
    cases rx.int_; cases ry.int_
    exact call_max2 hc pins s σ H _ us Q I rv ⟨_, _, rfl, Post.int w h⟩
  · obtain ⟨v, u, rfl, rx, ry⟩ := r.two_
    cases rx.int_; cases ry.int_
    exact call_min2 hc pins s σ H _ us Q I rv ⟨_, _, rfl, Post.int w h⟩
  · obtain ⟨v, rfl, rx⟩ := r.one_
    rename_i d
    cases d with
    | tup ds =>
      obtain ⟨a, xs, rfl, hx, r2⟩ := rx.tup_
      exact call_tuple_of pins s σ H _ us Q I rv ⟨a, xs, rfl, .inr ⟨hx, Post.same w rx h⟩⟩
    | ref l =>
      rw [wp_bind] at h
      obtain ⟨a, xs, ds, rfl, hq, r2, h⟩ := getL_wp w rx (show wp (getL (.ref l)) _ S from h)
      exact call_tuple_of pins s σ H _ us Q I rv ⟨a, xs, rfl, .inl ⟨hq, fun p hp => Post.tup w r2 h hp⟩⟩
    | ro l =>
      rw [wp_bind] at h
      obtain ⟨a, xs, ds, rfl, hq, r2, h⟩ := getL_wp w rx (show wp (getL (.ro l)) _ S from h)
      exact call_tuple_of pins s σ H _ us Q I rv ⟨a, xs, rfl, .inl ⟨hq, fun p hp => Post.tup w r2 h hp⟩⟩
    | _ => rw [wp_bind] at h; exact h.elim
  · obtain ⟨v, rfl, rx⟩ := r.one_
    rw [wp_bind] at h
    obtain ⟨a, xs, ds, rfl, hq, r2, h⟩ := getS_wp w rx h
    exact call_list_of pins s σ H _ us Q I rv ⟨a, xs, rfl, hq, fun p hp => Post.lst w r2 h hp⟩
  · obtain ⟨v, rfl, rx⟩ := r.one_
    rw [wp_bind] at h
    obtain ⟨a, xs, ds, rfl, hq, r2, h⟩ := getL_wp w rx h
    split at h
    · rename_i ns e
      rw [r2.bls e] at hq
      exact cr_all hc pins s σ H _ us Q I rv ⟨a, ns, rfl, hq, Post.bl w h⟩
    · exact h.elim
  · obtain ⟨v, rfl, rx⟩ := r.one_
    rw [wp_bind] at h
    obtain ⟨a, xs, ds, rfl, hq, r2, h⟩ := getL_wp w rx h
    split at h
    · rename_i ns e
      rw [r2.bls e] at hq
      exact cr_any hc pins s σ H _ us Q I rv ⟨a, ns, rfl, hq, Post.bl w h⟩
    · exact h.elim
  · obtain ⟨v, u, rfl, rx, ry⟩ := r.two_
    cases rx.int_; cases ry.int_
    exact cr_gcd pins s σ H _ us Q I rv ⟨_, _, rfl, Post.int w h⟩
  · exact h.elim
/-! ### methods -/
def Me.id : Me → String
  | .append => "list.append" | .pop => "list.pop" | .popAt => "list.pop" | .reverse => "list.reverse" | .remove => "list.remove"
theorem me_ok (hu : X.A.units + 65 < cLine) (m : Me) : MtR X m.id (rDm X.K (meRun m)) := by
  intro pins s σ H v vs vv us Q I rv rvs h
  obtain ⟨ρ, S, x, ds, w, rx, r, h⟩ := h
  unfold meRun at h
  split at h
  · obtain ⟨a, rfl, h1⟩ := rx.ref_
    simp only [wp_bind, wp_getO] at h
    obtain ⟨o1, e1, h⟩ := h
    split at h
    · obtain ⟨xs, g1, r1⟩ := w.lst h1 e1
      split at h
      · obtain ⟨y, rfl, ry⟩ := r.one_
        simp only [wp_bind, wp_need, wp_setO, wp_pure] at h
        obtain ⟨hl, _, h⟩ := h
        have hl := dec hl
        rw [← r1.length] at hl
        exact mt_append pins s σ H _ _ _ us Q I rv rvs ⟨a, xs, y, rfl, rfl, g1, hl, Post.set w h1 (r1.append (.cons ry .nil)) .non h⟩
      · cases r
        split at h
        · rename_i y e
          simp only [wp_bind, wp_setO, wp_pure] at h
          obtain ⟨z, e2, rz⟩ := r1.get e
          rw [← r1.length] at e2
          exact mt_pop pins s σ H _ _ _ us Q I rv rvs ⟨a, xs, z, rfl, rfl, g1, e2, Post.set w h1 r1.dropLast rz h.2⟩
        · exact h.elim
      · obtain ⟨y, rfl, ry⟩ := r.one_
        cases ry.int_
        simp only [wp_bind, wp_need] at h
        obtain ⟨hl, h⟩ := h
        obtain ⟨c1, c2⟩ := and2 hl
        split at h
        · rename_i k ek
          split at h
          · rename_i y e
            simp only [wp_bind, wp_setO, wp_pure] at h
            obtain ⟨z, e2, rz⟩ := r1.get e
            have ek2 := (ixN_seq ek).1
            rw [← r1.length] at ek2
            exact mt_popAt pins s σ H _ _ _ us Q I rv rvs ⟨a, xs, _, k, z, rfl, rfl, g1, dec c1, dec c2, ek2, e2, Post.set w h1 (r1.eraseIdx k) rz h.2⟩
          · exact h.elim
        · exact h.elim
      · cases r
        simp only [wp_bind, wp_setO, wp_pure] at h
        exact mt_reverse pins s σ H _ _ _ us Q I rv rvs ⟨a, xs, rfl, rfl, g1, Post.set w h1 r1.reverse .non h.2⟩
      · obtain ⟨y, rfl, ry⟩ := r.one_
        simp only [wp_bind, wp_setO, wp_pure] at h
        obtain ⟨j, S1, e, h2⟩ := wp_some h
        obtain ⟨es, ps, p, q1, q2, q3, q4, q5⟩ := remAt_some e
        subst es
        exact mt_removeD hu pins s σ H _ _ _ us Q I rv rvs ⟨a, xs, y, p, ps, j, rfl, rfl, g1, Reps.dpsAt w r1 q1, ry.dpAt w q2, q3, q4, q5, Post.set w h1 (r1.eraseIdx j) .non h2.2⟩
      · exact h.elim
    · exact h.elim
  · exact h.elim
theorem me_ty (m : Me) (w : WS K ρ S H) {v : V} {x : D} {ds : List D} {R : D → Store → Prop} (rx : Rep K ρ H v x) (h : wp (meRun m x ds) R S) : tyV K "list" v H := by
  unfold meRun at h
  split at h
  · obtain ⟨a, rfl, h1⟩ := rx.ref_
    simp only [wp_bind, wp_getO] at h
    obtain ⟨o1, e1, h⟩ := h
    split at h
    · obtain ⟨xs, g1, r1⟩ := w.lst h1 e1
      exact .inl ⟨rfl, xs, SqL.of g1⟩
    · exact h.elim
  · exact h.elim
/-! ### isinstance -/
theorem isTy_ok (w : WS K ρ S H) {v : V} {d : D} (r : Rep K ρ H v d) {t : Ty} {b : Bool} (e : isTy S d t = some b) : ∃ tv, TyX K H v tv ∧ ∀ t' b', isTy S d t' = some b' → PySem.W.kitOne K tv (.type t'.name) = some b' := by
  cases d with
  | non =>
    cases r.non_
    refine ⟨_, .base .non, fun t' b' e' => ?_⟩
    simp only [isTy, Option.some.injEq] at e'
    subst e'
    cases t' <;> exact kit_ty (by decide +kernel)
  | bl x =>
    cases r.bl_
    refine ⟨_, .base (.bl x), fun t' b' e' => ?_⟩
    simp only [isTy, Option.some.injEq] at e'
    subst e'
    cases t' <;> exact kit_ty (by decide +kernel)
  | int x =>
    cases r.int_
    refine ⟨_, .base (.int x), fun t' b' e' => ?_⟩
    simp only [isTy, Option.some.injEq] at e'
    subst e'
    cases t' <;> exact kit_ty (by decide +kernel)
  | str x =>
    cases r.str_
    refine ⟨_, .base (.str x), fun t' b' e' => ?_⟩
    simp only [isTy, Option.some.injEq] at e'
    subst e'
    cases t' <;> exact kit_ty (by decide +kernel)
  | tup ds =>
    obtain ⟨a, xs, rfl, hx, r1⟩ := r.tup_
    have ty : TyX K H (.ref a) (.type "tuple") := by
      rcases hx with (h | ⟨o, h⟩) | ⟨o, its, n, h, hc, _⟩
      · exact .base (.tup h)
      · exact .fTuple h
      · exact .kTuple h hc
    refine ⟨_, ty, fun t' b' e' => ?_⟩
    simp only [isTy, Option.some.injEq] at e'
    subst e'
    cases t' <;> exact kit_ty (by decide +kernel)
  | ref l =>
    obtain ⟨a, rfl, h1⟩ := r.ref_
    simp only [isTy] at e
    split at e
    · rename_i q
      obtain ⟨xs, g, r1⟩ := w.lst h1 q
      refine ⟨_, .base (.lst g), fun t' b' e' => ?_⟩
      simp only [isTy, q, Option.some.injEq] at e'
      subst e'
      cases t' <;> exact kit_ty (by decide +kernel)
    · cases e
  | ro ds =>
    obtain ⟨a, xs, rfl, hx, r1⟩ := r.ro_
    have ty : TyX K H (.ref a) (.type "list") := by
      rcases hx with ⟨o, h⟩ | ⟨o, its, n, h, hc, _⟩
      · exact .base (.frz h)
      · exact .kList h hc
    refine ⟨_, ty, fun t' b' e' => ?_⟩
    simp only [isTy, Option.some.injEq] at e'
    subst e'
    cases t' <;> exact kit_ty (by decide +kernel)
theorem anyTy_kit {tv : Value} {d : D} (f : ∀ t' b', isTy S d t' = some b' → PySem.W.kitOne K tv (.type t'.name) = some b') : ∀ (ts : List Ty) {b : Bool}, anyTy S d ts = some b → PySem.W.kitAny K tv (ts.map fun t => .type t.name) = some b
  | [], b, e => by simp only [anyTy, Option.some.injEq] at e; subst e; rfl
  | t :: ts, b, e => by
    simp only [anyTy] at e
    split at e
    · rename_i q
      cases e
      exact kitAny_cons (f _ _ q) (fun z => by cases z) fun _ => rfl
    · rename_i q
      exact kitAny_cons (f _ _ q) (fun _ => anyTy_kit f ts e) fun z => by cases z
    · cases e
def rIs1 (K : PySem.W.Frag) (t : Ty) : List V → Hp → VK → Prop := fun xs H Q => ∃ v ρ S d, xs = [v, .ty t.name] ∧ WS K ρ S H ∧ Rep K ρ H v d ∧ wp (isiRun d [t]) (Post K ρ H Q) S
theorem isi1_ok (t : Ty) : CallR X (.builtin "isinstance") (rIs1 X.K t) := by
  intro pins s σ H xs us Q I rv h
  obtain ⟨v, ρ, S, d, rfl, w, r, h⟩ := h
  unfold wp isiRun at h
  simp only [anyTy] at h
  cases e : isTy S d t with
  | none => rw [e] at h; exact h.elim
  | some b =>
    obtain ⟨tv, ty, f⟩ := isTy_ok w r e
    refine call_isi pins s σ H _ us Q I rv ⟨v, .ty t.name, tv, _, b, rfl, .ty _, ty, f _ _ e, ?_⟩
    rw [e] at h
    cases b <;> exact Post.bl w h
def rIsN (K : PySem.W.Frag) (ts : List Ty) : List V → Hp → VK → Prop := fun xs H Q => ∃ v tp ρ S d, xs = [v, .ref tp] ∧ H tp = some (.tup (ts.map fun t => .ty t.name)) ∧ WS K ρ S H ∧ Rep K ρ H v d ∧ wp (isiRun d ts) (Post K ρ H Q) S
theorem paired_ty : ∀ ts : List Ty, Paired ClsV (ts.map fun t => V.ty t.name) (ts.map fun t => Value.type t.name)
  | [] => .nil
  | t :: ts => .cons (.ty _) (paired_ty ts)
theorem isiN_ok (ts : List Ty) (hne : ts ≠ []) : CallR X (.builtin "isinstance") (rIsN X.K ts) := by
  intro pins s σ H xs us Q I rv h
  obtain ⟨v, tp, ρ, S, d, rfl, ht, w, r, h⟩ := h
  unfold wp isiRun at h
  cases e : anyTy S d ts with
  | none => rw [e] at h; exact h.elim
  | some b =>
    rw [e] at h
    cases ts with
    | nil => exact absurd rfl hne
    | cons t ts =>
      have e1 : ∃ b1, isTy S d t = some b1 := by
        simp only [anyTy] at e
        cases q : isTy S d t with
        | none => rw [q] at e; cases e
        | some b1 => exact ⟨b1, rfl⟩
      obtain ⟨b1, e1⟩ := e1
      obtain ⟨tv, ty, f⟩ := isTy_ok w r e1
      exact call_isiT pins s σ H _ us Q I rv ⟨v, tp, _, tv, _, b, rfl, ht, paired_ty _, ty, anyTy_kit f _ e, Post.bl w h⟩
/-! ### stores -/
def rSetD (K : PySem.W.Frag) : V → V → V → Hp → (Hp → Prop) → Prop := fun o i v H Q => ∃ ρ S x y z, WS K ρ S H ∧ Rep K ρ H o x ∧ Rep K ρ H i y ∧ Rep K ρ H v z ∧
  wp (setIx x y z) (fun _ S' => ∀ ρ' H', Step ρ H ρ' H' → WS K ρ' S' H' → Q H') S
theorem set_ok : PSet X (rSetD X.K) := by
  intro pins s σ H o i v ov iv u Q I ro ri rv h
  obtain ⟨ρ, S, x, y, z, w, rx, ry, rz, h⟩ := h
  unfold setIx at h
  split at h
  · obtain ⟨a, rfl, h1⟩ := rx.ref_
    cases ry.int_
    simp only [wp_bind, wp_getO] at h
    obtain ⟨o1, e1, h⟩ := h
    split at h
    · obtain ⟨xs, g1, r1⟩ := w.lst h1 e1
      split at h
      · rename_i j ej
        simp only [wp_setO] at h
        have st := Step.set w (u := .lst (xs.set j v)) h1
        have r' : Reps X.K (ρ ++ []) (upd H a (.lst (xs.set j v))) (xs.set j v) _ := (r1.set rz j).kp (st.kp w)
        rw [List.append_nil] at r'
        rw [← r1.length] at ej
        exact set_list pins s σ H _ _ _ ov iv u Q I ro ri rv ⟨a, xs, _, j, rfl, rfl, g1, ej, h.2 _ _ st (w.set h1 ⟨_, upd_same, r'⟩)⟩
      · exact h.elim
    · exact h.elim
  · exact h.elim
end
end Dl
end

section
set_option Elab.async false
set_option linter.all false
set_option maxRecDepth 100000
set_option maxHeartbeats 1000000
/-! Dl: the language's terms against the text, the checker -/
namespace Dl
open PySem PySem.Spec PyProof.Rows L2
/-- what a module's name is -/
inductive GI where
  | free | fn (i : Nat) | cst (g : Nat) | bt (id : String) | other
  deriving DecidableEq
/-- where one stands, statically -/
structure Cst where
  N : List Str
  sc : Scope
  fn : Str → Bool
  G : List (Str × GI)
def Cst.look (c : Cst) (x : Str) : Option NameKind := c.sc.names.lookup x
def Cst.vis (c : Cst) (x : Str) : Bool := decide (c.look x = some .local) || (decide (c.look x = some .cell) || decide (c.look x = some .free))
def Cst.sto (c : Cst) (x : Str) : Bool := decide (c.look x = some .local) || (decide (c.look x = some .cell) && c.fn x)
def Cst.glo (c : Cst) (x : Str) : Bool := decide (c.look x = some .globalImplicit)
def Cst.slot (c : Cst) (i : Nat) (x : Str) : Bool := decide (c.N[i]? = some x)
def Cst.is (c : Cst) (x : Str) (g : GI) : Bool := c.glo x && decide (c.G.lookup x = some g)
def Cst.blk (c : Cst) (scope : Scope) : Cst := { c with sc := relS scope c.sc, fn := fun x => scope.names.lookup x == some .cell }
def nmOk (x : Str) : Bool := (x == ("__debug__" : Str)) == false && ((x == ("__classdict__" : Str)) == false && decide (x ≠ "__name__"))
def plain : Expr → Bool | .Starred _ _ => false | _ => true
def noSet : Expr → Bool | .Set _ _ _ => false | _ => true
def noComp : Expr → Bool | .ListComp _ _ _ _ => false | .SetComp _ _ _ _ => false | .DictComp _ _ _ _ _ => false | _ => true
def noTup : Expr → Bool | .Tuple _ _ _ => false | _ => true
def noSuper : Expr → Bool | .Call _ _ _ _ => false | _ => true
def noSlice : Expr → Bool | .Slice _ _ _ _ => false | _ => true
/-- a test by its value's truth -/
def byTruth : Expr → Bool | .BoolOp _ _ _ => false | .UnaryOp _ _ _ => false | .Compare _ _ _ _ => false | .IfExp _ _ _ _ => false | .Constant _ _ _ => false | .NamedExpr _ _ _ => false | .Tuple _ _ _ => false | _ => true
def Bi.name : Bi → Str
  | .len => "len" | .sum => "sum" | .abs => "abs" | .int => "int" | .max => "max" | .min => "min"
  | .tuple => "tuple" | .list => "list" | .all => "all" | .any => "any" | .gcd => "gcd"
def Bi.gi : Bi → GI
  | .gcd => .bt "math.gcd" | _ => .free
def Me.name : Me → Str
  | .append => "append" | .pop => "pop" | .popAt => "pop" | .reverse => "reverse" | .remove => "remove"
def Ty.tx (t : Ty) : Str := Str.ofString t.name
def tysOk (c : Cst) : List Ty → List Expr → Bool
  | [], [] => true
  | t :: ts, .Name y _ :: es => decide (y = t.tx) && (c.is y .free && (nmOk y && tysOk c ts es))
  | _, _ => false
mutual
def TG.slots : TG → List Nat
  | .nm i => [i]
  | .tp ts => ts.slots
  | .ixs _ _ => []
def TGs.slots : TGs → List Nat
  | .nil => []
  | .cons t ts => t.slots ++ ts.slots
end
mutual
def TG.noIx : TG → Bool
  | .nm _ => true
  | .tp ts => ts.noIx
  | .ixs _ _ => false
def TGs.noIx : TGs → Bool
  | .nil => true
  | .cons t ts => t.noIx && ts.noIx
end
def ownP (c : Cst) (own : List Nat) : List (Str × Nat) := own.map fun i => (c.N.getD i "", i)
mutual
def chk (c : Cst) : IE → Expr → Bool
  | .var i, e => match e with | .Name x _ => c.slot i x && (c.vis x && nmOk x) | _ => false
  | .int z, e => match e with | .Constant (.int i) _ _ => decide (i = z) | _ => false
  | .bl b, e => match e with | .Constant (.bool b') _ _ => decide (b = b') | _ => false
  | .non, e => match e with | .Constant .none _ _ => true | _ => false
  | .str x, e => match e with | .Constant (.str y) _ _ => decide (x = y) | _ => false
  | .glo g, e => match e with | .Name x _ => c.is x (.cst g) && nmOk x | _ => false
  | .tup es, e => match e with | .Tuple l _ _ => chks c es l | _ => false
  | .lst es, e => match e with | .List l _ => chks c es l | _ => false
  | .op o a b, e => match e with | .BinOp e1 o' e2 _ => decide (o = o') && (chk c a e1 && chk c b e2) | _ => false
  | .neg a, e => match e with | .UnaryOp .USub e1 _ => chk c a e1 | _ => false
  | .not a, e => match e with | .UnaryOp .Not e1 _ => chk c a e1 | _ => false
  | .and a b, e => match e with
    | .BoolOp .And [e1, e2] _ => chk c a e1 && chk c b e2
    | .BoolOp .And (e1 :: e2 :: e3 :: r) p => chk c a e1 && chk c b (.BoolOp .And (e2 :: e3 :: r) p)
    | _ => false
  | .or a b, e => match e with
    | .BoolOp .Or [e1, e2] _ => chk c a e1 && chk c b e2
    | .BoolOp .Or (e1 :: e2 :: e3 :: r) p => chk c a e1 && chk c b (.BoolOp .Or (e2 :: e3 :: r) p)
    | _ => false
  | .cmp o a b, e => match e with | .Compare e1 [o'] [e2] _ => decide (o = o') && (!behindInMarks o e2 && (chk c a e1 && chk c b e2)) | _ => false
  | .chain o o2 a b d, e => match e with | .Compare e1 [o', o2'] [e2, e3] _ => decide (o = o') && (decide (o2 = o2') && (!lastMarks [o, o2] [e2, e3] && (chk c a e1 && (chk c b e2 && chk c d e3)))) | _ => false
  | .ite t a b, e => match e with | .IfExp e1 e2 e3 _ => chk c t e1 && (chk c a e2 && chk c b e3) | _ => false
  | .ix a b, e => match e with | .Subscript e1 e2 _ => noSlice e2 && (chk c a e1 && chk c b e2) | _ => false
  | .sl a lo hi, e => match e with | .Subscript e1 (.Slice l h none _) _ => chk c a e1 && (chko c lo l && chko c hi h) | _ => false
  | .rev a, e => match e with | .Subscript e1 (.Slice none none (some (.UnaryOp .USub (.Constant (.int 1) _ _) _)) _) _ => chk c a e1 | _ => false
  | .call f es, e => match e with | .Call (.Name x _) (e1 :: l) [] _ => c.is x (.fn f) && (nmOk x && chks c es (e1 :: l)) | _ => false
  | .bi b es, e => match e with | .Call (.Name x _) (e1 :: l) [] _ => decide (x = b.name) && (c.is x b.gi && chks c es (e1 :: l)) | _ => false
  | .me m o es, e => match e with | .Call (.Attribute e1 nm apos) l [] cpos => decide (nm = m.name) && ((apos.endLine == cpos.line) && (noSuper e1 && (decide (l.length < 29) && (chk c o e1 && chks c es l)))) | _ => false
  | .isi a t, e => match e with | .Call (.Name x _) [e1, .Name y _] [] _ => decide (x = "isinstance") && (c.is x .free && (decide (y = t.tx) && (c.is y .free && (plain e1 && chk c a e1)))) | _ => false
  | .isis a ts, e => match e with | .Call (.Name x _) [e1, .Tuple l _ _] [] _ => decide (x = "isinstance") && (c.is x .free && (tysOk c ts l && (decide (ts ≠ [] ∧ ts.length < 100) && (plain e1 && chk c a e1)))) | _ => false
  | .comp t own it cond elt, e => match e with
    | .ListComp e1 [⟨tg, iter, ifs, as⟩] scope _ => decide (as = 0) && (noSet iter && (blkC c.N c.sc scope (ownP c own) && (t.noIx && (t.slots.all (own.contains ·) && (chkI c tg it iter && (chkT (c.blk scope) t tg && (chkc (c.blk scope) cond ifs && chk (c.blk scope) elt e1)))))))
    | _ => false
  | .tupr a, e => match e with | .Call (.Name x _) [.Call (.Name y _) [e1] [] _] [] _ => decide (x = "tuple") && (c.is x .free && (decide (y = "range") && (c.is y .free && (plain e1 && chk c a e1)))) | _ => false
  | .lstr a, e => match e with | .Call (.Name x _) [.Call (.Name y _) [e1] [] _] [] _ => decide (x = "list") && (c.is x .free && (decide (y = "range") && (c.is y .free && (plain e1 && chk c a e1)))) | _ => false
def chks (c : Cst) : IEs → List Expr → Bool
  | .nil, l => match l with | [] => true | _ => false
  | .cons e es, l => match l with | e1 :: r => plain e1 && (chk c e e1 && chks c es r) | _ => false
def chko (c : Cst) : IO → Option Expr → Bool
  | .no, o => match o with | none => true | _ => false
  | .so e, o => match o with | some e1 => chk c e e1 | _ => false
def chkc (c : Cst) : IC → List Expr → Bool
  | .no, o => match o with | [] => true | _ => false
  | .so e, o => match o with | [e1] => chk c e e1 | _ => false
def chkI (c : Cst) (tg : Expr) : II → Expr → Bool
  | .seq e, e1 => noSet e1 && chk c e e1
  | .rng1 a, e => match e with | .Call (.Name x _) [e1] [] _ => decide (x = "range") && (c.is x .free && (plain e1 && chk c a e1)) | _ => false
  | .rng2 a b, e => match e with | .Call (.Name x _) [e1, e2] [] _ => decide (x = "range") && (c.is x .free && (plain e1 && (plain e2 && (chk c a e1 && chk c b e2)))) | _ => false
  | .zip a b, e => match e with | .Call (.Name x _) [e1, e2] [] _ => decide (x = "zip") && (c.is x .free && (plain e1 && (plain e2 && (!noTup tg && (chk c a e1 && chk c b e2))))) | _ => false
def chkT (c : Cst) : TG → Expr → Bool
  | .nm i, e => match e with | .Name x _ => c.slot i x && (c.sto x && nmOk x) | _ => false
  | .tp ts, e => match e with | .Tuple l _ _ => chkTs c ts l | _ => false
  | .ixs o i, e => match e with | .Subscript e1 e2 _ => noSlice e2 && (chk c o e1 && chk c i e2) | _ => false
def chkTs (c : Cst) : TGs → List Expr → Bool
  | .nil, l => match l with | [] => true | _ => false
  | .cons t ts, l => match l with | e1 :: r => plain e1 && (chkT c t e1 && chkTs c ts r) | _ => false
end
/-! ### where one stands -/
def spD (K : PySem.W.Frag) (m : List D → M D) : Sp := fun vs H Q _ => ∃ ρ S ds, WS K ρ S H ∧ Reps K ρ H vs ds ∧ wp (m ds) (Post K ρ H Q) S
def GOk (X : Cx) (gl : Nat → D) (cf : Nat → List D → M D) (x : Str) : GI → Prop
  | .free => X.mg x = none
  | .bt id => X.mg x = some (.builtin id)
  | .cst g => ∃ u v, X.mg x = some u ∧ RelV v u ∧ ∀ ρ H, Rep X.K ρ H v (gl g)
  | .fn i => ∃ f fd ps k, X.mg x = some (.ref f) ∧ PySem.W.keepIn X.K (.ref f) = true ∧ Binds X.K fd ps [] ∧ Room k X.A ∧ FnOk X.prog X.w X.K X.mg X.base CX0 k f fd ps (spD X.K (cf i))
  | .other => True
structure Ok (gl : Nat → D) (cf : Nat → List D → M D) (c : Cst) (X : Cx) : Prop where
  N : X.N = c.N
  nd : X.N.Nodup
  sc : X.env.scope = c.sc
  fn : ∀ x, c.fn x = true → X.fn x = true
  calm : X.calm = true
  xe : X.xe = fun _ _ => False
  un : X.A.units + 65 < cLine
  G : ∀ x g, c.G.lookup x = some g → GOk X gl cf x g
section
variable {gl : Nat → D} {cf : Nat → List D → M D} {c : Cst} {X : Cx}
theorem Ok.slot (ok : Ok gl cf c X) {i : Nat} {x : Str} (h : c.slot i x = true) : X.N[i]? = some x := by rw [ok.N]; exact of_decide_eq_true h
theorem Ok.vis (ok : Ok gl cf c X) {x : Str} (h : c.vis x = true) : Vis X.env.scope x := by
  unfold Vis
  rw [ok.sc]
  unfold Cst.vis at h
  rcases Bool.or_eq_true_iff.mp h with h | h
  · exact .inl (of_decide_eq_true h)
  · rcases Bool.or_eq_true_iff.mp h with h | h
    · exact .inr (.inl (of_decide_eq_true h))
    · exact .inr (.inr (of_decide_eq_true h))
theorem Ok.loc (ok : Ok gl cf c X) {x : Str} (h : c.sto x = true) : L2.Loc X.env.scope x ∧ (X.fn x = true ∨ X.env.scope.names.lookup x = some .local) := by
  unfold L2.Loc
  rw [ok.sc]
  unfold Cst.sto at h
  rcases Bool.or_eq_true_iff.mp h with h | h
  · exact ⟨.inl (of_decide_eq_true h), .inr (of_decide_eq_true h)⟩
  · obtain ⟨h1, h2⟩ := and2 h
    exact ⟨.inr (of_decide_eq_true h1), .inl (ok.fn x h2)⟩
theorem Ok.is_ (ok : Ok gl cf c X) {x : Str} {g : GI} (h : c.is x g = true) : Gl X x ∧ GOk X gl cf x g := by
  obtain ⟨h1, h2⟩ := and2 h
  refine ⟨?_, ok.G x g (of_decide_eq_true h2)⟩
  show X.env.scope.names.lookup x = some .globalImplicit
  rw [ok.sc]
  exact of_decide_eq_true h1
theorem nmOk_ {x : Str} (h : nmOk x = true) : (x == ("__debug__" : Str)) = false ∧ (x == ("__classdict__" : Str)) = false ∧ x ≠ "__name__" := by
  obtain ⟨h1, h2⟩ := and2 h
  obtain ⟨h2, h3⟩ := and2 h2
  exact ⟨eq_of_beq h1, eq_of_beq h2, of_decide_eq_true h3⟩
theorem Ok.blk (ok : Ok gl cf c X) (scope : Scope) (s : Shared) (H : Hp) (C : Addr) (cl : List (Str × Addr)) (fp : List Addr) : Ok gl cf (c.blk scope) (X.blk s H scope (compEnvC scope cl C X.env) fp) where
  N := ok.N
  nd := ok.nd
  sc := by
    show relS scope X.env.scope = relS scope c.sc
    rw [ok.sc]
  fn := fun x h => h
  calm := ok.calm
  xe := rfl
  un := ok.un
  G := fun x g h => by
    have := ok.G x g h
    cases g with
    | free => exact this
    | bt id => exact this
    | cst g => exact this
    | fn i => exact this
    | other => exact this
end
/-! ### small facts of the text -/
section
theorem star_plain {e : Expr} {es : List Expr} {env : Env} (h : plain e = true) : starEach (e :: es) env = (false, eval e env) :: starEach es env := by
  cases e <;> first | rfl | cases h
theorem back_any {pos : Pos} {env : Env} : ∀ {es : List Expr}, es.all plain = true → (backTo pos (starEach es env)).any (·.1) = false
  | [], _ => rfl
  | e :: es, h => by
    rw [List.all_cons] at h
    obtain ⟨h1, h2⟩ := and2 h
    rw [star_plain h1]
    have := back_any (pos := pos) (env := env) h2
    unfold backTo at this ⊢
    rw [List.map_cons, List.any_cons, this]
    rfl
theorem back_all {pos : Pos} {env : Env} : ∀ {es : List Expr}, es.all plain = true → (backTo pos (starEach es env)).all (fun x => !x.1) = true
  | [], _ => rfl
  | e :: es, h => by
    rw [List.all_cons] at h
    obtain ⟨h1, h2⟩ := and2 h
    rw [star_plain h1]
    have := back_all (pos := pos) (env := env) h2
    unfold backTo at this ⊢
    rw [List.map_cons, List.all_cons, this]
    rfl
theorem few_ok {pos : Pos} {env : Env} {es : List Expr} (h : es.all plain = true) (hl : es.length < 29) : ((backTo pos (starEach es env)).all (fun x => !x.1) && (backToKw pos (keywordEach [] env)).all (fun x => x.1.isSome)
      && decide (es.length + ([] : List Keyword).length + (if ([] : List Keyword).isEmpty then 0 else 1) < 30)) = true := by
  rw [back_all h]
  show (true && true && decide (es.length + 0 + 0 < 30)) = true
  simp; omega
theorem asg_each {e : Expr} {es : List Expr} {env : Env} (h : plain e = true) : assignEach (e :: es) env = (false, assign e env) :: assignEach es env := by
  cases e <;> first | rfl | cases h
theorem asg_len {env : Env} : ∀ {es : List Expr}, es.all plain = true → (assignEach es env).length = es.length
  | [], _ => rfl
  | e :: es, h => by
    rw [List.all_cons] at h
    obtain ⟨h1, h2⟩ := and2 h
    rw [asg_each h1, List.length_cons, List.length_cons, asg_len h2]
theorem asg_find {env : Env} : ∀ {es : List Expr}, es.all plain = true → (assignEach es env).findIdx? (·.1) = none
  | [], _ => rfl
  | e :: es, h => by
    rw [List.all_cons] at h
    obtain ⟨h1, h2⟩ := and2 h
    rw [asg_each h1, List.findIdx?_cons, asg_find h2]
    rfl
theorem folded_ok {e : Expr} {env : Env} (h : noSet e = true) : ∀ x, foldedSetIterable e env x = pure x := by
  intro x
  cases e <;> first | rfl | cases h
theorem plainIx_ok {e : Expr} (h : noSlice e = true) : PlainIx e := by
  intro o i
  cases e <;> first | rfl | cases h
theorem super_ok {e : Expr} {m : Str} {env : Env} {w : Sem Value} (h : noSuper e = true) : attributeBase e m env w = w := by
  cases e <;> first | rfl | cases h
theorem truth_plain {e : Expr} {env : Env} (h : byTruth e = true) : ∀ whole, isTrue e env whole = (do let v ← whole; standAt e.pos; holding [v] (truthy v)) := by
  intro w
  cases e <;> first | rfl | cases h
theorem swap_none {e : Expr} {t : Option Expr} {l : Nat} {env : Env} (h : noComp e = true) : swapsWith e t l env = pure false := by
  cases e <;> first | rfl | cases h
theorem swapped_none {tg e : Expr} {env : Env} (h : noTup e = true ∨ noTup tg = true) (h2 : ∀ es p, tg ≠ .List es p) : swappedStores [tg] e env = pure none := by
  cases tg <;> cases e <;> first | exact absurd rfl (h2 _ _) | rfl | (rcases h with h | h <;> cases h)
end
end Dl
end

section
set_option Elab.async false
set_option linter.all false
set_option maxRecDepth 100000
set_option maxHeartbeats 1000000
/-! Dl: the meaning of the language is the machine's: rules for expressions -/
namespace Dl
open PySem PySem.Spec PyProof.Rows L2
section
variable {gl : Nat → D} {cf : Nat → List D → M D} {c : Cst} {X : Cx}
/-! ### readings for tests, arguments, targets, sources -/
/-- an assignment of a datum -/
def TGd (K : PySem.W.Frag) (sl : List Nat) (m : D → Sl → M Sl) : L2.TG := fun v σ H Q => ∃ ρ S env d, WS K ρ S H ∧ EnvR K ρ H σ env ∧ Rep K ρ H v d ∧
  wp (m d env) (fun env' S' => ∀ ρ' H' σ', Step ρ H ρ' H' → WS K ρ' S' H' → EnvR K ρ' H' σ' env' → (∀ own : List Nat, (∀ i ∈ sl, i ∈ own) → wipe σ' own = wipe σ own) → Q σ' H') S
def TGds (K : PySem.W.Frag) (sl : List Nat) (m : List D → Sl → M Sl) : L2.TGs := fun vs σ H Q => ∃ ρ S env ds, WS K ρ S H ∧ EnvR K ρ H σ env ∧ Reps K ρ H vs ds ∧
  wp (m ds env) (fun env' S' => ∀ ρ' H' σ', Step ρ H ρ' H' → WS K ρ' S' H' → EnvR K ρ' H' σ' env' → (∀ own : List Nat, (∀ i ∈ sl, i ∈ own) → wipe σ' own = wipe σ own) → Q σ' H') S
def GH (S : Store) : Option (Nat × List D) → Prop
  | none => True
  | some (l, ds) => S[l]? = some (.lst ds)
theorem grd1_wp {g : Option (Nat × List D)} {Q : Unit → Store → Prop} {S : Store} (h : wp (grd1 g) Q S) : GH S g ∧ Q () S := by
  unfold grd1 at h
  split at h
  · exact ⟨trivial, h⟩
  · rename_i l ds
    unfold wp at h
    by_cases e : S[l]? = some (.lst ds)
    · simp only [e, if_true] at h
      exact ⟨e, h⟩
    · simp only [e, if_false] at h
theorem grd_wp {s : Src} {Q : Unit → Store → Prop} {S : Store} (h : wp s.grd Q S) : (GH S s.guard ∧ GH S s.guard2) ∧ Q () S := by
  unfold Src.grd at h
  rw [wp_bind] at h
  obtain ⟨h1, h⟩ := grd1_wp h
  obtain ⟨h2, h⟩ := grd1_wp h
  exact ⟨⟨h1, h2⟩, h⟩
/-- the iterator J yields the items -/
def SrcOk (K : PySem.W.Frag) (ρ0 : List Addr) (H0 : Hp) (J : It) (s : Src) : Prop := ∀ (i : Nat) (ρ : List Addr) (S : Store) (H : Hp), Step ρ0 H0 ρ H → WS K ρ S H → GH S s.guard ∧ GH S s.guard2 →
  (∀ d, s.items[i]? = some d → J.go i H ∧ ∀ x H', J.yld i H x H' → Step ρ H ρ H' ∧ WS K ρ S H' ∧ Rep K ρ H' x d) ∧ (s.items.length ≤ i → J.stop i H)
def TIs (K : PySem.W.Frag) (m : Sl → M Src) : TI := fun σ H R => ∃ ρ S env, WS K ρ S H ∧ EnvR K ρ H σ env ∧
  wp (m env) (fun s S' => ∀ ρ' H' J, Step ρ H ρ' H' → WS K ρ' S' H' → SrcOk K ρ' H' J s → R J H') S

/-! ### names, constants -/
theorem r_var (ok : Ok gl cf c X) {i : Nat} {x : Str} {pos : Pos} (h : (c.slot i x && (c.vis x && nmOk x)) = true) : PE X (.Name x pos) (TD X.K (ev gl cf (.var i))) := by
  obtain ⟨h1, h2⟩ := and2 h
  obtain ⟨h2, h3⟩ := and2 h2
  obtain ⟨n1, n2, n3⟩ := nmOk_ h3
  refine PE.of (pe_var (ok.slot h1) (ok.vis h2) n1 n2) fun σ H Q ⟨ρ, S, env, w, e, q⟩ => ?_
  simp only [ev] at q
  split at q
  · rename_i d hd
    obtain ⟨v, e1, r⟩ := e.at_ i d hd
    exact ⟨v, e1, Post.same w r q⟩
  · exact q.elim
theorem r_glo (ok : Ok gl cf c X) {g : Nat} {x : Str} {pos : Pos} (h : (c.is x (.cst g) && nmOk x) = true) : PE X (.Name x pos) (TD X.K (ev gl cf (.glo g))) := by
  obtain ⟨h1, h3⟩ := and2 h
  obtain ⟨n1, n2, n3⟩ := nmOk_ h3
  obtain ⟨hg, u, v, hm, r, rep⟩ := ok.is_ h1
  refine PE.of (pe_glob hg hm r n1) fun σ H Q ⟨ρ, S, env, w, e, q⟩ => ?_
  simp only [ev] at q
  exact Post.same w (rep ρ H) q
theorem r_int {z : Int} {k : Nat} {pos : Pos} : PE X (.Constant (.int z) k pos) (TD X.K (ev gl cf (.int z))) :=
  PE.of pe_int fun σ H Q ⟨ρ, S, env, w, e, q⟩ => Post.int w q
theorem r_bl {z : Bool} {k : Nat} {pos : Pos} : PE X (.Constant (.bool z) k pos) (TD X.K (ev gl cf (.bl z))) :=
  PE.of pe_bl fun σ H Q ⟨ρ, S, env, w, e, q⟩ => Post.bl w q
theorem r_non {k : Nat} {pos : Pos} : PE X (.Constant .none k pos) (TD X.K (ev gl cf .non)) :=
  PE.of pe_non fun σ H Q ⟨ρ, S, env, w, e, q⟩ => Post.non w q
theorem r_str {z : Str} {k : Nat} {pos : Pos} : PE X (.Constant (.str z) k pos) (TD X.K (ev gl cf (.str z))) :=
  PE.of pe_str fun σ H Q ⟨ρ, S, env, w, e, q⟩ => Post.str w q
/-! ### arguments -/
theorem r_nil : PA X [] (TDs X.K (evs gl cf .nil)) := PA.of pa_nil fun σ H Q ⟨ρ, S, env, w, e, q⟩ => q ρ H [] .refl w .nil
theorem r_cons {e : IE} {es : IEs} {e1 : Expr} {r : List Expr} (hp : plain e1 = true) (h1 : PE X e1 (TD X.K (ev gl cf e))) (h2 : PA X r (TDs X.K (evs gl cf es))) : PA X (e1 :: r) (TDs X.K (evs gl cf (.cons e es))) := by
  refine PA.of (pa_cons h1 h2 (star_plain hp)) fun σ H Q h => ?_
  have h : TDs X.K (fun env => do let d ← ev gl cf e env; let ds ← evs gl cf es env; pure (d :: ds)) σ H Q := h
  refine TD.thenS h fun ρ S env d v H' w en rd q => ?_
  rw [wp_bind] at q
  refine ⟨ρ, S, env, w, en, wp_mono q fun ds S' p ρ' H'' vs st w' rs => ?_⟩
  exact p ρ' H'' _ st w' (.cons (rd.step w st) rs)
theorem r_tup {es : IEs} {l : List Expr} {k : Nat} {pos : Pos} (h : PA X l (TDs X.K (evs gl cf es))) : PE X (.Tuple l k pos) (TD X.K (ev gl cf (.tup es))) := by
  refine PE.of (pe_tup h) fun σ H Q h => ?_
  have h : TD X.K (fun env => do let ds ← evs gl cf es env; do need (lens ds.length); pure (D.tup ds)) σ H Q := h
  refine TDs.then_ h fun ρ S env d v H' w en rd q => ?_
  simp only [wp_bind, wp_need, wp_pure] at q
  exact ⟨by rw [rd.length]; exact of_decide_eq_true q.1, fun p hp => Post.tup w rd q.2 hp⟩
theorem r_lst {es : IEs} {l : List Expr} {pos : Pos} (h : PA X l (TDs X.K (evs gl cf es))) : PE X (.List l pos) (TD X.K (ev gl cf (.lst es))) := by
  refine PE.of (pe_lst h) fun σ H Q h => ?_
  have h : TD X.K (fun env => do let ds ← evs gl cf es env; do need (lens ds.length); newO (.lst ds)) σ H Q := h
  refine TDs.then_ h fun ρ S env d v H' w en rd q => ?_
  simp only [wp_bind, wp_need, wp_newO] at q
  exact ⟨by rw [rd.length]; exact of_decide_eq_true q.1, fun p hp => Post.lst w rd q.2 hp⟩
/-! ### operators -/
section
variable {a b : IE} {e1 e2 : Expr} {pos : Pos}
theorem r_op {o : Operator} (h1 : PE X e1 (TD X.K (ev gl cf a))) (h2 : PE X e2 (TD X.K (ev gl cf b))) : PE X (.BinOp e1 o e2 pos) (TD X.K (ev gl cf (.op o a b))) :=
  PE.of (pe_op (bop_ok o) h1 h2) fun σ H Q h => TD.op h
theorem r_neg (h1 : PE X e1 (TD X.K (ev gl cf a))) : PE X (.UnaryOp .USub e1 pos) (TD X.K (ev gl cf (.neg a))) := by
  refine PE.of (pe_un un_neg h1) fun σ H Q h => ?_
  have h : TD X.K (fun env => do let x ← ev gl cf a env; (match x with | .int i => pure (D.int (-i)) | _ => fail)) σ H Q := h
  refine TD.then_ (m := ev gl cf a) (f := fun x _ => (match x with | .int i => pure (D.int (-i)) | _ => fail)) h fun ρ S env d v H' w en rd q => ?_
  split at q
  · cases rd.int_
    exact ⟨_, rfl, Post.int w q⟩
  · exact q.elim
theorem r_cmp (ok : Ok gl cf c X) {o : CmpOp} (hb : (!behindInMarks o e2) = true) (h1 : PE X e1 (TD X.K (ev gl cf a))) (h2 : PE X e2 (TD X.K (ev gl cf b))) : PE X (.Compare e1 [o] [e2] pos) (TD X.K (ev gl cf (.cmp o a b))) :=
  PE.of (pe_cmpR (cop_ok (by have := ok.un; omega) o) h1 h2 (by simpa using hb)) fun σ H Q h => TD.op (f := fun x y => do let r ← cop o x y; pure (.bl r)) h
theorem t_cmp (ok : Ok gl cf c X) {o : CmpOp} (hb : (!behindInMarks o e2) = true) (h1 : PE X e1 (TD X.K (ev gl cf a))) (h2 : PE X e2 (TD X.K (ev gl cf b))) : PT X (.Compare e1 [o] [e2] pos) (TB X.K (tst gl cf (.cmp o a b))) := by
  refine PT.of (pt_cmpR (cop_ok (by have := ok.un; omega) o) h1 h2 (by simpa using hb)) fun σ H Q h => ?_
  obtain ⟨ρ, S, env, w, e, h⟩ := h
  refine TD.op (f := fun x y => do let r ← cop o x y; pure (.bl r)) ⟨ρ, S, env, w, e, ?_⟩
  simp only [tst, wp_bind, wp_pure] at h ⊢
  refine wp_mono h fun x S1 h => wp_mono h fun y S2 h => wp_mono h fun r S3 h => ?_
  intro ρ' H' v st w' rv
  exact ⟨r, rv.bl_, h ρ' H' st w'⟩
theorem chain_step (ok : Ok gl cf c X) {o : CmpOp} {x y : D} {v u : V} {ρ : List Addr} {S : Store} {H : Hp} (w : WS X.K ρ S H) (rx : Rep X.K ρ H v x) (ry : Rep X.K ρ H u y) {R : Bool → Store → Prop} (h : wp (cop o x y) R S)
    {Q : VK} (k : ∀ r S' ρ' H', Step ρ H ρ' H' → WS X.K ρ' S' H' → R r S' → Q (.bl r) H') : rC X.K o v u H Q := by
  refine ⟨ρ, S, x, y, w, rx, ry, ?_⟩
  simp only [wp_bind, wp_pure]
  refine wp_mono h fun r S' h ρ' H' v st w' rv => ?_
  cases rv.bl_
  exact k r S' ρ' H' st w' h
theorem r_chain (ok : Ok gl cf c X) {o o2 : CmpOp} {d : IE} {e3 : Expr} (hb : (!lastMarks [o, o2] [e2, e3]) = true) (h1 : PE X e1 (TD X.K (ev gl cf a))) (h2 : PE X e2 (TD X.K (ev gl cf b))) (h3 : PE X e3 (TD X.K (ev gl cf d))) :
    PE X (.Compare e1 [o, o2] [e2, e3] pos) (TD X.K (ev gl cf (.chain o o2 a b d))) := by
  refine PE.of (pe_chain (cop_ok (by have := ok.un; omega) o) (cop_ok (by have := ok.un; omega) o2) h1 h2 h3 (by simpa using hb)) fun σ H Q h => ?_
  obtain ⟨ρ, S, env, w, e, h⟩ := h
  simp only [ev, wp_bind] at h
  refine ⟨ρ, S, env, w, e, wp_mono h fun x S1 h ρ1 H1 v st1 w1 rv => ⟨ρ1, S1, env, w1, e.step w st1, wp_mono h fun y S2 h ρ2 H2 u st2 w2 ru => ?_⟩⟩
  refine chain_step ok w2 (rv.step w1 st2) ru h fun r S3 ρ3 H3 st3 w3 h => ⟨r, rfl, ?_⟩
  have e3 := ((e.step w st1).step w1 st2).step w2 st3
  cases r with
  | true =>
    simp only [if_true, wp_bind] at h ⊢
    refine ⟨ρ3, S3, env, w3, e3, wp_mono h fun z S4 h ρ4 H4 u' st4 w4 rz => ?_⟩
    exact ⟨ρ4, S4, y, z, w4, (ru.step w2 st3).step w3 st4, rz, by
      rw [wp_bind]
      exact wp_mono h fun r' S5 p => p.step (((st1.trans st2).trans st3).trans st4)⟩
  | false =>
    rw [if_neg Bool.false_ne_true]
    exact h ρ3 H3 _ ((st1.trans st2).trans st3) w3 (.bl _)
theorem t_chain (ok : Ok gl cf c X) {o o2 : CmpOp} {d : IE} {e3 : Expr} (hb : (!lastMarks [o, o2] [e2, e3]) = true) (h1 : PE X e1 (TD X.K (ev gl cf a))) (h2 : PE X e2 (TD X.K (ev gl cf b))) (h3 : PE X e3 (TD X.K (ev gl cf d))) :
    PT X (.Compare e1 [o, o2] [e2, e3] pos) (TB X.K (tst gl cf (.chain o o2 a b d))) := by
  refine PT.of (pt_chain (cop_ok (by have := ok.un; omega) o) (cop_ok (by have := ok.un; omega) o2) h1 h2 h3 (by simpa using hb)) fun σ H Q h => ?_
  obtain ⟨ρ, S, env, w, e, h⟩ := h
  simp only [tst, wp_bind] at h
  refine ⟨ρ, S, env, w, e, wp_mono h fun x S1 h ρ1 H1 v st1 w1 rv => ⟨ρ1, S1, env, w1, e.step w st1, wp_mono h fun y S2 h ρ2 H2 u st2 w2 ru => ?_⟩⟩
  refine chain_step ok w2 (rv.step w1 st2) ru h fun r S3 ρ3 H3 st3 w3 h => ⟨r, rfl, ?_⟩
  have e3 := ((e.step w st1).step w1 st2).step w2 st3
  cases r with
  | true =>
    simp only [if_true, wp_bind] at h ⊢
    refine ⟨ρ3, S3, env, w3, e3, wp_mono h fun z S4 h ρ4 H4 u' st4 w4 rz => ?_⟩
    refine chain_step ok w4 ((ru.step w2 st3).step w3 st4) rz h fun r' S5 ρ5 H5 st5 w5 h => ⟨r', rfl, ?_⟩
    exact h ρ5 H5 ((((st1.trans st2).trans st3).trans st4).trans st5) w5
  | false =>
    rw [if_neg Bool.false_ne_true]
    exact ⟨_, rfl, h ρ3 H3 ((st1.trans st2).trans st3) w3⟩
/-! ### truth, and, or, not -/
theorem t_truth {m : Sl → M D} {e : Expr} (hb : byTruth e = true) (h : PE X e (TD X.K m)) : PT X e (TB X.K fun env => do let d ← m env; truth d) := by
  refine PT.of (pt_truth h (truth_plain hb)) fun σ H Q h => ?_
  refine TD.thenB (m := m) (f := fun d _ => truth d) h fun ρ S env d v H' w en rd q => ?_
  obtain ⟨k, t, q⟩ := truth_ok w rd q
  exact ⟨k, t, q ρ H' .refl w⟩
theorem r_not (h1 : PE X e1 (TD X.K (ev gl cf a))) : PE X (.UnaryOp .Not e1 pos) (TD X.K (ev gl cf (.not a))) := by
  refine PE.of (pe_notT h1) fun σ H Q h => ?_
  have h : TD X.K (fun env => do let x ← ev gl cf a env; do let b ← truth x; pure (D.bl (!b))) σ H Q := h
  refine TD.then_ (m := ev gl cf a) (f := fun x _ => do let b ← truth x; pure (D.bl (!b))) h fun ρ S env d v H' w en rd q => ?_
  rw [wp_bind] at q
  obtain ⟨k, t, q⟩ := truth_ok w rd q
  exact ⟨k, t, Post.bl w q⟩
theorem t_not (h : PT X e1 (TB X.K (tst gl cf a))) : PT X (.UnaryOp .Not e1 pos) (TB X.K (tst gl cf (.not a))) := by
  refine PT.of (pt_not h) fun σ H Q h => ?_
  have h : TB X.K (fun env => do let b ← tst gl cf a env; pure (!b)) σ H Q := h
  exact TB.thenB (m := tst gl cf a) (f := fun b _ => pure (!b)) h fun ρ S env d H' w en q => q ρ H' .refl w
theorem t_and (h1 : PT X e1 (TB X.K (tst gl cf a))) {r : List Expr} (h2 : PW X (.BoolOp .And (e2 :: r) pos) (TB X.K (tst gl cf b))) : PW X (.BoolOp .And (e1 :: e2 :: r) pos) (TB X.K (tst gl cf (.and a b))) := by
  refine PW.of (pw_and h1 h2) fun σ H Q h => ?_
  have h : TB X.K (fun env => do let x ← tst gl cf a env; (if x = true then tst gl cf b env else pure false)) σ H Q := h
  refine TB.thenB (m := tst gl cf a) (f := fun x env => (if x = true then tst gl cf b env else pure false)) h fun ρ S env d H' w en q => ?_
  cases d with
  | true => rw [if_pos rfl] at q ⊢; exact ⟨ρ, S, env, w, en, q⟩
  | false => rw [if_neg Bool.false_ne_true] at q ⊢; exact q ρ H' .refl w
theorem t_or (h1 : PT X e1 (TB X.K (tst gl cf a))) {r : List Expr} (h2 : PW X (.BoolOp .Or (e2 :: r) pos) (TB X.K (tst gl cf b))) : PW X (.BoolOp .Or (e1 :: e2 :: r) pos) (TB X.K (tst gl cf (.or a b))) := by
  refine PW.of (pw_or h1 h2) fun σ H Q h => ?_
  have h : TB X.K (fun env => do let x ← tst gl cf a env; (if x = true then pure true else tst gl cf b env)) σ H Q := h
  refine TB.thenB (m := tst gl cf a) (f := fun x env => (if x = true then pure true else tst gl cf b env)) h fun ρ S env d H' w en q => ?_
  cases d with
  | true => rw [if_pos rfl] at q ⊢; exact q ρ H' .refl w
  | false => rw [if_neg Bool.false_ne_true] at q ⊢; exact ⟨ρ, S, env, w, en, q⟩
theorem r_and (h1 : PE X e1 (TD X.K (ev gl cf a))) {r : List Expr} (h2 : PE X (.BoolOp .And (e2 :: r) pos) (TD X.K (ev gl cf b))) : PE X (.BoolOp .And (e1 :: e2 :: r) pos) (TD X.K (ev gl cf (.and a b))) := by
  refine PE.of (pe_andT h1 h2) fun σ H Q h => ?_
  have h : TD X.K (fun env => do let x ← ev gl cf a env; do let k ← truth x; (if k = true then ev gl cf b env else pure x)) σ H Q := h
  refine TD.then_ (m := ev gl cf a) (f := fun x env => do let k ← truth x; (if k = true then ev gl cf b env else pure x)) h fun ρ S env d v H' w en rd q => ?_
  rw [wp_bind] at q
  obtain ⟨k, t, q⟩ := truth_ok w rd q
  refine ⟨k, t, ?_⟩
  cases k with
  | true => rw [if_pos rfl] at q ⊢; exact ⟨ρ, S, env, w, en, q⟩
  | false => rw [if_neg Bool.false_ne_true] at q ⊢; exact Post.same w rd q
theorem r_or (h1 : PE X e1 (TD X.K (ev gl cf a))) {r : List Expr} (h2 : PE X (.BoolOp .Or (e2 :: r) pos) (TD X.K (ev gl cf b))) : PE X (.BoolOp .Or (e1 :: e2 :: r) pos) (TD X.K (ev gl cf (.or a b))) := by
  refine PE.of (pe_orT h1 h2) fun σ H Q h => ?_
  have h : TD X.K (fun env => do let x ← ev gl cf a env; do let k ← truth x; (if k = true then pure x else ev gl cf b env)) σ H Q := h
  refine TD.then_ (m := ev gl cf a) (f := fun x env => do let k ← truth x; (if k = true then pure x else ev gl cf b env)) h fun ρ S env d v H' w en rd q => ?_
  rw [wp_bind] at q
  obtain ⟨k, t, q⟩ := truth_ok w rd q
  refine ⟨k, t, ?_⟩
  cases k with
  | true => rw [if_pos rfl] at q ⊢; exact Post.same w rd q
  | false => rw [if_neg Bool.false_ne_true] at q ⊢; exact ⟨ρ, S, env, w, en, q⟩
end

/-! ### conditional, subscripts -/
section
variable {a b d : IE} {e1 e2 e3 : Expr} {pos : Pos}
theorem r_ite (h1 : PT X e1 (TB X.K (tst gl cf d))) (h2 : PE X e2 (TD X.K (ev gl cf a))) (h3 : PE X e3 (TD X.K (ev gl cf b))) : PE X (.IfExp e1 e2 e3 pos) (TD X.K (ev gl cf (.ite d a b))) := by
  refine PE.of (pe_ifExp h1 h2 h3) fun σ H Q h => ?_
  have h : TD X.K (fun env => do let x ← tst gl cf d env; (if x = true then ev gl cf a env else ev gl cf b env)) σ H Q := h
  refine TB.then_ (m := tst gl cf d) (f := fun x env => (if x = true then ev gl cf a env else ev gl cf b env)) h fun ρ S env d H' w en q => ?_
  cases d with
  | true => rw [if_pos rfl] at q ⊢; exact ⟨ρ, S, env, w, en, q⟩
  | false => rw [if_neg Bool.false_ne_true] at q ⊢; exact ⟨ρ, S, env, w, en, q⟩
theorem r_ix (hs : noSlice e2 = true) (h1 : PE X e1 (TD X.K (ev gl cf a))) (h2 : PE X e2 (TD X.K (ev gl cf b))) : PE X (.Subscript e1 e2 pos) (TD X.K (ev gl cf (.ix a b))) :=
  PE.of (pe_ix ixD_ok h1 h2 (plainIx_ok hs)) fun σ H Q h => TD.op h
def TOd (K : PySem.W.Frag) (m : Sl → M (Option Int)) : TO := fun σ H Q => ∃ ρ S env, WS K ρ S H ∧ EnvR K ρ H σ env ∧ wp (m env) (fun o S' => ∀ ρ' H', Step ρ H ρ' H' → WS K ρ' S' H' → Q o H') S
theorem PO.of {e : Option Expr} {t t' : TO} (h : PO X e t) (k : ∀ σ H Q, t' σ H Q → t σ H Q) : PO X e t' := ⟨fun pins s σ H Q I hw => h.run pins s σ H Q I (k σ H Q hw)⟩
theorem r_no : PO X none (TOd X.K (evo gl cf .no)) := PO.of po_none fun σ H Q ⟨ρ, S, env, w, en, h⟩ => h ρ H .refl w
theorem r_so (h1 : PE X e1 (TD X.K (ev gl cf a))) : PO X (some e1) (TOd X.K (evo gl cf (.so a))) := by
  refine PO.of (po_some h1) fun σ H Q ⟨ρ, S, env, w, en, h⟩ => ⟨ρ, S, env, w, en, ?_⟩
  simp only [evo, wp_bind] at h
  refine wp_mono h fun d S' q ρ' H' v st w' rv => ?_
  unfold asInt at q
  split at q
  · cases rv.int_
    exact ⟨_, rfl, q ρ' H' st w'⟩
  · exact q.elim
theorem r_sl {lo hi : IO} {l h : Option Expr} {p2 : Pos} (h1 : PE X e1 (TD X.K (ev gl cf a))) (h2 : PO X l (TOd X.K (evo gl cf lo))) (h3 : PO X h (TOd X.K (evo gl cf hi))) : PE X (.Subscript e1 (.Slice l h none p2) pos) (TD X.K (ev gl cf (.sl a lo hi))) := by
  refine PE.of (pe_slice slD_ok h1 h2 h3) fun σ H Q ⟨ρ, S, env, w, en, h⟩ => ?_
  simp only [ev, wp_bind] at h
  refine ⟨ρ, S, env, w, en, wp_mono h fun d S1 h ρ1 H1 v st1 w1 rv => ⟨ρ1, S1, env, w1, en.step w st1, wp_mono h fun l' S2 h ρ2 H2 st2 w2 => ⟨ρ2, S2, env, w2, (en.step w st1).step w1 st2, wp_mono h fun h' S3 h ρ3 H3 st3 w3 => ?_⟩⟩⟩
  exact ⟨ρ3, S3, d, w3, (rv.step w1 st2).step w2 st3, wp_mono h fun d' S4 p => p.step ((st1.trans st2).trans st3)⟩
theorem r_rev {k : Nat} {p1 p2 p3 : Pos} (h1 : PE X e1 (TD X.K (ev gl cf a))) : PE X (.Subscript e1 (.Slice none none (some (.UnaryOp .USub (.Constant (.int 1) k p1) p2)) p3) pos) (TD X.K (ev gl cf (.rev a))) :=
  PE.of (rev_ok h1) fun σ H Q h => TD.un (f := revD) h
end
/-! ### calls -/
section
variable {es : IEs} {e1 : Expr} {l : List Expr} {x : Str} {p pos : Pos}
theorem r_call (ok : Ok gl cf c X) {f : Nat} (h : (c.is x (.fn f) && nmOk x) = true) (hp : (e1 :: l).all plain = true) (ha : PA X (e1 :: l) (TDs X.K (evs gl cf es))) : PE X (.Call (.Name x p) (e1 :: l) [] pos) (TD X.K (ev gl cf (.call f es))) := by
  obtain ⟨h1, h3⟩ := and2 h
  obtain ⟨n1, n2, n3⟩ := nmOk_ h3
  obtain ⟨hg, fa, fd, ps, k, hm, hk, hb, hr, F⟩ := ok.is_ h1
  rw [List.all_cons] at hp
  obtain ⟨p1, p2⟩ := and2 hp
  refine PE.of (pe_call (E := E0) F hr hg hm hk hb .nil pass0 ha n1 (star_plain p1) (back_any p2)) fun σ H Q h => ?_
  have h : TD X.K (fun env => do let ds ← evs gl cf es env; cf f ds) σ H Q := h
  refine TDs.then_ (m := evs gl cf es) (f := fun ds _ => cf f ds) h fun ρ S env d v H' w en rd q => ?_
  show spD X.K (cf f) (v ++ []) H' Q E0
  rw [List.append_nil]
  exact ⟨ρ, S, d, w, rd, q⟩
theorem bi_boot (b : Bi) (h : b ≠ .gcd) : bootBuiltins b.name = some b.val := by cases b <;> first | exact absurd rfl h | decide +kernel
theorem bi_nm (b : Bi) : b.name ≠ "__name__" ∧ (b.name == ("__debug__" : Str)) = false := by cases b <;> exact ⟨by decide +kernel, by decide +kernel⟩
theorem r_bi (ok : Ok gl cf c X) {b : Bi} (h : c.is b.name b.gi = true) (hp : (e1 :: l).all plain = true) (ha : PA X (e1 :: l) (TDs X.K (evs gl cf es))) : PE X (.Call (.Name b.name p) (e1 :: l) [] pos) (TD X.K (ev gl cf (.bi b es))) := by
  obtain ⟨hg, hm⟩ := ok.is_ h
  rw [List.all_cons] at hp
  obtain ⟨p1, p2⟩ := and2 hp
  obtain ⟨n1, n2⟩ := bi_nm b
  have hc := bi_ok ok.calm b
  have main : PE X (.Call (.Name b.name p) (e1 :: l) [] pos) (tCB (rDs X.K (biRun b)) (TDs X.K (evs gl cf es))) := by
    cases b with
    | gcd => exact pe_callBfun hc hg hm ha n2 (star_plain p1) (back_any p2)
    | len => exact pe_callB hc hg hm (bi_boot .len (by decide)) ha n1 n2 (star_plain p1) (back_any p2)
    | sum => exact pe_callB hc hg hm (bi_boot .sum (by decide)) ha n1 n2 (star_plain p1) (back_any p2)
    | abs => exact pe_callB hc hg hm (bi_boot .abs (by decide)) ha n1 n2 (star_plain p1) (back_any p2)
    | max => exact pe_callB hc hg hm (bi_boot .max (by decide)) ha n1 n2 (star_plain p1) (back_any p2)
    | min => exact pe_callB hc hg hm (bi_boot .min (by decide)) ha n1 n2 (star_plain p1) (back_any p2)
    | all => exact pe_callB hc hg hm (bi_boot .all (by decide)) ha n1 n2 (star_plain p1) (back_any p2)
    | any => exact pe_callB hc hg hm (bi_boot .any (by decide)) ha n1 n2 (star_plain p1) (back_any p2)
    | int => exact pe_callTy hc hg hm (bi_boot .int (by decide)) ha n1 n2 (star_plain p1) (back_any p2)
    | tuple => exact pe_callTy hc hg hm (bi_boot .tuple (by decide)) ha n1 n2 (star_plain p1) (back_any p2)
    | list => exact pe_callTy hc hg hm (bi_boot .list (by decide)) ha n1 n2 (star_plain p1) (back_any p2)
  exact PE.of main fun σ H Q h => TDs.cb (f := biRun b) h
/-! ### methods of lists -/
theorem isL_wp {K : PySem.W.Frag} {ρ : List Addr} {S : Store} {H : Hp} {d : D} {v : V} {R : Unit → Store → Prop} (w : WS K ρ S H) (r : Rep K ρ H v d) (h : wp (isL d) R S) : tyV K "list" v H ∧ R () S := by
  unfold isL at h
  split at h
  · obtain ⟨a, rfl, h1⟩ := r.ref_
    simp only [wp_bind, wp_getO] at h
    obtain ⟨o1, e1, h⟩ := h
    split at h
    · obtain ⟨xs, g1, r1⟩ := w.lst h1 e1
      exact ⟨.inl ⟨rfl, xs, SqL.of g1⟩, h⟩
    · exact h.elim
  · exact h.elim
theorem me_core {o : IE} {m : Me} {σ : L2.St} {H : Hp} {Q : VK} (h : TD X.K (ev gl cf (.me m o es)) σ H Q) : tBM X.K "list" (rDm X.K (meRun m)) (TD X.K (ev gl cf o)) (TDs X.K (evs gl cf es)) σ H Q := by
  have h : TD X.K (fun env => do let x ← ev gl cf o env; (do isL x; let ds ← evs gl cf es env; meRun m x ds)) σ H Q := h
  refine TD.then_ (m := ev gl cf o) (f := fun x env => do isL x; let ds ← evs gl cf es env; meRun m x ds) h fun ρ S env d v H' w en rd q => ?_
  rw [wp_bind] at q
  obtain ⟨ty, q⟩ := isL_wp w rd q
  rw [wp_bind] at q
  refine ⟨ty, ρ, S, env, w, en, wp_mono q fun ds S1 q ρ1 H1 vs st1 w1 rs => ?_⟩
  exact ⟨ρ1, S1, d, ds, w1, rd.step w st1, rs, wp_mono q fun d' S2 p => p.step st1⟩
theorem r_me0 (hu : X.A.units + 65 < cLine) {o : IE} {m : Me} {e : Expr} {apos : Pos} (hl : (apos.endLine == pos.line) = true) (hs : noSuper e = true) (h1 : PE X e (TD X.K (ev gl cf o))) (he : PA X [] (TDs X.K (evs gl cf es))) (hm : (m = .pop ∨ m = .reverse)) :
    PE X (.Call (.Attribute e m.name apos) [] [] pos) (TD X.K (ev gl cf (.me m o .nil))) := by
  have core : PE X (.Call (.Attribute e m.name apos) [] [] pos) (tBM0 X.K "list" (rDm X.K (meRun m)) (TD X.K (ev gl cf o))) := by
    rcases hm with rfl | rfl
    · exact pe_bm0 PySem.F.plainAttrs_list PySem.F.slot_list_pop PySem.F.type_list_pop (me_ok hu .pop) h1 (super_ok hs) hl
    · exact pe_bm0 PySem.F.plainAttrs_list PySem.F.slot_list_reverse PySem.F.type_list_reverse (me_ok hu .reverse) h1 (super_ok hs) hl
  refine PE.of core fun σ H Q h => ?_
  have h : TD X.K (fun env => do let x ← ev gl cf o env; (do isL x; let ds ← evs gl cf .nil env; meRun m x ds)) σ H Q := h
  refine TD.then_ (m := ev gl cf o) (f := fun x env => do isL x; let ds ← evs gl cf .nil env; meRun m x ds) h fun ρ S env d v H' w en rd q => ?_
  rw [wp_bind] at q
  obtain ⟨ty, q⟩ := isL_wp w rd q
  exact ⟨ty, ρ, S, d, [], w, rd, .nil, q⟩
theorem r_me (hu : X.A.units + 65 < cLine) {o : IE} {m : Me} {e : Expr} {apos : Pos} (hl : (apos.endLine == pos.line) = true) (hs : noSuper e = true) (hf : (e1 :: l).length < 29) (hp : (e1 :: l).all plain = true) (h1 : PE X e (TD X.K (ev gl cf o))) (ha : PA X (e1 :: l) (TDs X.K (evs gl cf es)))
    (hm : (m = .append ∨ m = .popAt ∨ m = .remove)) : PE X (.Call (.Attribute e m.name apos) (e1 :: l) [] pos) (TD X.K (ev gl cf (.me m o es))) := by
  rw [List.all_cons] at hp
  have hp' : (e1 :: l).all plain = true := by rw [List.all_cons]; exact hp
  obtain ⟨p1, p2⟩ := and2 hp
  have core : PE X (.Call (.Attribute e m.name apos) (e1 :: l) [] pos) (tBM X.K "list" (rDm X.K (meRun m)) (TD X.K (ev gl cf o)) (TDs X.K (evs gl cf es))) := by
    rcases hm with rfl | rfl | rfl
    · exact pe_bm PySem.F.plainAttrs_list PySem.F.slot_list_append PySem.F.type_list_append (me_ok hu .append) h1 ha (super_ok hs) (few_ok hp' hf) hl (star_plain p1) (back_any p2)
    · exact pe_bm PySem.F.plainAttrs_list PySem.F.slot_list_pop PySem.F.type_list_pop (me_ok hu .popAt) h1 ha (super_ok hs) (few_ok hp' hf) hl (star_plain p1) (back_any p2)
    · exact pe_bm PySem.F.plainAttrs_list PySem.F.slot_list_remove PySem.F.type_list_remove (me_ok hu .remove) h1 ha (super_ok hs) (few_ok hp' hf) hl (star_plain p1) (back_any p2)
  exact PE.of core fun σ H Q h => me_core h
/-! ### isinstance -/
theorem ty_boot (t : Ty) : bootBuiltins t.tx = some (.type t.name) ∧ t.tx ≠ "__name__" ∧ (t.tx == ("__debug__" : Str)) = false := by cases t <;> exact ⟨by decide +kernel, by decide +kernel, by decide +kernel⟩
theorem r_ty (ok : Ok gl cf c X) {t : Ty} (h : c.is t.tx .free = true) : PE X (.Name t.tx p) (tC (.ty t.name)) := by
  obtain ⟨hg, hm⟩ := ok.is_ h
  obtain ⟨b1, b2, b3⟩ := ty_boot t
  exact pe_bltn hg hm b1 rfl b2 b3
theorem r_isi (ok : Ok gl cf c X) {a : IE} {t : Ty} {p2 : Pos} (h : c.is "isinstance" .free = true) (ht : c.is t.tx .free = true) (hp : plain e1 = true) (h1 : PE X e1 (TD X.K (ev gl cf a))) :
    PE X (.Call (.Name "isinstance" p) [e1, .Name t.tx p2] [] pos) (TD X.K (ev gl cf (.isi a t))) := by
  obtain ⟨hg, hm⟩ := ok.is_ h
  refine PE.of (pe_callB (isi1_ok t) hg hm (by decide +kernel) (pa_cons h1 (pa_cons (r_ty ok ht) pa_nil rfl) (star_plain hp)) (by decide +kernel) (by decide +kernel) (star_plain hp) rfl) fun σ H Q h => ?_
  have h : TD X.K (fun env => do let x ← ev gl cf a env; isiRun x [t]) σ H Q := h
  exact TD.then_ (m := ev gl cf a) (f := fun x _ => isiRun x [t]) h fun ρ S env d v H' w en rd q => ⟨v, ρ, S, d, rfl, w, rd, q⟩
theorem r_tys (ok : Ok gl cf c X) : ∀ {ts : List Ty} {l : List Expr}, tysOk c ts l = true → l.all plain = true ∧ ∃ t, PA X l t ∧ ∀ σ H Q, Q (ts.map fun t => V.ty t.name) H → t σ H Q
  | [], [], _ => ⟨rfl, _, pa_nil, fun σ H Q q => q⟩
  | [], _ :: _, h => by cases h
  | _ :: _, [], h => by cases h
  | t :: ts, e :: es, h => by
    cases e with
    | Name y py =>
      simp only [tysOk] at h
      obtain ⟨h1, h2⟩ := and2 h
      obtain ⟨h2, h3⟩ := and2 h2
      obtain ⟨h3, h4⟩ := and2 h3
      have e1 := of_decide_eq_true h1
      subst e1
      obtain ⟨p1, t', a1, k⟩ := r_tys ok h4
      exact ⟨by rw [List.all_cons, p1]; rfl, _, pa_cons (r_ty ok h2) a1 rfl, fun σ H Q q => k σ H _ q⟩
    | _ => cases h
theorem r_isis (ok : Ok gl cf c X) {a : IE} {ts : List Ty} {p2 : Pos} {k : Nat} (h : c.is "isinstance" .free = true) (ht : tysOk c ts l = true) (hne : ts ≠ [] ∧ ts.length < 100) (hp : plain e1 = true) (h1 : PE X e1 (TD X.K (ev gl cf a))) :
    PE X (.Call (.Name "isinstance" p) [e1, .Tuple l k p2] [] pos) (TD X.K (ev gl cf (.isis a ts))) := by
  obtain ⟨hg, hm⟩ := ok.is_ h
  obtain ⟨p1, t', a1, kk⟩ := r_tys ok ht
  refine PE.of (pe_callB (isiN_ok ts hne.1) hg hm (by decide +kernel) (pa_cons h1 (pa_cons (pe_tup a1) pa_nil rfl) (star_plain hp)) (by decide +kernel) (by decide +kernel) (star_plain hp) rfl) fun σ H Q h => ?_
  have h : TD X.K (fun env => do let x ← ev gl cf a env; isiRun x ts) σ H Q := h
  refine TD.then_ (m := ev gl cf a) (f := fun x _ => isiRun x ts) h fun ρ S env d v H' w en rd q => ?_
  refine kk σ H' _ ⟨?_, fun tp htp => ?_⟩
  · rw [List.length_map, sizeLine_eq]
    have := hne.2
    omega
  · exact ⟨v, tp, ρ, S, d, rfl, upd_same, w.tup htp, by have := rd.step w (Step.tup (u := .tup (ts.map fun t => V.ty t.name)) htp); exact this, wp_mono q fun d' S' p => p.step (Step.tup htp)⟩
theorem rgR {K : PySem.W.Frag} {ρ : List Addr} {H : Hp} (b : Int) : Reps K ρ H (rgV 0 b) (rngItems 0 b) := by
  unfold rgV rngItems
  generalize (b - 0).toNat = n
  have : ∀ l : List Nat, Reps K ρ H (l.map fun i => V.int (0 + (i : Nat))) (l.map fun (k : Nat) => D.int (0 + k)) := fun l => by
    induction l with
    | nil => exact .nil
    | cons a l ih => exact .cons (.int _) ih
  exact this _
theorem rngOk_ {i : Int} (h : rngOk i = true) : RgOk 0 i := by
  obtain ⟨h1, h2⟩ := and2 h
  obtain ⟨a, b⟩ := and2 h1
  have a := dec a; have b := dec b; have h2 := dec h2
  exact ⟨by decide, by decide, a, b, by omega⟩
theorem r_tupr (ok : Ok gl cf c X) {a : IE} {p2 p3 : Pos} (h : c.is "tuple" .free = true) (h' : c.is "range" .free = true) (hp : plain e1 = true) (h1 : PE X e1 (TD X.K (ev gl cf a))) :
    PE X (.Call (.Name "tuple" p) [.Call (.Name "range" p2) [e1] [] p3] [] pos) (TD X.K (ev gl cf (.tupr a))) := by
  obtain ⟨hg, hm⟩ := ok.is_ h
  obtain ⟨hg2, hm2⟩ := ok.is_ h'
  refine PE.of (pe_tupRg ok.calm hg hm (prg_1 hg2 hm2 h1 (star_plain hp)) rfl) fun σ H Q h => ?_
  have h : TD X.K (fun env => do let x ← ev gl cf a env; (match x with | .int i => (do need (rngOk i); pure (.tup (rngItems 0 i))) | _ => fail)) σ H Q := h
  refine TD.then_ (m := ev gl cf a) (f := fun x _ => (match x with | .int i => (do need (rngOk i); pure (.tup (rngItems 0 i))) | _ => fail)) h fun ρ S env d v H' w en rd q => ?_
  split at q
  · cases rd.int_
    simp only [wp_bind, wp_need, wp_pure] at q
    exact ⟨_, rfl, rngOk_ q.1, fun p hp => Post.tup w (rgR _) q.2 hp⟩
  · exact q.elim
theorem r_lstr (ok : Ok gl cf c X) {a : IE} {p2 p3 : Pos} (h : c.is "list" .free = true) (h' : c.is "range" .free = true) (hp : plain e1 = true) (h1 : PE X e1 (TD X.K (ev gl cf a))) :
    PE X (.Call (.Name "list" p) [.Call (.Name "range" p2) [e1] [] p3] [] pos) (TD X.K (ev gl cf (.lstr a))) := by
  obtain ⟨hg, hm⟩ := ok.is_ h
  obtain ⟨hg2, hm2⟩ := ok.is_ h'
  refine PE.of (pe_listRg ok.calm hg hm (prg_1 hg2 hm2 h1 (star_plain hp)) rfl) fun σ H Q h => ?_
  have h : TD X.K (fun env => do let x ← ev gl cf a env; (match x with | .int i => (do need (rngOk i); newO (.lst (rngItems 0 i))) | _ => fail)) σ H Q := h
  refine TD.then_ (m := ev gl cf a) (f := fun x _ => (match x with | .int i => (do need (rngOk i); newO (.lst (rngItems 0 i))) | _ => fail)) h fun ρ S env d v H' w en rd q => ?_
  split at q
  · cases rd.int_
    simp only [wp_bind, wp_need, wp_newO] at q
    exact ⟨_, rfl, rngOk_ q.1, fun p hp => Post.lst w (rgR _) q.2 hp⟩
  · exact q.elim
end
end
end Dl
end

section
set_option Elab.async false
set_option linter.all false
set_option maxRecDepth 100000
set_option maxHeartbeats 1000000
/-! Dl: targets and sources -/
namespace Dl
open PySem PySem.Spec PyProof.Rows L2
section
variable {gl : Nat → D} {cf : Nat → List D → M D} {c : Cst} {X : Cx}
/-! ### targets -/
theorem wipe_set_out {σ : L2.St} {i : Nat} {x : Option V} : ∀ {vs : List Nat}, i ∉ vs → wipe (σ.set i x) vs = (wipe σ vs).set i x
  | [], _ => rfl
  | v :: vs, h => by
    simp only [List.mem_cons, not_or] at h
    unfold L2.wipe
    rw [wipe_set_out h.2, List.set_comm _ _ h.1]
theorem wipe_set {σ : L2.St} {i : Nat} {x : Option V} : ∀ {vs : List Nat}, i ∈ vs → wipe (σ.set i x) vs = wipe σ vs
  | v :: vs, h => by
    unfold L2.wipe
    by_cases hm : i ∈ vs
    · rw [wipe_set hm]
    · have e : i = v := by
        rcases List.mem_cons.mp h with e | h
        · exact e
        · exact absurd h hm
      subst e
      rw [wipe_set_out hm, List.set_set]
theorem wipe_wipe_mem {σ : L2.St} : ∀ (us vs : List Nat), (∀ i ∈ us, i ∈ vs) → wipe (wipe σ us) vs = wipe σ vs
  | [], _, _ => rfl
  | u :: us, vs, h => by
    show wipe ((wipe σ us).set u none) vs = wipe σ vs
    rw [wipe_set (h u List.mem_cons_self), wipe_wipe_mem us vs fun i hi => h i (List.mem_cons_of_mem _ hi)]
theorem wipe_wipe {σ : L2.St} (vs : List Nat) : wipe (wipe σ vs) vs = wipe σ vs := wipe_wipe_mem vs vs fun _ h => h
theorem g_nm (ok : Ok gl cf c X) {i : Nat} {x : Str} {pos : Pos} (h : (c.slot i x && (c.sto x && nmOk x)) = true) : PG X (.Name x pos) (TGd X.K [i] (asg gl cf (.nm i))) := by
  obtain ⟨h1, h2⟩ := and2 h
  obtain ⟨h2, h3⟩ := and2 h2
  obtain ⟨l1, l2⟩ := ok.loc h2
  have g := pg_name (pos := pos) ok.nd (ok.slot h1) l1 l2
  refine ⟨fun pins s σ H v u Q I r hw => g.run pins s σ H v u Q I r ?_⟩
  obtain ⟨ρ, S, env, d, w, en, rd, q⟩ := hw
  simp only [asg, wp_bind, wp_need, wp_pure] at q
  exact q.2 ρ H _ .refl w (en.set rd) fun own ho => wipe_set (ho i (by simp))
theorem g_nil : PGs X [] (TGds X.K [] (asgs gl cf .nil)) := by
  refine ⟨fun pins s σ H vs us Q I r hw => pgs_nil.run pins s σ H vs us Q I r ?_⟩
  obtain ⟨ρ, S, env, ds, w, en, rd, q⟩ := hw
  cases rd with
  | nil =>
    simp only [asgs, wp_pure] at q
    exact ⟨rfl, q ρ H σ .refl w en fun _ _ => rfl⟩
  | cons _ _ => simp only [asgs, wp_fail] at q
theorem g_cons {t : TG} {ts : TGs} {s1 s2 : List Nat} {e : Expr} {es : List Expr} (hp : plain e = true) (h1 : PG X e (TGd X.K s1 (asg gl cf t))) (h2 : PGs X es (TGds X.K s2 (asgs gl cf ts))) : PGs X (e :: es) (TGds X.K (s1 ++ s2) (asgs gl cf (.cons t ts))) := by
  have g := pgs_cons h1 h2 (by rw [asg_each hp]; rfl)
  refine ⟨fun pins s σ H vs us Q I r hw => g.run pins s σ H vs us Q I r ?_⟩
  obtain ⟨ρ, S, env, ds, w, en, rd, q⟩ := hw
  cases rd with
  | nil => simp only [asgs, wp_fail] at q
  | cons r1 r2 =>
    simp only [asgs, wp_bind] at q
    refine ⟨_, _, rfl, ρ, S, env, _, w, en, r1, wp_mono q fun env1 S1 q ρ1 H1 σ1 st1 w1 en1 k1 => ?_⟩
    refine ⟨ρ1, S1, env1, _, w1, en1, r2.step w st1, wp_mono q fun env2 S2 q ρ2 H2 σ2 st2 w2 en2 k2 => ?_⟩
    exact q ρ2 H2 σ2 (st1.trans st2) w2 en2 fun own ho => (k2 own fun i hi => ho i (List.mem_append_right _ hi)).trans (k1 own fun i hi => ho i (List.mem_append_left _ hi))
theorem g_tp (ok : Ok gl cf c X) {ts : TGs} {sl : List Nat} {l : List Expr} {k : Nat} {pos : Pos} (hp : l.all plain = true) (hl : l.length = ts.len) (h : PGs X l (TGds X.K sl (asgs gl cf ts))) : PG X (.Tuple l k pos) (TGd X.K sl (asg gl cf (.tp ts))) := by
  refine ⟨fun pins s σ H v u Q I r hw => ?_⟩
  obtain ⟨ρ, S, env, d, w, en, rd, q⟩ := hw
  simp only [asg, wp_bind, unpk] at q
  obtain ⟨a, xs, ds, rfl, hq, rs, q⟩ := getS_wp w rd q
  simp only [wp_bind, wp_need, wp_pure] at q
  obtain ⟨hn, q⟩ := q
  have hn := dec hn
  have hlen : xs.length = l.length := by rw [rs.length, hn, hl]
  rcases hq with hq | hq
  · exact (pg_lst (pos := pos) ok.calm h (asg_len hp) (asg_find hp)).run pins s σ H _ u Q I r ⟨a, xs, rfl, hq, hlen, ρ, S, env, ds, w, en, rs, q⟩
  · exact (pg_tup (pos := pos) ok.calm h (asg_len hp) (asg_find hp)).run pins s σ H _ u Q I r ⟨a, xs, rfl, hq, hlen, ρ, S, env, ds, w, en, rs, q⟩
theorem sub_assign {e1 e2 : Expr} {pos : Pos} {env : Env} (hs : noSlice e2 = true) : ∀ v, assign (.Subscript e1 e2 pos) env v = (do
      let ov ← holding [v] (eval e1 env)
      let iv ← holding [v, ov] (eval e2 env)
      standAt pos
      holding [v, ov, iv] (setItem ov iv v)
      release [v, ov, iv] []) := by
  intro v
  cases e2 <;> first | rfl | cases hs
theorem g_ixs {o i : IE} {e1 e2 : Expr} {pos : Pos} (hs : noSlice e2 = true) (h1 : PE X e1 (TD X.K (ev gl cf o))) (h2 : PE X e2 (TD X.K (ev gl cf i))) : PG X (.Subscript e1 e2 pos) (TGd X.K [] (asg gl cf (.ixs o i))) := by
  have g := pg_sub (pos := pos) h1 h2 set_ok (sub_assign hs)
  refine ⟨fun pins s σ H v u Q I r hw => g.run pins s σ H v u Q I r ?_⟩
  obtain ⟨ρ, S, env, d, w, en, rd, q⟩ := hw
  simp only [asg, wp_bind, wp_pure] at q
  refine ⟨ρ, S, env, w, en, wp_mono q fun x S1 q ρ1 H1 v1 st1 w1 r1 => ⟨ρ1, S1, env, w1, en.step w st1, wp_mono q fun y S2 q ρ2 H2 v2 st2 w2 r2 => ?_⟩⟩
  refine ⟨ρ2, S2, x, y, d, w2, r1.step w1 st2, r2, (rd.step w st1).step w1 st2, wp_mono q fun _ S3 q ρ3 H3 st3 w3 => ?_⟩
  exact q ρ3 H3 σ ((st1.trans st2).trans st3) w3 (((en.step w st1).step w1 st2).step w2 st3) fun _ _ => rfl
/-! ### sources -/
theorem Step.slot {ρ ρ' : List Addr} {H H' : Hp} (st : Step ρ H ρ' H') {l : Nat} {a : Addr} (h : ρ[l]? = some a) : ρ'[l]? = some a := by
  obtain ⟨τ, rfl⟩ := st.pre
  rw [List.getElem?_append_left (List.getElem?_eq_some_iff.mp h).1]
  exact h
section
variable {K : PySem.W.Frag} {ρ0 : List Addr} {S0 : Store} {H0 : Hp}
theorem src_tup (w0 : WS K ρ0 S0 H0) {a : Addr} {xs : List V} {ds : List D} (h : SqT K H0 a xs) (r : Reps K ρ0 H0 xs ds) : SrcOk K ρ0 H0 (Itt K a) ⟨ds, none, none⟩ := by
  intro i ρ S H st w _
  have sq := (st.kp w0).sqt h
  have rs := r.step w0 st
  refine ⟨fun d hd => ?_, fun hi => ⟨xs, sq, by rw [rs.length]; exact hi⟩⟩
  obtain ⟨v, e1, r1⟩ := rs.get hd
  refine ⟨⟨xs, v, sq, e1⟩, fun x H' y => ?_⟩
  obtain ⟨rfl, y⟩ := y
  have := y xs sq
  rw [e1] at this; cases this
  exact ⟨.refl, w, r1⟩
theorem src_ro (w0 : WS K ρ0 S0 H0) {a : Addr} {xs : List V} {ds : List D} (h : SqF K H0 a xs) (r : Reps K ρ0 H0 xs ds) : SrcOk K ρ0 H0 (Itl K a) ⟨ds, none, none⟩ := by
  intro i ρ S H st w _
  have sq := ((st.kp w0).sqf h).sql
  have rs := r.step w0 st
  refine ⟨fun d hd => ?_, fun hi => ⟨xs, sq, by rw [rs.length]; exact hi⟩⟩
  obtain ⟨v, e1, r1⟩ := rs.get hd
  refine ⟨⟨xs, v, sq, e1⟩, fun x H' y => ?_⟩
  obtain ⟨rfl, y⟩ := y
  have := y xs sq
  rw [e1] at this; cases this
  exact ⟨.refl, w, r1⟩
theorem src_lst {l : Nat} {a : Addr} {ds : List D} (h : ρ0[l]? = some a) : SrcOk K ρ0 H0 (Itl K a) ⟨ds, some (l, ds), none⟩ := by
  intro i ρ S H st w g
  obtain ⟨xs, hx, rs⟩ := w.lst (st.slot h) g.1
  have sq : SqL K H a xs := SqL.of hx
  refine ⟨fun d hd => ?_, fun hi => ⟨xs, sq, by rw [rs.length]; exact hi⟩⟩
  obtain ⟨v, e1, r1⟩ := rs.get hd
  refine ⟨⟨xs, v, sq, e1⟩, fun x H' y => ?_⟩
  obtain ⟨rfl, y⟩ := y
  have := y xs sq
  rw [e1] at this; cases this
  exact ⟨.refl, w, r1⟩
theorem src_rng {lo hi : Int} : SrcOk K ρ0 H0 (Itr lo (hi - lo).toNat) ⟨rngItems lo hi, none, none⟩ := by
  intro i ρ S H st w g
  refine ⟨fun d hd => ?_, fun h => ?_⟩
  · unfold rngItems at hd
    rw [List.getElem?_map] at hd
    cases e : (List.range (hi - lo).toNat)[i]? with
    | none => rw [e] at hd; cases hd
    | some k =>
      rw [e] at hd
      cases hd
      obtain ⟨h1, h2⟩ := List.getElem?_eq_some_iff.mp e
      rw [List.length_range] at h1
      rw [List.getElem_range] at h2
      subst h2
      refine ⟨h1, fun x H' y => ?_⟩
      obtain ⟨rfl, rfl⟩ := y
      exact ⟨.refl, w, .int _⟩
  · unfold rngItems at h
    rw [List.length_map, List.length_range] at h
    exact h
/-- what one side of a zip is -/
inductive Side (K : PySem.W.Frag) (ρ0 : List Addr) (S0 : Store) (H0 : Hp) (v : V) (s : Src) : Prop where
  | t {a : Addr} {xs : List V} {ds : List D} (e : v = .ref a) (hs : s = ⟨ds, none, none⟩) (h : SqT K H0 a xs) (r : Reps K ρ0 H0 xs ds)
  | f {a : Addr} {xs : List V} {ds : List D} (e : v = .ref a) (hs : s = ⟨ds, none, none⟩) (h : SqF K H0 a xs) (r : Reps K ρ0 H0 xs ds)
  | l {a : Addr} {l : Nat} {ds : List D} (e : v = .ref a) (hs : s = ⟨ds, some (l, ds), none⟩) (h : ρ0[l]? = some a) (h2 : S0[l]? = some (.lst ds))
theorem seqSrc_wp (w : WS K ρ0 S0 H0) {d : D} {v : V} (r : Rep K ρ0 H0 v d) {R : Src → Store → Prop} (h : wp (seqSrc d) R S0) : ∃ s, Side K ρ0 S0 H0 v s ∧ R s S0 := by
  unfold seqSrc at h
  split at h
  · obtain ⟨a, xs, rfl, hx, r1⟩ := r.tup_
    exact ⟨_, .t rfl rfl hx r1, h⟩
  · obtain ⟨a, xs, rfl, hx, r1⟩ := r.ro_
    exact ⟨_, .f rfl rfl hx r1, h⟩
  · obtain ⟨a, rfl, h1⟩ := r.ref_
    simp only [wp_bind, wp_getO] at h
    obtain ⟨o, e, h⟩ := h
    split at h
    · exact ⟨_, .l rfl rfl h1 e, h⟩
    · exact h.elim
  · exact h.elim
end
theorem i_seq {a : IE} {tg e : Expr} (h1 : PE X e (TD X.K (ev gl cf a))) : PI X tg e (TIs X.K (evi gl cf (.seq a))) := by
  refine ⟨fun pins s σ H R I h => ?_⟩
  obtain ⟨ρ, S, env, w, en, h⟩ := h
  simp only [evi, wp_bind] at h
  have hd : TD X.K (ev gl cf a) σ H (fun v H' => ∃ ρ' S' J, WS X.K ρ' S' H' ∧ R J H' ∧ ∃ a, v = .ref a ∧ ((J = Itt X.K a ∧ ∃ xs, SqT X.K H' a xs) ∨ (J = Itl X.K a ∧ ∃ xs, SqL X.K H' a xs))) := by
    refine ⟨ρ, S, env, w, en, wp_mono h fun d S1 h ρ1 H1 v st1 w1 rv => ?_⟩
    obtain ⟨sr, sd, q⟩ := seqSrc_wp w1 rv h
    cases sd with
    | t e hs hx r =>
      subst e hs
      exact ⟨ρ1, S1, _, w1, q ρ1 H1 _ st1 w1 (src_tup w1 hx r), _, rfl, .inl ⟨rfl, _, hx⟩⟩
    | f e hs hx r =>
      subst e hs
      exact ⟨ρ1, S1, _, w1, q ρ1 H1 _ st1 w1 (src_ro w1 hx r), _, rfl, .inr ⟨rfl, _, hx.sql⟩⟩
    | l e hs hx h2 =>
      subst e hs
      obtain ⟨xs, hx2, _⟩ := w1.lst hx h2
      exact ⟨ρ1, S1, _, w1, q ρ1 H1 _ st1 w1 (src_lst hx), _, rfl, .inr ⟨rfl, xs, SqL.of hx2⟩⟩
  refine thn (h1.run pins s σ H _ I hd) fun v s1 ⟨x, H1, I1, r1, q1⟩ => ?_
  obtain ⟨ρ1, S1, J, w1, q, a, rfl, hJ⟩ := q1
  cases r1
  have fp : ∀ b ∈ [s1.heap.objs.size], FpOk X pins H1 b := fun b hb => by
    have e : b = s1.heap.objs.size := by simpa using hb
    subst e
    exact I1.fpOk (Nat.le_refl _) (I1.hok.fresh (Nat.le_refl _))
  rcases hJ with ⟨rfl, xs, hq⟩ | ⟨rfl, xs, hq⟩
  · obtain ⟨its, rv, p, hz⟩ := I1.tuple hq
    refine wpAny_pyIter_tuple (show s1.heap.IsTuple a its.toArray from p) ?_
    exact ⟨s1.heap.objs.size, [s1.heap.objs.size], _, _, H1, rfl, I1.kept (t' := s1.toks) fun b o e => Heap.get?_push_of_some _ e, turn_tuple a _, ⟨_, Heap.get?_push_size _ rfl, rfl, rfl⟩, fp, q⟩
  · obtain ⟨its, rv, p, hz⟩ := I1.list hq
    refine wpAny_pyIter_list p.isList ?_
    exact ⟨s1.heap.objs.size, [s1.heap.objs.size], _, _, H1, rfl, I1.kept (t' := s1.toks) fun b o e => Heap.get?_push_of_some _ e, turn_list a _, ⟨_, Heap.get?_push_size _ rfl, rfl, rfl⟩, fp, q⟩
theorem small62_ {i : Int} (h : small62 i = true) : -(2 ^ 62) ≤ i ∧ i < 2 ^ 62 := by
  obtain ⟨a, b⟩ := and2 h
  exact ⟨dec a, dec b⟩
theorem i_rng1 (ok : Ok gl cf c X) {a : IE} {tg e1 : Expr} {p pos : Pos} (h : c.is "range" .free = true) (hp : plain e1 = true) (h1 : PE X e1 (TD X.K (ev gl cf a))) : PI X tg (.Call (.Name "range" p) [e1] [] pos) (TIs X.K (evi gl cf (.rng1 a))) := by
  obtain ⟨hg, hm⟩ := ok.is_ h
  have g := pi_range1 (tg := tg) (p := p) (pos := pos) hg hm (pa_cons h1 pa_nil (star_plain hp)) (by rw [star_plain hp]; rfl)
  refine ⟨fun pins s σ H R I h => g.run pins s σ H R I ?_⟩
  obtain ⟨ρ, S, env, w, en, h⟩ := h
  simp only [evi, wp_bind] at h
  refine ⟨ρ, S, env, w, en, wp_mono h fun d S1 h ρ1 H1 v st1 w1 rv => ?_⟩
  cases d with
  | int j =>
    cases rv.int_
    simp only [rngSrc, wp_bind, wp_need, wp_pure] at h
    obtain ⟨hb, h⟩ := h
    obtain ⟨b1, b2⟩ := and2 hb
    obtain ⟨c1, c2⟩ := small62_ b2
    refine ⟨j, rfl, c1, c2, ?_⟩
    have := h ρ1 H1 _ st1 w1 src_rng
    rw [Int.sub_zero] at this
    exact this
  | _ => exact h.elim
theorem i_rng2 (ok : Ok gl cf c X) {a b : IE} {tg e1 e2 : Expr} {p pos : Pos} (h : c.is "range" .free = true) (hp : plain e1 = true) (hp2 : plain e2 = true) (h1 : PE X e1 (TD X.K (ev gl cf a))) (h2 : PE X e2 (TD X.K (ev gl cf b))) :
    PI X tg (.Call (.Name "range" p) [e1, e2] [] pos) (TIs X.K (evi gl cf (.rng2 a b))) := by
  obtain ⟨hg, hm⟩ := ok.is_ h
  have s2 : starEach [e2] X.env = [(false, eval e2 X.env)] := by rw [star_plain hp2]; rfl
  have g := pi_range2 (tg := tg) (p := p) (pos := pos) hg hm (pa_cons h1 (pa_cons h2 pa_nil (star_plain hp2)) (star_plain hp)) (by rw [star_plain hp, s2]) s2
  refine ⟨fun pins s σ H R I h => g.run pins s σ H R I ?_⟩
  obtain ⟨ρ, S, env, w, en, h⟩ := h
  simp only [evi, wp_bind] at h
  refine ⟨ρ, S, env, w, en, wp_mono h fun d S1 h ρ1 H1 v st1 w1 rv => ⟨ρ1, S1, env, w1, en.step w st1, wp_mono h fun d2 S2 h ρ2 H2 v2 st2 w2 rv2 => ?_⟩⟩
  unfold rngSrc at h
  split at h
  · cases rv.int_
    cases rv2.int_
    simp only [wp_bind, wp_need, wp_pure] at h
    obtain ⟨hb, h⟩ := h
    obtain ⟨b1, b2⟩ := and2 hb
    obtain ⟨c1, c2⟩ := small62_ b1
    obtain ⟨c3, c4⟩ := small62_ b2
    exact ⟨_, _, rfl, ⟨c1, c2, c3, c4⟩, h ρ2 H2 _ (st1.trans st2) w2 src_rng⟩
  · exact h.elim

/-! ### zip -/
section
variable {K : PySem.W.Frag} {ρ0 : List Addr} {S0 : Store} {H0 : Hp}
theorem seqSrc_wp2 (w : WS K ρ0 S0 H0) {d : D} {v : V} (r : Rep K ρ0 H0 v d) {R : Src → Store → Prop} (h : wp (seqSrc d) R S0) :
    ∃ a s, v = .ref a ∧ s.guard2 = none ∧ R s S0 ∧ ((isTup d = true ∧ s.guard = none ∧ ∃ xs, SqT K H0 a xs ∧ Reps K ρ0 H0 xs s.items) ∨
      (isTup d = false ∧ (∃ xs, SqL K H0 a xs) ∧ ∀ ρ S H, Step ρ0 H0 ρ H → WS K ρ S H → GH S s.guard → ∃ xs, SqL K H a xs ∧ Reps K ρ H xs s.items)) := by
  unfold seqSrc at h
  split at h
  · obtain ⟨a, xs, rfl, hx, r1⟩ := r.tup_
    exact ⟨a, _, rfl, rfl, h, .inl ⟨rfl, rfl, xs, hx, r1⟩⟩
  · obtain ⟨a, xs, rfl, hx, r1⟩ := r.ro_
    exact ⟨a, _, rfl, rfl, h, .inr ⟨rfl, ⟨xs, hx.sql⟩, fun ρ S H st w' _ => ⟨xs, ((st.kp w).sqf hx).sql, r1.step w st⟩⟩⟩
  · obtain ⟨a, rfl, h1⟩ := r.ref_
    simp only [wp_bind, wp_getO] at h
    obtain ⟨o, e, h⟩ := h
    split at h
    · obtain ⟨xs, hx, _⟩ := w.lst h1 e
      refine ⟨a, _, rfl, rfl, h, .inr ⟨rfl, ⟨xs, SqL.of hx⟩, fun ρ S H st w' g => ?_⟩⟩
      obtain ⟨ys, hy, ry⟩ := w'.lst (st.slot h1) g
      exact ⟨ys, SqL.of hy, ry⟩
    · exact h.elim
  · exact h.elim
theorem zip_get {α β γ : Type} {xs : List α} {ys : List β} {f : α × β → γ} {i : Nat} {z : γ} (h : ((xs.zip ys).map f)[i]? = some z) : ∃ x y, xs[i]? = some x ∧ ys[i]? = some y ∧ z = f (x, y) := by
  rw [List.getElem?_map] at h
  cases e : (xs.zip ys)[i]? with
  | none => rw [e] at h; cases h
  | some p =>
    rw [e] at h
    cases h
    obtain ⟨x, y⟩ := p
    obtain ⟨h1, h2⟩ := List.getElem?_zip_eq_some.mp e
    exact ⟨x, y, h1, h2, rfl⟩
end
theorem i_zip (ok : Ok gl cf c X) {a b : IE} {elts : List Expr} {kk : Nat} {tpos : Pos} {e1 e2 : Expr} {p pos : Pos} (h : c.is "zip" .free = true) (hp : plain e1 = true) (hp2 : plain e2 = true) (h1 : PE X e1 (TD X.K (ev gl cf a))) (h2 : PE X e2 (TD X.K (ev gl cf b))) :
    PI X (.Tuple elts kk tpos) (.Call (.Name "zip" p) [e1, e2] [] pos) (TIs X.K (evi gl cf (.zip a b))) := by
  obtain ⟨hg, hm⟩ := ok.is_ h
  have g := RZ.pi_zipA (p := p) (pos := pos) (tpos := tpos) (elts := elts) (kk := kk) hg hm (pa_cons h1 (pa_cons h2 pa_nil (star_plain hp2)) (star_plain hp)) (star_plain hp) (back_any (by simp [hp2]))
  refine ⟨fun pins s σ H R I h => g.run pins s σ H R I ?_⟩
  obtain ⟨ρ, S, env, w, en, h⟩ := h
  simp only [evi, wp_bind] at h
  refine ⟨ρ, S, env, w, en, wp_mono h fun d S1 h ρ1 H1 v st1 w1 rv => ⟨ρ1, S1, env, w1, en.step w st1, wp_mono h fun d2 S2 h ρ2 H2 v2 st2 w2 rv2 => ?_⟩⟩
  unfold zipSrc at h
  simp only [wp_bind, wp_need] at h
  obtain ⟨ht, h⟩ := h
  have ht : isTup d = isTup d2 := by simpa using ht
  obtain ⟨a1, s1, rfl, g1, h, k1⟩ := seqSrc_wp2 w2 (rv.step w1 st2) h
  obtain ⟨a2, s2, rfl, g2, h, k2⟩ := seqSrc_wp2 w2 rv2 h
  simp only [wp_pure] at h
  have st := st1.trans st2
  rcases k1 with ⟨t1, q1, xs, hx, rx⟩ | ⟨t1, ⟨xs, hx⟩, k1⟩
  · rcases k2 with ⟨t2, q2, ys, hy, ry⟩ | ⟨t2, k2⟩
    · refine ⟨a1, a2, xs, ys, rfl, .inr ⟨hx, hy, h ρ2 H2 _ st w2 ?_⟩⟩
      intro i ρ3 S3 H3 st3 w3 _
      have sx := (st3.kp w2).sqt hx
      have sy := (st3.kp w2).sqt hy
      have rx3 := rx.step w2 st3
      have ry3 := ry.step w2 st3
      refine ⟨fun z hz => ?_, fun hi => ⟨xs, ys, sx, sy, ?_⟩⟩
      · obtain ⟨x, y, ex, ey, rfl⟩ := zip_get hz
        obtain ⟨vx, fx, qx⟩ := rx3.get ex
        obtain ⟨vy, fy, qy⟩ := ry3.get ey
        refine ⟨⟨xs, ys, vx, vy, sx, sy, fx, fy⟩, fun u H' yl => ?_⟩
        obtain ⟨T, x', y', rfl, nT, rfl, fx', fy'⟩ := yl
        have ex' := fx' xs sx
        have ey' := fy' ys sy
        rw [fx] at ex'; cases ex'
        rw [fy] at ey'; cases ey'
        have stT : Step ρ3 H3 ρ3 (upd H3 T (.tup [vx, vy])) := .tup nT
        exact ⟨stT, w3.tup nT, .tup (SqT.of upd_same) (.cons (qx.step w3 stT) (.cons (qy.step w3 stT) .nil))⟩
      · rw [List.length_map, List.length_zip] at hi
        rw [rx3.length, ry3.length]
        omega
    · rw [t1, t2] at ht; cases ht
  · rcases k2 with ⟨t2, q2, ys, hy, ry⟩ | ⟨t2, ⟨ys, hy⟩, k2⟩
    · rw [t1, t2] at ht; cases ht
    · refine ⟨a1, a2, xs, ys, rfl, .inl ⟨hx, hy, h ρ2 H2 _ st w2 ?_⟩⟩
      intro i ρ3 S3 H3 st3 w3 gd
      obtain ⟨xs3, sx, rx3⟩ := k1 ρ3 S3 H3 st3 w3 gd.1
      obtain ⟨ys3, sy, ry3⟩ := k2 ρ3 S3 H3 st3 w3 gd.2
      refine ⟨fun z hz => ?_, fun hi => ⟨xs3, ys3, sx, sy, ?_⟩⟩
      · obtain ⟨x, y, ex, ey, rfl⟩ := zip_get hz
        obtain ⟨vx, fx, qx⟩ := rx3.get ex
        obtain ⟨vy, fy, qy⟩ := ry3.get ey
        refine ⟨⟨xs3, ys3, vx, vy, sx, sy, fx, fy⟩, fun u H' yl => ?_⟩
        obtain ⟨T, x', y', rfl, nT, rfl, fx', fy'⟩ := yl
        have ex' := fx' xs3 sx
        have ey' := fy' ys3 sy
        rw [fx] at ex'; cases ex'
        rw [fy] at ey'; cases ey'
        have stT : Step ρ3 H3 ρ3 (upd H3 T (.tup [vx, vy])) := .tup nT
        exact ⟨stT, w3.tup nT, .tup (SqT.of upd_same) (.cons (qx.step w3 stT) (.cons (qy.step w3 stT) .nil))⟩
      · rw [List.length_map, List.length_zip] at hi
        rw [rx3.length, ry3.length]
        omega
/-! ### comprehensions -/
theorem WS.adopt {K : PySem.W.Frag} {ρ : List Addr} {S : Store} {H : Hp} (w : WS K ρ S H) {p : Addr} {xs : List V} {ds : List D} (hp : H p = some (.lst xs)) (hn : p ∉ ρ) (r : Reps K ρ H xs ds) : WS K (ρ ++ [p]) (S ++ [.lst ds]) H := by
  refine ⟨List.nodup_append.mpr ⟨w.nd, List.nodup_cons.mpr ⟨by simp, List.nodup_nil⟩, fun a ha b hb e => ?_⟩, by rw [List.length_append, List.length_append, w.len]; rfl, fun i a o' h1 h2 => ?_⟩
  · rw [List.mem_singleton.mp hb] at e
    subst e
    exact hn ha
  · by_cases hi : i < ρ.length
    · rw [List.getElem?_append_left hi] at h1
      rw [List.getElem?_append_left (by rw [← w.len]; exact hi)] at h2
      exact (w.ob i a o' h1 h2).kp Kp.refl rfl
    · have e1 : i = ρ.length := by
        have := (List.getElem?_eq_some_iff.mp h1).1
        rw [List.length_append, List.length_singleton] at this
        omega
      subst e1
      rw [List.getElem?_append_right (Nat.le_refl _), Nat.sub_self] at h1
      rw [w.len, List.getElem?_append_right (Nat.le_refl _), Nat.sub_self] at h2
      simp at h1 h2
      subst h1 h2
      exact ⟨xs, hp, r.kp Kp.refl⟩
def TCs (K : PySem.W.Frag) (m : Sl → M Bool) : TT := TB K m
theorem c_no : PTs X [] (TB X.K (evc gl cf .no)) := ⟨fun pins s σ H Q I hw => by
  obtain ⟨ρ, S, env, w, en, q⟩ := hw
  exact pts_nil.run pins s σ H Q I (q ρ H .refl w)⟩
theorem c_so {a : IE} {e1 : Expr} (h1 : PT X e1 (TB X.K (tst gl cf a))) : PTs X [e1] (TB X.K (evc gl cf (.so a))) := pts_one h1
theorem drop_cons {α : Type} {l : List α} {i : Nat} {d : α} {r : List α} (h : l.drop i = d :: r) : l[i]? = some d ∧ l.drop (i + 1) = r := by
  have e : l[i]? = some d := by rw [← List.head?_drop, h]; rfl
  refine ⟨e, ?_⟩
  rw [← List.tail_drop, h]
  rfl
theorem r_comp (ok : Ok gl cf c X) {t : TG} {own : List Nat} {it : II} {cond : IC} {elt : IE} {tg iter : Expr} {ownp : List (Str × Nat)} {sl : List Nat} (ho : ownp.map (·.2) = own) (hsl : ∀ i ∈ sl, i ∈ own) (hi : PI X tg iter (TIs X.K (evi gl cf it)))
    {σ : L2.St} {H : Hp} {Q : VK} (h : TD X.K (ev gl cf (.comp t own it cond elt)) σ H Q) :
    tLc (TIs X.K (evi gl cf it)) (TGd X.K sl (asg gl cf t)) (TB X.K (evc gl cf cond)) (TD X.K (ev gl cf elt)) (ownp.map (·.2)) σ H Q := by
  rw [ho]
  obtain ⟨ρ, S, env, w, en, h⟩ := h
  simp only [ev, wp_bind, wp_newO] at h
  refine ⟨ρ, S, env, w, en, wp_mono h fun s S1 h ρ1 H1 J st1 w1 src => fun D hD => ?_⟩
  have en1 := en.step w st1
  have hDρ : D ∉ ρ1 := w1.fresh hD
  have stD : Step ρ1 H1 ρ1 (upd H1 D (.lst [])) := .tup hD
  refine ⟨fun i m H' => ∃ ρ' S' xs acc, WS X.K ρ' S' H' ∧ Step ρ1 H1 ρ' H' ∧ D ∉ ρ' ∧ H' D = some (.lst xs) ∧ Reps X.K ρ' H' xs acc ∧ m = s.items.length - i ∧
    wp (compL s (fun d => do
      let env1 ← asg gl cf t d (wipeE env own)
      if ← evc gl cf cond env1 then
        let y ← ev gl cf elt env1
        pure (some y)
      else pure none) (s.items.drop i) acc) (fun r S'' => Post X.K ρ H Q (.ref S''.length) (S'' ++ [.lst r])) S', ⟨_, ρ1, S1, [], [], w1.tup hD, stD, hDρ, upd_same, .nil, rfl, ?_⟩, ?_⟩
  · rw [List.drop_zero]
    exact h
  rintro i m H2 ⟨ρ2, S2, xs, acc, w2, st2, hn2, hx2, r2, rfl, h⟩
  cases hd : s.items.drop i with
  | nil =>
    rw [hd] at h
    simp only [compL, wp_bind, wp_pure] at h
    obtain ⟨gd, h⟩ := grd_wp h
    refine .inl ⟨(src i ρ2 S2 H2 st2 w2 gd).2 (List.drop_eq_nil_iff.mp hd), ?_⟩
    have w3 := w2.adopt hx2 hn2 r2
    have st3 : Step ρ H (ρ2 ++ [D]) H2 := by
      have st := st1.trans st2
      obtain ⟨τ, e⟩ := st.pre
      refine ⟨⟨τ ++ [D], by rw [e, List.append_assoc]⟩, fun a ha => ?_, st.keep⟩
      rcases List.mem_append.mp ha with ha | ha
      · exact st.new a ha
      · rw [List.mem_singleton.mp ha]
        refine .inr ?_
        cases q : H D with
        | none => rfl
        | some u =>
          have hDr : D ∉ ρ := fun hm => hDρ (by obtain ⟨τ1, e1⟩ := st1.pre; rw [e1]; exact List.mem_append_left _ hm)
          rw [st1.keep D u hDr q] at hD
          cases hD
    exact h _ H2 _ st3 w3 (Rep.new w2)
  | cons d ds =>
    rw [hd] at h
    obtain ⟨hid, hdr⟩ := drop_cons hd
    have hil : i < s.items.length := (List.getElem?_eq_some_iff.mp hid).1
    simp only [compL, wp_bind] at h
    obtain ⟨gd, h⟩ := grd_wp h
    obtain ⟨go, yl⟩ := (src i ρ2 S2 H2 st2 w2 gd).1 d hid
    refine .inr ⟨go, fun H' => ∃ ρ' S' xs acc, WS X.K ρ' S' H' ∧ Step ρ1 H1 ρ' H' ∧ D ∉ ρ' ∧ H' D = some (.lst xs) ∧ Reps X.K ρ' H' xs acc ∧
      wp (compL s (fun d => do
        let env1 ← asg gl cf t d (wipeE env own)
        if ← evc gl cf cond env1 then
          let y ← ev gl cf elt env1
          pure (some y)
        else pure none) (s.items.drop (i + 1)) acc) (fun r S'' => Post X.K ρ H Q (.ref S''.length) (S'' ++ [.lst r])) S', fun H' hN => ?_, fun x H3 hy => ?_⟩
    · obtain ⟨ρ', S', xs', acc', a1, a2, a3, a4, a5, a6⟩ := hN
      exact ⟨s.items.length - (i + 1), by omega, ρ', S', xs', acc', a1, a2, a3, a4, a5, rfl, a6⟩
    · rw [hdr]
      obtain ⟨sty, wy, rx⟩ := yl x H3 hy
      have hD3 : H3 D = some (.lst xs) := sty.keep D _ hn2 hx2
      refine ⟨ρ2, S2, wipeE env own, d, wy, ((en1.step w1 st2).step w2 sty).wipe own, rx, wp_mono h fun env1 S3 h ρ3 H4 σ3 st4 w4 en4 wp4 => ?_⟩
      have k4 : Step ρ1 H1 ρ3 H4 := (st2.trans sty).trans st4
      have hn4 : D ∉ ρ3 := fun hm => by
        rcases st4.new D hm with h' | h'
        · exact hn2 h'
        · rw [hD3] at h'; cases h'
      have hD4 : H4 D = some (.lst xs) := st4.keep D _ hn2 hD3
      have wi : wipe σ3 own = wipe σ own := by
        rw [wp4 own hsl]
        exact wipe_wipe own
      refine ⟨wi, ρ3, S3, env1, w4, en4, wp_mono h fun b S4 h ρ4 H5 st5 w5 => ?_⟩
      have hD5 : H5 D = some (.lst xs) := st5.keep D _ hn4 hD4
      have hn5 : D ∉ ρ4 := fun hm => by
        rcases st5.new D hm with h' | h'
        · exact hn4 h'
        · rw [hD4] at h'; cases h'
      have r5 : Reps X.K ρ4 H5 xs acc := ((r2.step w2 sty).step wy st4).step w4 st5
      cases b with
      | true =>
        simp only [if_true, wp_bind, wp_pure] at h ⊢
        refine ⟨ρ4, S4, env1, w5, en4.step w4 st5, wp_mono h fun y S5 h ρ5 H6 v st6 w6 ry => ?_⟩
        have hD6 : H6 D = some (.lst xs) := st6.keep D _ hn5 hD5
        have hn6 : D ∉ ρ5 := fun hm => by
          rcases st6.new D hm with h' | h'
          · exact hn5 h'
          · rw [hD5] at h'; cases h'
        have r6 : Reps X.K ρ5 H6 xs acc := r5.step w5 st6
        simp only [wp_bind, wp_need] at h
        obtain ⟨hl, h⟩ := h
        have hl := dec hl
        rw [← r6.length] at hl
        refine ⟨xs, hD6, hl, ρ5, S5, xs ++ [v], acc ++ [y], ?_, ?_, hn6, upd_same, ?_, h⟩
        · refine ⟨w6.nd, w6.len, fun j a o h1 h2 => ?_⟩
          have hne : a ≠ D := fun e => hn6 (by rw [← e]; exact List.mem_of_getElem? h1)
          have kp : Kp H6 (upd H6 D (.lst (xs ++ [v]))) := ⟨fun a' xs' e => by rw [upd_ne (fun z => by rw [z, hD6] at e; cases e)]; exact e, fun a' o' u' e => by rw [upd_ne (fun z => by rw [z, hD6] at e; cases e)]; exact e⟩
          have q := (w6.ob j a o h1 h2).kp (τ := []) kp (upd_ne hne)
          rw [List.append_nil] at q
          exact q
        · have k6 := (k4.trans st5).trans st6
          refine ⟨k6.pre, k6.new, fun a o ha e => ?_⟩
          rw [upd_ne (fun z => by rw [z, hD] at e; cases e)]
          exact k6.keep a o ha e
        · have kp : Kp H6 (upd H6 D (.lst (xs ++ [v]))) := ⟨fun a' xs' e => by rw [upd_ne (fun z => by rw [z, hD6] at e; cases e)]; exact e, fun a' o' u' e => by rw [upd_ne (fun z => by rw [z, hD6] at e; cases e)]; exact e⟩
          have q := (r6.append (.cons ry .nil)).kp (τ := []) kp
          rw [List.append_nil] at q
          exact q
      | false =>
        simp only [Bool.false_eq_true, if_false, wp_pure] at h ⊢
        exact ⟨ρ4, S4, xs, acc, w5, k4.trans st5, hn5, hD5, r5, h⟩
end
end Dl
end

section
set_option Elab.async false
set_option linter.all false
set_option maxRecDepth 100000
set_option maxHeartbeats 2000000
/-! Dl: soundness of the checker, expressions and statements -/
namespace Dl
open PySem PySem.Spec PyProof.Rows L2
theorem bnd_assoc {α β γ : Type} (m : M α) (f : α → M β) (g : β → M γ) : (m >>= f) >>= g = m >>= fun a => f a >>= g := by
  funext S
  show M.bnd (M.bnd m f) g S = M.bnd m (fun a => M.bnd (f a) g) S
  unfold M.bnd
  cases m S <;> rfl
def isBO : Expr → Bool | .BoolOp _ _ _ => true | _ => false
section
variable {gl : Nat → D} {cf : Nat → List D → M D}
theorem tst_var (i : Nat) : tst gl cf (.var i) = fun env => (do let d ← ev gl cf (.var i) env; truth d) := by
  funext env
  simp only [tst, ev]
  cases env[i]? with
  | none => rfl
  | some o => cases o <;> rfl
theorem tst_call (f : Nat) (es : IEs) : tst gl cf (.call f es) = fun env => (do let d ← ev gl cf (.call f es) env; truth d) := by
  funext env
  simp only [tst, ev, bnd_assoc]
theorem tst_bi (f : Bi) (es : IEs) : tst gl cf (.bi f es) = fun env => (do let d ← ev gl cf (.bi f es) env; truth d) := by
  funext env
  simp only [tst, ev, bnd_assoc]
theorem tst_isi (f : IE) (t : Ty) : tst gl cf (.isi f t) = fun env => (do let d ← ev gl cf (.isi f t) env; truth d) := by
  funext env
  simp only [tst, ev, bnd_assoc]
theorem tst_isis (f : IE) (t : List Ty) : tst gl cf (.isis f t) = fun env => (do let d ← ev gl cf (.isis f t) env; truth d) := by
  funext env
  simp only [tst, ev, bnd_assoc]
theorem pt_fail {X : Cx} {e : Expr} {K : PySem.W.Frag} (h : ∀ env, tst gl cf ir env = fail) : PT X e (TB K (tst gl cf ir)) := ⟨fun pins s σ H Q I hw => by
  obtain ⟨ρ, S, env, w, en, q⟩ := hw
  rw [h] at q
  exact q.elim⟩
theorem pw_fail {X : Cx} {e : Expr} {K : PySem.W.Frag} (h : ∀ env, tst gl cf ir env = fail) : PW X e (TB K (tst gl cf ir)) := ⟨fun wh pins s σ H Q I hw => by
  obtain ⟨ρ, S, env, w, en, q⟩ := hw
  rw [h] at q
  exact q.elim⟩
theorem t_bl {X : Cx} {b : Bool} {k : Nat} {pos : Pos} : PT X (.Constant (.bool b) k pos) (TB X.K (tst gl cf (.bl b))) :=
  PT.of (pt_val pe_bl) fun σ H Q ⟨ρ, S, env, w, en, q⟩ => ⟨b, rfl, q ρ H .refl w⟩
/-- what the soundness says of a test -/
def TOk (gl : Nat → D) (cf : Nat → List D → M D) (X : Cx) (e : Expr) (ir : IE) : Prop := PT X e (TB X.K (tst gl cf ir)) ∧ (isBO e = true → PW X e (TB X.K (tst gl cf ir)))
theorem TOk.fail {X : Cx} {e : Expr} {ir : IE} (h : ∀ env, tst gl cf ir env = Dl.fail) : TOk gl cf X e ir := ⟨pt_fail h, fun _ => pw_fail h⟩
theorem TOk.pt {X : Cx} {e : Expr} {ir : IE} (h : PT X e (TB X.K (tst gl cf ir))) (hb : isBO e = false) : TOk gl cf X e ir := ⟨h, fun z => by rw [hb] at z; cases z⟩
theorem TOk.pw {X : Cx} {e : Expr} {ir : IE} (h : PW X e (TB X.K (tst gl cf ir))) : TOk gl cf X e ir := ⟨h.pt, fun _ => h⟩
theorem slots_in {own : List Nat} {sl : List Nat} (h : sl.all (own.contains ·) = true) : ∀ i ∈ sl, i ∈ own := fun i hi => by
  have := List.all_eq_true.mp h i hi
  simpa using this
theorem ownP_snd (c : Cst) (own : List Nat) : (ownP c own).map (·.2) = own := by
  unfold ownP
  rw [List.map_map]
  exact List.map_id _
theorem r_meX {c : Cst} {X : Cx} (hu : X.A.units + 65 < cLine) {m : Me} {o : IE} {e : Expr} {apos pos : Pos} {l : List Expr} {es : IEs} (h2 : (apos.endLine == pos.line) = true) (h3 : noSuper e = true) (h4 : l.length < 29) (g1 : PE X e (TD X.K (ev gl cf o))) (h6 : chks c es l = true)
    (a1 : PA X l (TDs X.K (evs gl cf es))) (a2 : l.all plain = true) : PE X (.Call (.Attribute e m.name apos) l [] pos) (TD X.K (ev gl cf (.me m o es))) := by
  cases l with
  | nil =>
    cases es with
    | nil =>
      by_cases hm : m = .pop ∨ m = .reverse
      · exact r_me0 hu h2 h3 g1 a1 hm
      · refine ⟨fun pins s σ H Q I hw => ?_⟩
        obtain ⟨ρ, S, env, w, en, q⟩ := hw
        simp only [ev, evs, wp_bind, wp_pure] at q
        obtain ⟨x, S1, _, q⟩ := wp_some q
        obtain ⟨u, S2, _, q⟩ := wp_some q
        unfold meRun at q
        split at q
        · simp only [wp_bind, wp_getO] at q
          obtain ⟨o1, e1, q⟩ := q
          cases m <;> first | exact absurd (.inl rfl) hm | exact absurd (.inr rfl) hm | (split at q <;> exact q.elim)
        · exact q.elim
    | cons _ _ => simp only [chks] at h6; cases h6
  | cons e1 l =>
    by_cases hm : m = .append ∨ m = .popAt ∨ m = .remove
    · exact r_me hu h2 h3 h4 a2 g1 a1 hm
    · cases es with
      | nil => simp only [chks] at h6; cases h6
      | cons ea es =>
        refine ⟨fun pins s σ H Q I hw => ?_⟩
        obtain ⟨ρ, S, env, w, en, q⟩ := hw
        simp only [ev, evs, wp_bind, wp_pure] at q
        obtain ⟨x, S1, _, q⟩ := wp_some q
        obtain ⟨u, S2, _, q⟩ := wp_some q
        obtain ⟨d, S3, _, q⟩ := wp_some q
        obtain ⟨ds, S4, _, q⟩ := wp_some q
        unfold meRun at q
        split at q
        · simp only [wp_bind, wp_getO] at q
          obtain ⟨o1, e1, q⟩ := q
          cases m <;> first | exact absurd (.inl rfl) hm | exact absurd (.inr (.inl rfl)) hm | exact absurd (.inr (.inr rfl)) hm | (split at q <;> exact q.elim)
        · exact q.elim
mutual
theorem chk_ok : ∀ (ir : IE) (c : Cst) (X : Cx) (e : Expr), Ok gl cf c X → chk c ir e = true → PE X e (TD X.K (ev gl cf ir))
  | .var i, c, X, e, ok, h => by
    simp only [chk] at h
    split at h
    · exact r_var ok h
    · cases h
  | .int i, c, X, e, ok, h => by
    simp only [chk] at h
    split at h
    · cases of_decide_eq_true h
      exact r_int
    · cases h
  | .bl i, c, X, e, ok, h => by
    simp only [chk] at h
    split at h
    · cases of_decide_eq_true h
      exact r_bl
    · cases h
  | .non, c, X, e, ok, h => by
    simp only [chk] at h
    split at h
    · exact r_non
    · cases h
  | .str x, c, X, e, ok, h => by
    simp only [chk] at h
    split at h
    · cases of_decide_eq_true h
      exact r_str
    · cases h
  | .glo g, c, X, e, ok, h => by
    simp only [chk] at h
    split at h
    · exact r_glo ok h
    · cases h
  | .tup es, c, X, e, ok, h => by
    simp only [chk] at h
    split at h
    · exact r_tup (chks_ok es c X _ ok h).1
    · cases h
  | .lst es, c, X, e, ok, h => by
    simp only [chk] at h
    split at h
    · exact r_lst (chks_ok es c X _ ok h).1
    · cases h
  | .op o a b, c, X, e, ok, h => by
    simp only [chk] at h
    split at h
    · obtain ⟨h1, h⟩ := and2 h
      obtain ⟨h2, h3⟩ := and2 h
      cases of_decide_eq_true h1
      exact r_op (chk_ok a c X _ ok h2) (chk_ok b c X _ ok h3)
    · cases h
  | .neg a, c, X, e, ok, h => by
    simp only [chk] at h
    split at h
    · exact r_neg (chk_ok a c X _ ok h)
    · cases h
  | .not a, c, X, e, ok, h => by
    simp only [chk] at h
    split at h
    · exact r_not (chk_ok a c X _ ok h)
    · cases h
  | .and a b, c, X, e, ok, h => by
    simp only [chk] at h
    split at h
    · obtain ⟨h2, h3⟩ := and2 h
      exact r_and (chk_ok a c X _ ok h2) (pe_one (chk_ok b c X _ ok h3))
    · obtain ⟨h2, h3⟩ := and2 h
      exact r_and (chk_ok a c X _ ok h2) (chk_ok b c X _ ok h3)
    · cases h
  | .or a b, c, X, e, ok, h => by
    simp only [chk] at h
    split at h
    · obtain ⟨h2, h3⟩ := and2 h
      exact r_or (chk_ok a c X _ ok h2) (pe_one (chk_ok b c X _ ok h3))
    · obtain ⟨h2, h3⟩ := and2 h
      exact r_or (chk_ok a c X _ ok h2) (chk_ok b c X _ ok h3)
    · cases h
  | .cmp o a b, c, X, e, ok, h => by
    simp only [chk] at h
    split at h
    · obtain ⟨h1, h⟩ := and2 h
      obtain ⟨h0, h⟩ := and2 h
      obtain ⟨h2, h3⟩ := and2 h
      cases of_decide_eq_true h1
      exact r_cmp ok h0 (chk_ok a c X _ ok h2) (chk_ok b c X _ ok h3)
    · cases h
  | .chain o o2 a b d, c, X, e, ok, h => by
    simp only [chk] at h
    split at h
    · obtain ⟨h1, h⟩ := and2 h
      obtain ⟨h1', h⟩ := and2 h
      obtain ⟨h0, h⟩ := and2 h
      obtain ⟨h2, h⟩ := and2 h
      obtain ⟨h3, h4⟩ := and2 h
      cases of_decide_eq_true h1
      cases of_decide_eq_true h1'
      exact r_chain ok h0 (chk_ok a c X _ ok h2) (chk_ok b c X _ ok h3) (chk_ok d c X _ ok h4)
    · cases h
  | .ite t a b, c, X, e, ok, h => by
    simp only [chk] at h
    split at h
    · obtain ⟨h1, h⟩ := and2 h
      obtain ⟨h2, h3⟩ := and2 h
      exact r_ite (tst_ok t c X _ ok h1).1 (chk_ok a c X _ ok h2) (chk_ok b c X _ ok h3)
    · cases h
  | .ix a b, c, X, e, ok, h => by
    simp only [chk] at h
    split at h
    · obtain ⟨h1, h⟩ := and2 h
      obtain ⟨h2, h3⟩ := and2 h
      exact r_ix h1 (chk_ok a c X _ ok h2) (chk_ok b c X _ ok h3)
    · cases h
  | .sl a lo hi, c, X, e, ok, h => by
    simp only [chk] at h
    split at h
    · obtain ⟨h1, h⟩ := and2 h
      obtain ⟨h2, h3⟩ := and2 h
      exact r_sl (chk_ok a c X _ ok h1) (chko_ok lo c X _ ok h2) (chko_ok hi c X _ ok h3)
    · cases h
  | .rev a, c, X, e, ok, h => by
    simp only [chk] at h
    split at h
    · exact r_rev (chk_ok a c X _ ok h)
    · cases h
  | .call f es, c, X, e, ok, h => by
    simp only [chk] at h
    split at h
    · obtain ⟨h1, h⟩ := and2 h
      obtain ⟨h2, h3⟩ := and2 h
      obtain ⟨a1, a2⟩ := chks_ok es c X _ ok h3
      exact r_call ok (by rw [h1, h2]; rfl) a2 a1
    · cases h
  | .bi b es, c, X, e, ok, h => by
    simp only [chk] at h
    split at h
    · obtain ⟨h1, h⟩ := and2 h
      obtain ⟨h2, h3⟩ := and2 h
      obtain ⟨a1, a2⟩ := chks_ok es c X _ ok h3
      cases of_decide_eq_true h1
      exact r_bi ok h2 a2 a1
    · cases h
  | .me m o es, c, X, e, ok, h => by
    simp only [chk] at h
    split at h
    · obtain ⟨h1, h⟩ := and2 h
      obtain ⟨h2, h⟩ := and2 h
      obtain ⟨h3, h⟩ := and2 h
      obtain ⟨h4, h⟩ := and2 h
      obtain ⟨h5, h6⟩ := and2 h
      cases of_decide_eq_true h1
      have h4 := of_decide_eq_true h4
      have g1 := chk_ok o c X _ ok h5
      obtain ⟨a1, a2⟩ := chks_ok es c X _ ok h6
      exact r_meX ok.un h2 h3 h4 g1 h6 a1 a2
    · cases h
  | .isi a t, c, X, e, ok, h => by
    simp only [chk] at h
    split at h
    · obtain ⟨h1, h⟩ := and2 h
      obtain ⟨h2, h⟩ := and2 h
      obtain ⟨h3, h⟩ := and2 h
      obtain ⟨h4, h⟩ := and2 h
      obtain ⟨h5, h6⟩ := and2 h
      cases of_decide_eq_true h1
      cases of_decide_eq_true h3
      exact r_isi ok h2 h4 h5 (chk_ok a c X _ ok h6)
    · cases h
  | .isis a ts, c, X, e, ok, h => by
    simp only [chk] at h
    split at h
    · obtain ⟨h1, h⟩ := and2 h
      obtain ⟨h2, h⟩ := and2 h
      obtain ⟨h3, h⟩ := and2 h
      obtain ⟨h4, h⟩ := and2 h
      obtain ⟨h5, h6⟩ := and2 h
      cases of_decide_eq_true h1
      exact r_isis ok h2 h3 (of_decide_eq_true h4) h5 (chk_ok a c X _ ok h6)
    · cases h
  | .comp t own it cond elt, c, X, e, ok, h => by
    simp only [chk] at h
    split at h
    · obtain ⟨h1, h⟩ := and2 h
      obtain ⟨h2, h⟩ := and2 h
      obtain ⟨h3, h⟩ := and2 h
      obtain ⟨h4, h⟩ := and2 h
      obtain ⟨h5, h⟩ := and2 h
      obtain ⟨h6, h⟩ := and2 h
      obtain ⟨h7, h⟩ := and2 h
      obtain ⟨h8, h9⟩ := and2 h
      cases of_decide_eq_true h1
      refine PE.of (pe_lc (own := ownP c own) (g := TGd X.K t.slots (asg gl cf t)) (tt := TB X.K (evc gl cf cond)) (te := TD X.K (ev gl cf elt)) ok.calm ok.nd (chkI_ok it c X _ _ ok h6) (by rw [ok.N, ok.sc]; exact blkOk_by h3)
        (fun s H C cl fp => chkT_ok t _ _ _ (ok.blk _ s H C cl fp) h7) (fun s H C cl fp => chkc_ok cond _ _ _ (ok.blk _ s H C cl fp) h8) (fun s H C cl fp => chk_ok elt _ _ _ (ok.blk _ s H C cl fp) h9) (folded_ok h2)) fun σ H Q hh => ?_
      exact r_comp ok (ownP_snd c own) (slots_in h5) (chkI_ok it c X _ _ ok h6) hh
    · cases h
  | .tupr a, c, X, e, ok, h => by
    simp only [chk] at h
    split at h
    · obtain ⟨h1, h⟩ := and2 h
      obtain ⟨h2, h⟩ := and2 h
      obtain ⟨h3, h⟩ := and2 h
      obtain ⟨h4, h⟩ := and2 h
      obtain ⟨h5, h6⟩ := and2 h
      cases of_decide_eq_true h1
      cases of_decide_eq_true h3
      exact r_tupr ok h2 h4 h5 (chk_ok a c X _ ok h6)
    · cases h
  | .lstr a, c, X, e, ok, h => by
    simp only [chk] at h
    split at h
    · obtain ⟨h1, h⟩ := and2 h
      obtain ⟨h2, h⟩ := and2 h
      obtain ⟨h3, h⟩ := and2 h
      obtain ⟨h4, h⟩ := and2 h
      obtain ⟨h5, h6⟩ := and2 h
      cases of_decide_eq_true h1
      cases of_decide_eq_true h3
      exact r_lstr ok h2 h4 h5 (chk_ok a c X _ ok h6)
    · cases h
theorem chks_ok : ∀ (es : IEs) (c : Cst) (X : Cx) (l : List Expr), Ok gl cf c X → chks c es l = true → PA X l (TDs X.K (evs gl cf es)) ∧ l.all plain = true
  | .nil, c, X, l, ok, h => by
    simp only [chks] at h
    split at h
    · exact ⟨r_nil, rfl⟩
    · cases h
  | .cons e es, c, X, l, ok, h => by
    simp only [chks] at h
    split at h
    · obtain ⟨h1, h⟩ := and2 h
      obtain ⟨h2, h3⟩ := and2 h
      obtain ⟨a1, a2⟩ := chks_ok es c X _ ok h3
      exact ⟨r_cons h1 (chk_ok e c X _ ok h2) a1, by rw [List.all_cons, h1, a2]; rfl⟩
    · cases h
theorem chko_ok : ∀ (o : IO) (c : Cst) (X : Cx) (e : Option Expr), Ok gl cf c X → chko c o e = true → PO X e (TOd X.K (evo gl cf o))
  | .no, c, X, e, ok, h => by
    simp only [chko] at h
    split at h
    · exact r_no
    · cases h
  | .so a, c, X, e, ok, h => by
    simp only [chko] at h
    split at h
    · exact r_so (chk_ok a c X _ ok h)
    · cases h
theorem chkc_ok : ∀ (o : IC) (c : Cst) (X : Cx) (e : List Expr), Ok gl cf c X → chkc c o e = true → PTs X e (TB X.K (evc gl cf o))
  | .no, c, X, e, ok, h => by
    simp only [chkc] at h
    split at h
    · exact c_no
    · cases h
  | .so a, c, X, e, ok, h => by
    simp only [chkc] at h
    split at h
    · exact c_so (tst_ok a c X _ ok h).1
    · cases h
theorem chkI_ok : ∀ (o : II) (c : Cst) (X : Cx) (tg e : Expr), Ok gl cf c X → chkI c tg o e = true → PI X tg e (TIs X.K (evi gl cf o))
  | .seq a, c, X, tg, e, ok, h => by
    simp only [chkI] at h
    obtain ⟨h1, h2⟩ := and2 h
    exact i_seq (chk_ok a c X _ ok h2)
  | .rng1 a, c, X, tg, e, ok, h => by
    simp only [chkI] at h
    split at h
    · obtain ⟨h1, h⟩ := and2 h
      obtain ⟨h2, h⟩ := and2 h
      obtain ⟨h3, h4⟩ := and2 h
      cases of_decide_eq_true h1
      exact i_rng1 ok h2 h3 (chk_ok a c X _ ok h4)
    · cases h
  | .rng2 a b, c, X, tg, e, ok, h => by
    simp only [chkI] at h
    split at h
    · obtain ⟨h1, h⟩ := and2 h
      obtain ⟨h2, h⟩ := and2 h
      obtain ⟨h3, h⟩ := and2 h
      obtain ⟨h4, h⟩ := and2 h
      obtain ⟨h5, h6⟩ := and2 h
      cases of_decide_eq_true h1
      exact i_rng2 ok h2 h3 h4 (chk_ok a c X _ ok h5) (chk_ok b c X _ ok h6)
    · cases h
  | .zip a b, c, X, tg, e, ok, h => by
    simp only [chkI] at h
    split at h
    · obtain ⟨h1, h⟩ := and2 h
      obtain ⟨h2, h⟩ := and2 h
      obtain ⟨h3, h⟩ := and2 h
      obtain ⟨h4, h⟩ := and2 h
      obtain ⟨h0, h⟩ := and2 h
      obtain ⟨h5, h6⟩ := and2 h
      cases of_decide_eq_true h1
      cases tg with
      | Tuple l k p => exact i_zip ok h2 h3 h4 (chk_ok a c X _ ok h5) (chk_ok b c X _ ok h6)
      | _ => cases h0
    · cases h
theorem chkT_ok : ∀ (t : TG) (c : Cst) (X : Cx) (e : Expr), Ok gl cf c X → chkT c t e = true → PG X e (TGd X.K t.slots (asg gl cf t))
  | .nm i, c, X, e, ok, h => by
    simp only [chkT] at h
    split at h
    · simp only [TG.slots]
      exact g_nm ok h
    · cases h
  | .tp ts, c, X, e, ok, h => by
    simp only [chkT] at h
    split at h
    · obtain ⟨a1, a2, a3⟩ := chkTs_ok ts c X _ ok h
      simp only [TG.slots]
      exact g_tp ok a2 a3 a1
    · cases h
  | .ixs o i, c, X, e, ok, h => by
    simp only [chkT] at h
    split at h
    · obtain ⟨h1, h⟩ := and2 h
      obtain ⟨h2, h3⟩ := and2 h
      simp only [TG.slots]
      exact g_ixs h1 (chk_ok o c X _ ok h2) (chk_ok i c X _ ok h3)
    · cases h
theorem chkTs_ok : ∀ (t : TGs) (c : Cst) (X : Cx) (e : List Expr), Ok gl cf c X → chkTs c t e = true → PGs X e (TGds X.K t.slots (asgs gl cf t)) ∧ e.all plain = true ∧ e.length = t.len
  | .nil, c, X, e, ok, h => by
    simp only [chkTs] at h
    split at h
    · exact ⟨g_nil, rfl, rfl⟩
    · cases h
  | .cons t ts, c, X, e, ok, h => by
    simp only [chkTs] at h
    split at h
    · obtain ⟨h1, h⟩ := and2 h
      obtain ⟨h2, h3⟩ := and2 h
      obtain ⟨a1, a2, a3⟩ := chkTs_ok ts c X _ ok h3
      refine ⟨?_, by rw [List.all_cons, h1, a2]; rfl, by rw [List.length_cons, a3]; rfl⟩
      simp only [TGs.slots]
      exact g_cons h1 (chkT_ok t c X _ ok h2) a1
    · cases h
theorem tst_ok : ∀ (ir : IE) (c : Cst) (X : Cx) (e : Expr), Ok gl cf c X → chk c ir e = true → TOk gl cf X e ir
  | .and a b, c, X, e, ok, h => by
    simp only [chk] at h
    split at h
    · obtain ⟨h2, h3⟩ := and2 h
      exact .pw (t_and (tst_ok a c X _ ok h2).1 (pw_and1 (tst_ok b c X _ ok h3).1))
    · obtain ⟨h2, h3⟩ := and2 h
      exact .pw (t_and (tst_ok a c X _ ok h2).1 ((tst_ok b c X _ ok h3).2 rfl))
    · cases h
  | .or a b, c, X, e, ok, h => by
    simp only [chk] at h
    split at h
    · obtain ⟨h2, h3⟩ := and2 h
      exact .pw (t_or (tst_ok a c X _ ok h2).1 (pw_or1 (tst_ok b c X _ ok h3).1))
    · obtain ⟨h2, h3⟩ := and2 h
      exact .pw (t_or (tst_ok a c X _ ok h2).1 ((tst_ok b c X _ ok h3).2 rfl))
    · cases h
  | .not a, c, X, e, ok, h => by
    simp only [chk] at h
    split at h
    · exact .pt (t_not (tst_ok a c X _ ok h).1) rfl
    · cases h
  | .cmp o a b, c, X, e, ok, h => by
    simp only [chk] at h
    split at h
    · obtain ⟨h1, h⟩ := and2 h
      obtain ⟨h0, h⟩ := and2 h
      obtain ⟨h2, h3⟩ := and2 h
      cases of_decide_eq_true h1
      exact .pt (t_cmp ok h0 (chk_ok a c X _ ok h2) (chk_ok b c X _ ok h3)) rfl
    · cases h
  | .chain o o2 a b d, c, X, e, ok, h => by
    simp only [chk] at h
    split at h
    · obtain ⟨h1, h⟩ := and2 h
      obtain ⟨h1', h⟩ := and2 h
      obtain ⟨h0, h⟩ := and2 h
      obtain ⟨h2, h⟩ := and2 h
      obtain ⟨h3, h4⟩ := and2 h
      cases of_decide_eq_true h1
      cases of_decide_eq_true h1'
      exact .pt (t_chain ok h0 (chk_ok a c X _ ok h2) (chk_ok b c X _ ok h3) (chk_ok d c X _ ok h4)) rfl
    · cases h
  | .var i, c, X, e, ok, h => by
    simp only [chk] at h
    split at h
    · refine .pt ?_ rfl
      rw [tst_var]
      exact t_truth rfl (r_var ok h)
    · cases h
  | .bl i, c, X, e, ok, h => by
    simp only [chk] at h
    split at h
    · cases of_decide_eq_true h
      exact .pt t_bl rfl
    · cases h
  | .call f es, c, X, e, ok, h => by
    simp only [chk] at h
    split at h
    · obtain ⟨h1, h⟩ := and2 h
      obtain ⟨h2, h3⟩ := and2 h
      obtain ⟨a1, a2⟩ := chks_ok es c X _ ok h3
      refine .pt ?_ rfl
      rw [tst_call]
      exact t_truth rfl (r_call ok (by rw [h1, h2]; rfl) a2 a1)
    · cases h
  | .bi b es, c, X, e, ok, h => by
    simp only [chk] at h
    split at h
    · obtain ⟨h1, h⟩ := and2 h
      obtain ⟨h2, h3⟩ := and2 h
      obtain ⟨a1, a2⟩ := chks_ok es c X _ ok h3
      cases of_decide_eq_true h1
      refine .pt ?_ rfl
      rw [tst_bi]
      exact t_truth rfl (r_bi ok h2 a2 a1)
    · cases h
  | .isi a t, c, X, e, ok, h => by
    simp only [chk] at h
    split at h
    · obtain ⟨h1, h⟩ := and2 h
      obtain ⟨h2, h⟩ := and2 h
      obtain ⟨h3, h⟩ := and2 h
      obtain ⟨h4, h⟩ := and2 h
      obtain ⟨h5, h6⟩ := and2 h
      cases of_decide_eq_true h1
      cases of_decide_eq_true h3
      refine .pt ?_ rfl
      rw [tst_isi]
      exact t_truth rfl (r_isi ok h2 h4 h5 (chk_ok a c X _ ok h6))
    · cases h
  | .isis a ts, c, X, e, ok, h => by
    simp only [chk] at h
    split at h
    · obtain ⟨h1, h⟩ := and2 h
      obtain ⟨h2, h⟩ := and2 h
      obtain ⟨h3, h⟩ := and2 h
      obtain ⟨h4, h⟩ := and2 h
      obtain ⟨h5, h6⟩ := and2 h
      cases of_decide_eq_true h1
      refine .pt ?_ rfl
      rw [tst_isis]
      exact t_truth rfl (r_isis ok h2 h3 (of_decide_eq_true h4) h5 (chk_ok a c X _ ok h6))
    · cases h
  | .int _, _, _, _, _, _ => .fail fun _ => rfl
  | .non, _, _, _, _, _ => .fail fun _ => rfl
  | .str _, _, _, _, _, _ => .fail fun _ => rfl
  | .glo _, _, _, _, _, _ => .fail fun _ => rfl
  | .tup _, _, _, _, _, _ => .fail fun _ => rfl
  | .lst _, _, _, _, _, _ => .fail fun _ => rfl
  | .op _ _ _, _, _, _, _, _ => .fail fun _ => rfl
  | .neg _, _, _, _, _, _ => .fail fun _ => rfl
  | .ite _ _ _, _, _, _, _, _ => .fail fun _ => rfl
  | .ix _ _, _, _, _, _, _ => .fail fun _ => rfl
  | .sl _ _ _, _, _, _, _, _ => .fail fun _ => rfl
  | .rev _, _, _, _, _, _ => .fail fun _ => rfl
  | .me _ _ _, _, _, _, _, _ => .fail fun _ => rfl
  | .comp _ _ _ _ _, _, _, _, _, _ => .fail fun _ => rfl
  | .tupr _, _, _, _, _, _ => .fail fun _ => rfl
  | .lstr _, _, _, _, _, _ => .fail fun _ => rfl
end
end
end Dl
end

section
set_option Elab.async false
set_option linter.all false
set_option maxRecDepth 100000
set_option maxHeartbeats 2000000
/-! Dl: soundness of statements, defs, the program -/
namespace Dl
open PySem PySem.Spec PyProof.Rows L2
/-! ### which stores are swapped -/
def swT (c : Cst) (tg v : Expr) : Bool := match tg, v with
  | .Name y py, .ListComp _ _ scope vpos => decide (c.look y = some .local) && ((py.line == vpos.line) && !(scope.names.any fun (n, k) => n == y && (k == .local || k == .cell)))
  | _, _ => false
/-- the names that a tuple of targets stores -/
def swNames (c : Cst) (ts : List Expr) : List Str :=
  let line := (ts.head?.map (·.pos.line)).getD 0
  ts.filterMap fun
    | .Name id pos => if c.look id == some .local && pos.line == line then some id else none
    | _ => none
def tupFree (c : Cst) (ts vs : List Expr) : Bool := decide (vs.any (fun | .Starred .. => true | _ => false) = false) && ((swNames c ts).length != ts.length || ((swNames c ts).eraseDups.length != (swNames c ts).length || vs.all (foldedForSure 8)))
def asgOk (c : Cst) (tg v : Expr) : Bool := decide (c.sc.kind = .function) &&
  (match tg, v with
    | .Name y py, .ListComp _ _ scope vpos => !swT c tg v
    | .Name _ _, v => noComp v
    | .Tuple ts _ _, .Tuple vs _ _ => tupFree c ts vs
    | .Tuple _ _ _, v => noTup v
    | .Subscript _ _ _, _ => true
    | _, _ => false)
def parOk (c : Cst) (x y : Str) (px py : Pos) (e1 e2 : Expr) : Bool := decide (c.sc.kind = .function) && (decide (c.look x = some .local) && (decide (c.look y = some .local) && ((py.line == px.line) && (decide (x ≠ y) &&
  (plain e1 && (plain e2 && (!([e1, e2].all (foldedForSure 8)) && !([e1, e2].all (constantsAlone 8)))))))))
theorem blockKind_fn {env : PySem.Env} (h : env.scope.kind = .function) : env.blockKind = .function := by unfold Env.blockKind; rw [h]; rfl
theorem sw_false {c : Cst} {env : PySem.Env} {y : Str} {py : Pos} {elt : Expr} {gs : List Comprehension} {scope : Scope} {vpos : Pos} {l : Nat} (hs : env.scope = c.sc) (hk : c.sc.kind = .function)
    (h : (!swT c (.Name y py) (.ListComp elt gs scope vpos)) = true) : swapsWith (.ListComp elt gs scope vpos) (some (.Name y py)) l env = pure false := by
  have hb : env.blockKind = .function := blockKind_fn (by rw [hs]; exact hk)
  have hl : env.kindOf y = c.look y := by unfold Env.kindOf Cst.look; rw [hs]
  unfold swapsWith
  simp only [hb, hl, Expr.pos]
  show (pure _ : Sem Bool) = pure false
  congr 1
  unfold swT at h
  simp only [Bool.not_eq_true', Bool.and_eq_false_iff] at h
  rcases h with h | h | h
  · have : (c.look y == some NameKind.local) = false := by
      rw [beq_eq_false_iff_ne]
      exact of_decide_eq_false h
    rw [this]; simp
  · rw [h]; simp
  · rw [h]; simp
theorem sw_free {c : Cst} {env : PySem.Env} {ts vs : List Expr} {k k2 : Nat} {p p2 : Pos} (hs : env.scope = c.sc) (hk : c.sc.kind = .function) (h : tupFree c ts vs = true) : swappedStores [.Tuple ts k p] (.Tuple vs k2 p2) env = pure none := by
  have hl : ∀ y, env.kindOf y = c.look y := fun y => by unfold Env.kindOf Cst.look; rw [hs]
  obtain ⟨h1, h2⟩ := and2 h
  have h1 := of_decide_eq_true h1
  unfold swappedStores
  dsimp only
  by_cases c1 : (!(ts.length == 2 || ts.length == 3) || vs.length != ts.length || env.blockKind != .function) = true
  · rw [if_pos c1]
  · rw [if_neg c1]
    show (if (vs.any fun | .Starred .. => true | _ => false) = true then _ else _) = _
    rw [if_neg (by rw [h1]; exact Bool.false_ne_true)]
    generalize hn : List.filterMap _ ts = nm
    have en : nm = swNames c ts := by
      rw [← hn]
      unfold swNames
      congr 1
      funext e
      cases e <;> first | rfl | (simp only [hl])
    subst en
    clear hn
    by_cases c2 : ((swNames c ts).length != ts.length || (swNames c ts).eraseDups.length != (swNames c ts).length) = true
    · rw [if_pos c2]
    · rw [if_neg c2]
      have : vs.all (foldedForSure 8) = true := by
        rcases Bool.or_eq_true_iff.mp h2 with h2 | h2
        · exact absurd (Bool.or_eq_true_iff.mpr (.inl h2)) c2
        · rcases Bool.or_eq_true_iff.mp h2 with h2 | h2
          · exact absurd (Bool.or_eq_true_iff.mpr (.inr h2)) c2
          · exact h2
      show (if vs.all (foldedForSure 8) = true then _ else _) = _
      rw [if_pos this]
theorem par_sw {c : Cst} {env : PySem.Env} {x y : Str} {px py : Pos} {e1 e2 : Expr} {k k2 : Nat} {p p2 : Pos} (hs : env.scope = c.sc) (h : parOk c x y px py e1 e2 = true) :
    swappedStores [.Tuple [.Name x px, .Name y py] k p] (.Tuple [e1, e2] k2 p2) env = pure (some [x, y]) := by
  have hl : ∀ y, env.kindOf y = c.look y := fun y => by unfold Env.kindOf Cst.look; rw [hs]
  obtain ⟨h1, h⟩ := and2 h
  obtain ⟨h2, h⟩ := and2 h
  obtain ⟨h3, h⟩ := and2 h
  obtain ⟨h4, h⟩ := and2 h
  obtain ⟨h5, h⟩ := and2 h
  obtain ⟨h6, h⟩ := and2 h
  obtain ⟨h7, h⟩ := and2 h
  obtain ⟨h8, h9⟩ := and2 h
  have hb : env.blockKind = .function := blockKind_fn (by rw [hs]; exact of_decide_eq_true h1)
  have kx : env.kindOf x = some .local := (hl x).trans (of_decide_eq_true h2)
  have ky : env.kindOf y = some .local := (hl y).trans (of_decide_eq_true h3)
  have hne : x ≠ y := of_decide_eq_true h5
  have st : ([e1, e2].any fun | .Starred .. => true | _ => false) = false := by
    have q : ∀ e : Expr, plain e = true → (match e with | .Starred .. => true | _ => false) = false := fun e he => by cases e <;> first | rfl | cases he
    simp only [List.any_cons, List.any_nil, Bool.or_false]
    rw [q e1 h6, q e2 h7]
    rfl
  unfold swappedStores
  dsimp only
  rw [if_neg (by rw [hb]; intro z; cases z)]
  show (if ([e1, e2].any fun | .Starred .. => true | _ => false) = true then _ else _) = _
  rw [if_neg (by rw [st]; exact Bool.false_ne_true)]
  generalize hn : List.filterMap _ [Expr.Name x px, Expr.Name y py] = nm
  have en : nm = [x, y] := by
    rw [← hn]
    simp only [List.filterMap_cons, List.filterMap_nil, kx, ky, List.head?_cons, Option.map_some, Option.getD_some, Expr.pos, h4, beq_self_eq_true, Bool.and_self, if_true]
  subst en
  clear hn
  have ed : ([x, y] : List Str).eraseDups = [x, y] := by
    have : (y == x) = false := beq_eq_false_iff_ne.mpr (Ne.symm hne)
    simp [List.eraseDups_cons, this]
  rw [ed]
  show (if [e1, e2].all (foldedForSure 8) = true then _ else _) = _
  rw [if_neg (by intro z; rw [z] at h8; cases h8)]
  show (if [e1, e2].all (constantsAlone 8) = true then _ else _) = _
  rw [if_neg (by intro z; rw [z] at h9; cases h9)]

/-! ### statements -/
def PostF (K : PySem.W.Frag) (ρ : List Addr) (H : Hp) (D : Ends) (r : Fl × Sl) (S' : Store) : Prop := ∀ ρ' H', Step ρ H ρ' H' → WS K ρ' S' H' → match r.1 with
  | .nx => ∀ σ', EnvR K ρ' H' σ' r.2 → D.nx σ' H'
  | .rt d => ∀ v, Rep K ρ' H' v d → D.rt v H'
  | .bk => ∀ σ', EnvR K ρ' H' σ' r.2 → D.bk σ' H'
  | .ct => ∀ σ', EnvR K ρ' H' σ' r.2 → D.ct σ' H'
def TSd (K : PySem.W.Frag) (m : Sl → M (Fl × Sl)) : TS := fun D σ H => ∃ ρ S env, WS K ρ S H ∧ EnvR K ρ H σ env ∧ wp (m env) (PostF K ρ H D) S
theorem PostF.step {K : PySem.W.Frag} {ρ ρ' : List Addr} {H H' : Hp} {D : Ends} {r : Fl × Sl} {S : Store} (p : PostF K ρ H D r S) (s : Step ρ H ρ' H') : PostF K ρ' H' D r S := fun ρ2 H2 st w => p ρ2 H2 (s.trans st) w
/-- an assignment: a comprehension to a local name, or anything else -/
def asgOkX (c : Cst) (tg v : Expr) : Bool := asgOk c tg v || (swT c tg v && decide (c.sc.kind = .function))
mutual
def chkS (c : Cst) : IS → Stmt → Bool
  | .asg t e, s => match s with | .Assign [tg] v _ => asgOkX c tg v && (chkT c t tg && chk c e v) | _ => false
  | .par i j a b, s => match s with | .Assign [.Tuple [.Name x px, .Name y py] _ _] (.Tuple [e1, e2] _ _) _ => parOk c x y px py e1 e2 && (c.slot i x && (c.slot j y && (decide (i ≠ j) && (chk c a e1 && chk c b e2)))) | _ => false
  | .aug i o e, s => match s with | .AugAssign (.Name x _) o' e1 _ => decide (o = o') && (c.slot i x && (c.sto x && chk c e e1)) | _ => false
  | .expr e, s => match s with | .Expr e1 _ => noComp e1 && chk c e e1 | _ => false
  | .ret e, s => match s with | .Return (some e1) _ => chk c e e1 | _ => false
  | .retN, s => match s with | .Return none _ => true | _ => false
  | .ite t a b, s => match s with | .If e1 l1 l2 _ => chk c t e1 && (chkSs c a l1 && chkSs c b l2) | _ => false
  | .forr t it b, s => match s with | .For tg iter l [] _ => noSet iter && (chkI c tg it iter && (chkT c t tg && chkSs c b l)) | _ => false
  | .whl t b, s => match s with | .While e1 l [] _ => chk c t e1 && chkSs c b l | _ => false
  | .pass, s => match s with | .Pass _ => true | _ => false
  | .brk, s => match s with | .Break _ => true | _ => false
  | .cnt, s => match s with | .Continue _ => true | _ => false
def chkSs (c : Cst) : ISs → List Stmt → Bool
  | .nil, l => match l with | [] => true | _ => false
  | .cons s ss, l => match l with | s1 :: r => chkS c s s1 && chkSs c ss r | _ => false
end

section
variable {gl : Nat → D} {cf : Nat → List D → M D} {c : Cst} {X : Cx}
theorem swTgt {tg v : Expr} {l : Nat} {env : PySem.Env} (h : ∀ y p, tg ≠ .Name y p) : swapsWith v (some tg) l env = pure false := by
  cases v <;> first | rfl | (cases tg <;> first | rfl | exact absurd rfl (h _ _))
theorem asgOk_ {tg v : Expr} (ok : Ok gl cf c X) {l : Nat} (h : asgOk c tg v = true) : swapsWithSole [tg] v l X.env = pure false ∧ swappedStores [tg] v X.env = pure none ∧ plain tg = true := by
  unfold asgOk at h
  obtain ⟨hk, h⟩ := and2 h
  have hk := of_decide_eq_true hk
  show swapsWith v (some tg) l X.env = pure false ∧ _
  split at h
  · exact ⟨sw_false ok.sc hk h, swapped_none (.inl rfl) (fun _ _ z => by cases z), rfl⟩
  · exact ⟨swap_none h, swapped_none (.inr rfl) (fun _ _ z => by cases z), rfl⟩
  · exact ⟨swTgt (fun _ _ z => by cases z), sw_free ok.sc hk h, rfl⟩
  · exact ⟨swTgt (fun _ _ z => by cases z), swapped_none (.inl h) (fun _ _ z => by cases z), rfl⟩
  · exact ⟨swTgt (fun _ _ z => by cases z), swapped_none (.inr rfl) (fun _ _ z => by cases z), rfl⟩
  · cases h
theorem s_asg (ok : Ok gl cf c X) {t : TG} {e : IE} {tg v : Expr} {pos : Pos} {sl : List Nat} (h : asgOk c tg v = true) (hg : PG X tg (TGd X.K sl (asg gl cf t))) (he : PE X v (TD X.K (ev gl cf e))) : PS X (.Assign [tg] v pos) (TSd X.K (ex gl cf (.asg t e))) := by
  obtain ⟨h1, h2, h3⟩ := asgOk_ ok (l := pos.line) h
  refine PS.of (ps_asg he hg h1 h2 (by rw [asg_each h3]; rfl)) fun D σ H hh => ?_
  obtain ⟨ρ, S, env, w, en, q⟩ := hh
  simp only [ex, wp_bind, wp_pure] at q
  exact ⟨ρ, S, env, w, en, wp_mono q fun d S1 q ρ1 H1 v st1 w1 rv => ⟨ρ1, S1, env, d, w1, en.step w st1, rv, wp_mono q fun env' S2 p ρ2 H2 σ2 st2 w2 en2 _ => p ρ2 H2 (st1.trans st2) w2 σ2 en2⟩⟩
theorem s_asgC (ok : Ok gl cf c X) {t : TG} {e : IE} {tg v : Expr} {pos : Pos} (h : swT c tg v = true) (hk : c.sc.kind = .function) (ht : chkT c t tg = true) (he : chk c e v = true) : PS X (.Assign [tg] v pos) (TSd X.K (ex gl cf (.asg t e))) := by
  unfold swT at h
  split at h
  · rename_i y py elt gs scope vpos
    obtain ⟨h1, h⟩ := and2 h
    obtain ⟨h2, h3⟩ := and2 h
    have h1 := of_decide_eq_true h1
    have hy : X.env.scope.names.lookup y = some .local := by rw [ok.sc]; exact h1
    cases t with
    | nm i =>
      simp only [chkT] at ht
      obtain ⟨hs, _⟩ := and2 ht
      cases e with
      | comp t own it cond elt' =>
        simp only [chk] at he
        split at he
        · rename_i q1 q2 q3 q4 q5 q6 q7 q8
          cases q8
          obtain ⟨g1, he⟩ := and2 he
          obtain ⟨g2, he⟩ := and2 he
          obtain ⟨g3, he⟩ := and2 he
          obtain ⟨g4, he⟩ := and2 he
          obtain ⟨g5, he⟩ := and2 he
          obtain ⟨g6, he⟩ := and2 he
          obtain ⟨g7, he⟩ := and2 he
          obtain ⟨g8, g9⟩ := and2 he
          cases of_decide_eq_true g1
          refine PS.of (ps_setLc (i := i) (own := ownP c own) (g := TGd X.K t.slots (asg gl cf t)) (tt := TB X.K (evc gl cf cond)) (te := TD X.K (ev gl cf elt')) ok.calm ok.nd (ok.slot hs) hy
            (sw_true (by rw [ok.sc]; exact hk) hy h2 (by simpa using h3)) (chkI_ok it c X _ _ ok g6) (by rw [ok.N, ok.sc]; exact blkOk_by g3)
            (fun s H C cl fp => chkT_ok t _ _ _ (ok.blk _ s H C cl fp) g7) (fun s H C cl fp => chkc_ok cond _ _ _ (ok.blk _ s H C cl fp) g8) (fun s H C cl fp => chk_ok elt' _ _ _ (ok.blk _ s H C cl fp) g9) (folded_ok g2)) fun D σ H hh => ?_
          refine r_comp ok (ownP_snd c own) (slots_in g5) (chkI_ok it c X _ _ ok g6) ?_
          obtain ⟨ρ, S, env, w, en, q⟩ := hh
          simp only [ex, asg, wp_bind, wp_pure, wp_need] at q
          exact ⟨ρ, S, env, w, en, wp_mono q fun d S1 q ρ1 H1 v st1 w1 rv => q.2 ρ1 H1 st1 w1 _ ((en.step w st1).set rv)⟩
        · cases he
      | _ => simp only [chk] at he; cases he
    | _ => simp only [chkT] at ht; cases ht
  · cases h
theorem s_par (ok : Ok gl cf c X) {i j : Nat} {a b : IE} {x y : Str} {px py p p2 pos : Pos} {k k2 : Nat} {e1 e2 : Expr} (h : parOk c x y px py e1 e2 = true) (hi : c.slot i x = true) (hj : c.slot j y = true) (hij : i ≠ j) (h1 : PE X e1 (TD X.K (ev gl cf a))) (h2 : PE X e2 (TD X.K (ev gl cf b))) :
    PS X (.Assign [.Tuple [.Name x px, .Name y py] k p] (.Tuple [e1, e2] k2 p2) pos) (TSd X.K (ex gl cf (.par i j a b))) := by
  have hw := par_sw (k := k) (k2 := k2) (p := p) (p2 := p2) ok.sc h
  unfold parOk at h
  obtain ⟨g1, h⟩ := and2 h
  obtain ⟨g2, h⟩ := and2 h
  obtain ⟨g3, h⟩ := and2 h
  obtain ⟨g4, h⟩ := and2 h
  obtain ⟨g5, h⟩ := and2 h
  obtain ⟨g6, h⟩ := and2 h
  obtain ⟨g7, h⟩ := and2 h
  refine PS.of (ps_par ok.calm ok.nd (ok.slot hi) (ok.slot hj) hij (by rw [ok.sc]; exact of_decide_eq_true g2) (by rw [ok.sc]; exact of_decide_eq_true g3) (pa_cons h1 (pa_cons h2 pa_nil (star_plain g7)) (star_plain g6)) hw) fun D σ H hh => ?_
  obtain ⟨ρ, S, env, w, en, q⟩ := hh
  simp only [ex, wp_bind, wp_pure, wp_need] at q
  refine ⟨ρ, S, env, w, en, wp_mono q fun d S1 q ρ1 H1 v st1 w1 rv => ⟨ρ1, S1, env, w1, en.step w st1, wp_mono q fun d2 S2 q ρ2 H2 v2 st2 w2 rv2 => ?_⟩⟩
  exact ⟨v, v2, rfl, q.2 ρ2 H2 (st1.trans st2) w2 _ ((((en.step w st1).step w1 st2).set (rv.step w1 st2)).set rv2)⟩
def rAugD (K : PySem.W.Frag) (o : Operator) : TIp := fun v u H Q => ∃ ρ S x y, WS K ρ S H ∧ Rep K ρ H v x ∧ Rep K ρ H u y ∧ augOk o x y = true ∧ wp (bop o x y) (Post K ρ H Q) S
theorem aug_ok (o : Operator) : PIp X o (rAugD X.K o) := by
  intro pins s σ H v u vv uu Q I rv ru h
  obtain ⟨ρ, S, x, y, w, rx, ry, ha, h⟩ := h
  unfold augOk at ha
  split at ha
  · cases rx.int_; cases ry.int_
    exact ip_add pins s σ H _ _ _ _ Q I rv ru ⟨_, _, rfl, rfl, Post.int w h⟩
  · cases rx.int_; cases ry.int_
    exact ip_sub pins s σ H _ _ _ _ Q I rv ru ⟨_, _, rfl, rfl, Post.int w h⟩
  · cases ha
theorem s_aug (ok : Ok gl cf c X) {i : Nat} {o : Operator} {e : IE} {x : Str} {p pos : Pos} {e1 : Expr} (hi : c.slot i x = true) (hs : c.sto x = true) (h1 : PE X e1 (TD X.K (ev gl cf e))) : PS X (.AugAssign (.Name x p) o e1 pos) (TSd X.K (ex gl cf (.aug i o e))) := by
  obtain ⟨l1, l2⟩ := ok.loc hs
  refine PS.of (ps_aug ok.nd (ok.slot hi) l1 h1 (aug_ok o) l2) fun D σ H hh => ?_
  obtain ⟨ρ, S, env, w, en, q⟩ := hh
  simp only [ex] at q
  split at q
  · rename_i x hx
    obtain ⟨v, hv, rv⟩ := en.at_ i x hx
    simp only [wp_bind, wp_need, wp_pure] at q
    refine ⟨v, hv, ρ, S, env, w, en, wp_mono q fun y S1 q ρ1 H1 u st1 w1 ru => ?_⟩
    refine ⟨ρ1, S1, x, y, w1, rv.step w st1, ru, q.1, wp_mono q.2 fun z S2 q ρ2 H2 t st2 w2 rt => ?_⟩
    exact q ρ2 H2 (st1.trans st2) w2 _ ((((en.step w st1).step w1 st2)).set rt)
  · exact q.elim
theorem s_for (ok : Ok gl cf c X) {t : TG} {it : II} {b : ISs} {tg iter : Expr} {l : List Stmt} {pos : Pos} {sl : List Nat} (hn : noSet iter = true) (hi : PI X tg iter (TIs X.K (evi gl cf it))) (hg : PG X tg (TGd X.K sl (asg gl cf t))) (hb : PSs X l (TSd X.K (exs gl cf b))) :
    PS X (.For tg iter l [] pos) (TSd X.K (ex gl cf (.forr t it b))) := by
  refine PS.of (ps_for (by rw [ok.xe]; exact PassesOwn.never) ok.calm hi hg hb (folded_ok hn)) fun D σ H hh => ?_
  obtain ⟨ρ, S, env, w, en, h⟩ := hh
  simp only [ex, wp_bind] at h
  refine ⟨ρ, S, env, w, en, wp_mono h fun s S1 h ρ1 H1 J st1 w1 src => ?_⟩
  have en1 := en.step w st1
  refine ⟨fun i m σ' H' => ∃ ρ' S' env', WS X.K ρ' S' H' ∧ EnvR X.K ρ' H' σ' env' ∧ Step ρ1 H1 ρ' H' ∧ m = s.items.length - i ∧
    wp (forL s (fun d e => do let e1 ← asg gl cf t d e; exs gl cf b e1) (s.items.drop i) env') (PostF X.K ρ H D) S', ⟨_, ρ1, S1, env, w1, en1, .refl, rfl, ?_⟩, ?_⟩
  · rw [List.drop_zero]
    exact h
  rintro i m σ2 H2 ⟨ρ2, S2, env2, w2, en2, st2, rfl, h⟩
  cases hd : s.items.drop i with
  | nil =>
    rw [hd] at h
    simp only [forL, wp_bind, wp_pure] at h
    obtain ⟨gd, h⟩ := grd_wp h
    exact .inl ⟨(src i ρ2 S2 H2 st2 w2 gd).2 (List.drop_eq_nil_iff.mp hd), h ρ2 H2 (st1.trans st2) w2 σ2 en2⟩
  | cons d ds =>
    rw [hd] at h
    obtain ⟨hid, hdr⟩ := drop_cons hd
    have hil : i < s.items.length := (List.getElem?_eq_some_iff.mp hid).1
    simp only [forL, wp_bind] at h
    obtain ⟨gd, h⟩ := grd_wp h
    obtain ⟨go, yl⟩ := (src i ρ2 S2 H2 st2 w2 gd).1 d hid
    refine .inr ⟨go, fun σ' H' => ∃ ρ' S' env', WS X.K ρ' S' H' ∧ EnvR X.K ρ' H' σ' env' ∧ Step ρ1 H1 ρ' H' ∧
      wp (forL s (fun d e => do let e1 ← asg gl cf t d e; exs gl cf b e1) (s.items.drop (i + 1)) env') (PostF X.K ρ H D) S', fun σ' H' hN => ?_, fun x H3 hy => ?_⟩
    · obtain ⟨ρ', S', env', a1, a2, a3, a4⟩ := hN
      exact ⟨s.items.length - (i + 1), by omega, ρ', S', env', a1, a2, a3, rfl, a4⟩
    · rw [hdr]
      obtain ⟨sty, wy, rx⟩ := yl x H3 hy
      refine ⟨ρ2, S2, env2, d, wy, en2.step w2 sty, rx, wp_mono h fun e1 S3 h ρ3 H4 σ3 st4 w4 en4 _ => ?_⟩
      have k4 : Step ρ1 H1 ρ3 H4 := (st2.trans sty).trans st4
      refine ⟨ρ3, S3, e1, w4, en4, wp_mono h fun r S4 h ρ4 H5 st5 w5 => ?_⟩
      obtain ⟨fl, e2⟩ := r
      cases fl with
      | nx => exact fun σ' en' => ⟨ρ4, S4, e2, w5, en', k4.trans st5, h⟩
      | ct => exact fun σ' en' => ⟨ρ4, S4, e2, w5, en', k4.trans st5, h⟩
      | bk => exact fun σ' en' => h ρ4 H5 ((st1.trans k4).trans st5) w5 σ' en'
      | rt v => exact fun u ru => h ρ4 H5 ((st1.trans k4).trans st5) w5 u ru
theorem s_whl (ok : Ok gl cf c X) {t : IE} {b : ISs} {e1 : Expr} {l : List Stmt} {pos : Pos} (h1 : PT X e1 (TB X.K (tst gl cf t))) (hb : PSs X l (TSd X.K (exs gl cf b))) : PS X (.While e1 l [] pos) (TSd X.K (ex gl cf (.whl t b))) := by
  refine PS.of (ps_while (by rw [ok.xe]; exact PassesOwn.never) h1 hb) fun D σ H hh => ?_
  obtain ⟨ρ, S, env, w, en, h⟩ := hh
  simp only [ex] at h
  refine ⟨fun m σ' H' => ∃ ρ' S' env', WS X.K ρ' S' H' ∧ EnvR X.K ρ' H' σ' env' ∧ Step ρ H ρ' H' ∧ wp (whlL (fun e => tst gl cf t e) (fun e => exs gl cf b e) m env') (PostF X.K ρ H D) S', ⟨bigN, ρ, S, env, w, en, .refl, h⟩, ?_⟩
  rintro m σ1 H1 ⟨ρ1, S1, env1, w1, en1, st1, h⟩
  cases m with
  | zero => exact h.elim
  | succ m =>
    simp only [whlL, wp_bind] at h
    refine ⟨ρ1, S1, env1, w1, en1, wp_mono h fun k S2 h ρ2 H2 st2 w2 => ?_⟩
    have en2 := en1.step w1 st2
    cases k with
    | true =>
      simp only [if_true, wp_bind] at h ⊢
      refine ⟨fun σ' H' => ∃ ρ' S' env', WS X.K ρ' S' H' ∧ EnvR X.K ρ' H' σ' env' ∧ Step ρ H ρ' H' ∧ wp (whlL (fun e => tst gl cf t e) (fun e => exs gl cf b e) m env') (PostF X.K ρ H D) S', fun σ' H' hN => ⟨m, Nat.lt_succ_self m, hN⟩, ?_⟩
      refine ⟨ρ2, S2, env1, w2, en2, wp_mono h fun r S3 h ρ3 H3 st3 w3 => ?_⟩
      obtain ⟨fl, e2⟩ := r
      have k3 := (st1.trans st2).trans st3
      cases fl with
      | nx => exact fun σ' en' => ⟨ρ3, S3, e2, w3, en', k3, h⟩
      | ct => exact fun σ' en' => ⟨ρ3, S3, e2, w3, en', k3, h⟩
      | bk => exact fun σ' en' => h ρ3 H3 k3 w3 σ' en'
      | rt v => exact fun u ru => h ρ3 H3 k3 w3 u ru
    | false =>
      simp only [Bool.false_eq_true, if_false, wp_pure] at h ⊢
      exact h ρ2 H2 (st1.trans st2) w2 σ1 en2
mutual
theorem chkS_ok (ok : Ok gl cf c X) : ∀ (s : IS) (st : Stmt), chkS c s st = true → PS X st (TSd X.K (ex gl cf s))
  | .asg t e, st, h => by
    simp only [chkS] at h
    split at h
    · obtain ⟨h1, h⟩ := and2 h
      obtain ⟨h2, h3⟩ := and2 h
      rcases Bool.or_eq_true_iff.mp h1 with h1 | h1
      · exact s_asg ok h1 (chkT_ok t c X _ ok h2) (chk_ok e c X _ ok h3)
      · obtain ⟨g1, g2⟩ := and2 h1
        exact s_asgC ok g1 (of_decide_eq_true g2) h2 h3
    · cases h
  | .par i j a b, st, h => by
    simp only [chkS] at h
    split at h
    · obtain ⟨h1, h⟩ := and2 h
      obtain ⟨h2, h⟩ := and2 h
      obtain ⟨h3, h⟩ := and2 h
      obtain ⟨h4, h⟩ := and2 h
      obtain ⟨h5, h6⟩ := and2 h
      exact s_par ok h1 h2 h3 (of_decide_eq_true h4) (chk_ok a c X _ ok h5) (chk_ok b c X _ ok h6)
    · cases h
  | .aug i o e, st, h => by
    simp only [chkS] at h
    split at h
    · obtain ⟨h1, h⟩ := and2 h
      obtain ⟨h2, h⟩ := and2 h
      obtain ⟨h3, h4⟩ := and2 h
      cases of_decide_eq_true h1
      exact s_aug ok h2 h3 (chk_ok e c X _ ok h4)
    · cases h
  | .expr e, st, h => by
    simp only [chkS] at h
    split at h
    · obtain ⟨h1, h2⟩ := and2 h
      refine PS.of (ps_expr (chk_ok e c X _ ok h2) (swap_none h1)) fun D σ H hh => ?_
      obtain ⟨ρ, S, env, w, en, q⟩ := hh
      simp only [ex, wp_bind, wp_pure] at q
      exact ⟨ρ, S, env, w, en, wp_mono q fun d S1 q ρ1 H1 v st1 w1 rv => q ρ1 H1 st1 w1 σ (en.step w st1)⟩
    · cases h
  | .ret e, st, h => by
    simp only [chkS] at h
    split at h
    · refine PS.of (ps_ret (chk_ok e c X _ ok h)) fun D σ H hh => ?_
      obtain ⟨ρ, S, env, w, en, q⟩ := hh
      simp only [ex, wp_bind, wp_pure] at q
      exact ⟨ρ, S, env, w, en, wp_mono q fun d S1 q ρ1 H1 v st1 w1 rv => q ρ1 H1 st1 w1 v rv⟩
    · cases h
  | .retN, st, h => by
    simp only [chkS] at h
    split at h
    · refine PS.of ps_retN fun D σ H hh => ?_
      obtain ⟨ρ, S, env, w, en, q⟩ := hh
      exact q ρ H .refl w _ .non
    · cases h
  | .ite t a b, st, h => by
    simp only [chkS] at h
    split at h
    · obtain ⟨h1, h⟩ := and2 h
      obtain ⟨h2, h3⟩ := and2 h
      refine PS.of (ps_if (tst_ok t c X _ ok h1).1 (chkSs_ok ok a _ h2) (chkSs_ok ok b _ h3)) fun D σ H hh => ?_
      obtain ⟨ρ, S, env, w, en, q⟩ := hh
      simp only [ex, wp_bind] at q
      refine ⟨ρ, S, env, w, en, wp_mono q fun k S1 q ρ1 H1 st1 w1 => ?_⟩
      cases k with
      | true =>
        simp only [if_true] at q ⊢
        exact ⟨ρ1, S1, env, w1, en.step w st1, wp_mono q fun r S2 p => p.step st1⟩
      | false =>
        simp only [Bool.false_eq_true, if_false] at q ⊢
        exact ⟨ρ1, S1, env, w1, en.step w st1, wp_mono q fun r S2 p => p.step st1⟩
    · cases h
  | .forr t it b, st, h => by
    simp only [chkS] at h
    split at h
    · obtain ⟨h1, h⟩ := and2 h
      obtain ⟨h2, h⟩ := and2 h
      obtain ⟨h3, h4⟩ := and2 h
      exact s_for ok h1 (chkI_ok it c X _ _ ok h2) (chkT_ok t c X _ ok h3) (chkSs_ok ok b _ h4)
    · cases h
  | .whl t b, st, h => by
    simp only [chkS] at h
    split at h
    · obtain ⟨h1, h2⟩ := and2 h
      exact s_whl ok (tst_ok t c X _ ok h1).1 (chkSs_ok ok b _ h2)
    · cases h
  | .pass, st, h => by
    simp only [chkS] at h
    split at h
    · refine PS.of ps_pass fun D σ H hh => ?_
      obtain ⟨ρ, S, env, w, en, q⟩ := hh
      exact q ρ H .refl w σ en
    · cases h
  | .brk, st, h => by
    simp only [chkS] at h
    split at h
    · refine PS.of ps_break fun D σ H hh => ?_
      obtain ⟨ρ, S, env, w, en, q⟩ := hh
      exact q ρ H .refl w σ en
    · cases h
  | .cnt, st, h => by
    simp only [chkS] at h
    split at h
    · refine PS.of ps_continue fun D σ H hh => ?_
      obtain ⟨ρ, S, env, w, en, q⟩ := hh
      exact q ρ H .refl w σ en
    · cases h
theorem chkSs_ok (ok : Ok gl cf c X) : ∀ (s : ISs) (st : List Stmt), chkSs c s st = true → PSs X st (TSd X.K (exs gl cf s))
  | .nil, st, h => by
    simp only [chkSs] at h
    split at h
    · refine PSs.of pss_nil fun D σ H hh => ?_
      obtain ⟨ρ, S, env, w, en, q⟩ := hh
      exact q ρ H .refl w σ en
    · cases h
  | .cons s ss, st, h => by
    simp only [chkSs] at h
    split at h
    · obtain ⟨h1, h2⟩ := and2 h
      refine PSs.of (pss_cons (chkS_ok ok s _ h1) (chkSs_ok ok ss _ h2)) fun D σ H hh => ?_
      obtain ⟨ρ, S, env, w, en, q⟩ := hh
      simp only [exs, wp_bind] at q
      refine ⟨ρ, S, env, w, en, wp_mono q fun r S1 q ρ1 H1 st1 w1 => ?_⟩
      obtain ⟨fl, e2⟩ := r
      cases fl with
      | nx => exact fun σ' en' => ⟨ρ1, S1, e2, w1, en', wp_mono q fun r S2 p => p.step st1⟩
      | ct => exact fun σ' en' => q ρ1 H1 st1 w1 σ' en'
      | bk => exact fun σ' en' => q ρ1 H1 st1 w1 σ' en'
      | rt v => exact fun u ru => q ρ1 H1 st1 w1 u ru
    · cases h
end
end
end Dl
end

section
set_option Elab.async false
set_option linter.all false
set_option maxRecDepth 100000
set_option maxHeartbeats 2000000
/-! Dl: defs, the program, the law -/
namespace Dl
open PySem PySem.Spec PyProof.Rows L2
/-- one def of the text with its term: its slots, its term -/
structure Pd where
  d : He.DefD
  N : List Str
  fd : Fd
def Pd.ps (p : Pd) : List Str := p.N.take p.fd.np
def Pd.cst (G : List (Str × GI)) (p : Pd) : Cst := ⟨p.N, p.d.scope, fun _ => true, G⟩
def nodupB : List Str → Bool
  | [] => true
  | x :: xs => !xs.contains x && nodupB xs
theorem nodupB_ok : ∀ {l : List Str}, nodupB l = true → l.Nodup
  | [], _ => List.nodup_nil
  | x :: xs, h => by
    obtain ⟨h1, h2⟩ := and2 (show (!xs.contains x && nodupB xs) = true from h)
    exact List.nodup_cons.mpr ⟨by simpa using h1, nodupB_ok h2⟩
def Pd.ok (G : List (Str × GI)) (p : Pd) : Bool :=
  decide (p.d.scope.kind = .function) && (decide (p.d.scope.isCoroutine = false) && (decide (p.d.scope.isGenerator = false) && (nodupB p.N && (decide (p.fd.np ≤ p.N.length) && (decide (p.N.length = p.fd.nl) &&
    ((p.ps.all fun x => decide (p.d.scope.names.lookup x = some .local) || decide (p.d.scope.names.lookup x = some .cell)) && ((p.d.scope.names.all fun y => decide (y.2 ≠ .free)) && (p.d.dfl.isEmpty && (p.d.kwd.isEmpty && chkSs (p.cst G) p.fd.body p.d.body)))))))))
theorem start_env {K : PySem.W.Frag} {ρ : List Addr} {H : Hp} {N : List Str} {nl : Nat} {vs : List V} {ds : List D} (hN : N.length = nl) (r : Reps K ρ H vs ds) : EnvR K ρ H (L2.start N vs) (startE nl ds) := by
  unfold L2.start startE
  refine ⟨by rw [List.length_append, List.length_append, List.length_map, List.length_map, List.length_replicate, List.length_replicate, r.length, hN], fun i d h => ?_⟩
  by_cases hi : i < ds.length
  · rw [List.getElem?_append_left (by simpa using hi), List.getElem?_map] at h
    cases e : ds[i]? with
    | none => rw [e] at h; cases h
    | some d' =>
      rw [e] at h
      cases h
      obtain ⟨v, e1, rv⟩ := r.get e
      refine ⟨v, ?_, rv⟩
      rw [List.getElem?_append_left (by rw [List.length_map, r.length]; exact hi), List.getElem?_map, e1]
      rfl
  · rw [List.getElem?_append_right (by simpa using hi), List.getElem?_replicate] at h
    split at h <;> cases h
section
variable {P : Program} {w : World} {K : PySem.W.Frag} {mg : Str → Option Value} {base : Heap} {gl : Nat → D} {G : List (Str × GI)}
/-- the module's names -/
def GlOk (K : PySem.W.Frag) (mg : Str → Option Value) (gl : Nat → D) (ps : List Pd) (G : List (Str × GI)) : Prop := ∀ x g, G.lookup x = some g → match g with
  | .free => mg x = none
  | .bt id => mg x = some (.builtin id)
  | .cst g => ∃ u v, mg x = some u ∧ RelV v u ∧ ∀ ρ H, Rep K ρ H v (gl g)
  | .fn i => ∃ p, ps[i]? = some p ∧ mg x = some (.ref (He.fAd K p.d.at_))
  | .other => True
theorem fns_ok {ps : List Pd} {fds : Nat → FuncData} (hG : GlOk K mg gl ps G) (hok : ∀ p ∈ ps, p.ok G = true)
    (hF : ∀ (i : Nat) (p : Pd), ps[i]? = some p → FunD K p.d.name p.d.qual p.d.params p.d.body p.d.scope (p.d.dvs K) (p.d.kws K) (He.fAd K p.d.at_) (fds i))
    (hB : ∀ (i : Nat) (p : Pd), ps[i]? = some p → Binds K (fds i) p.ps []) :
    ∀ (n i : Nat) (p : Pd), ps[i]? = some p → FnOk P w K mg base CX0 n (He.fAd K p.d.at_) (fds i) p.ps (spD K (call gl (ps.map (·.fd)) n i))
  | 0, i, p, hp => ⟨fun vs H Q E h => by obtain ⟨ρ, S, ds, _, _, q⟩ := h; exact q.elim, fun A outer s H args us vs Q E hr he hb hv hs => by obtain ⟨ρ, S, ds, _, _, q⟩ := hs; exact q.elim⟩
  | n + 1, i, p, hp => by
    have hk := hok p (List.mem_of_getElem? hp)
    unfold Pd.ok at hk
    obtain ⟨k1, hk⟩ := and2 hk
    obtain ⟨k2, hk⟩ := and2 hk
    obtain ⟨k3, hk⟩ := and2 hk
    obtain ⟨k4, hk⟩ := and2 hk
    obtain ⟨k5, hk⟩ := and2 hk
    obtain ⟨k6, hk⟩ := and2 hk
    obtain ⟨k7, hk⟩ := and2 hk
    obtain ⟨k8, hk⟩ := and2 hk
    obtain ⟨k9, hk⟩ := and2 hk
    obtain ⟨k10, k11⟩ := and2 hk
    have k1 := of_decide_eq_true k1
    have k5 := of_decide_eq_true k5
    have k6 := of_decide_eq_true k6
    have hpl : p.ps.length = p.fd.np := by unfold Pd.ps; rw [List.length_take]; omega
    have hfs : (ps.map (·.fd))[i]? = some p.fd := by rw [List.getElem?_map, hp]; rfl
    have S : FnScope p.N p.ps p.d.scope := {
      kind := k1
      co := of_decide_eq_true k2
      gen := of_decide_eq_true k3
      nd := nodupB_ok k4
      pre := by rw [hpl]; rfl
      par := fun x hx => by
        have := List.all_eq_true.mp k7 x hx
        rcases Bool.or_eq_true_iff.mp this with q | q
        · exact .inl (of_decide_eq_true q)
        · exact .inr (of_decide_eq_true q)
      nofree := fun y hy => of_decide_eq_true (List.all_eq_true.mp k8 y hy) }
    have run : ∀ {ds : List D} {R : D → Store → Prop} {St : Store}, wp (call gl (ps.map (·.fd)) (n + 1) i ds) R St → ds.length = p.fd.np ∧ wp (exs gl (call gl (ps.map (·.fd)) n) p.fd.body (startE p.fd.nl ds)) (fun r S' => wp (ofFl r) R S') St := fun {ds R St} h => by
      unfold call at h
      rw [hfs] at h
      dsimp only at h
      by_cases hl : ds.length = p.fd.np
      · rw [if_pos hl, wp_bind] at h
        exact ⟨hl, h⟩
      · rw [if_neg hl] at h
        exact h.elim
    refine (hF i p hp).ok S (fun vs H Q E h => ?_) fun cdv A outer s H vs Q E hr h => ⟨TSd K (exs gl (call gl (ps.map (·.fd)) n) p.fd.body), PSs.nox ?_, ?_⟩
    · obtain ⟨ρ, S, ds, w', r, q⟩ := h
      rw [r.length, (run q).1, hpl]
    · refine chkSs_ok (c := p.cst G) (X := (cxOf CX0 P w K mg base p.N p.d.qual p.d.scope (He.fAd K p.d.at_) cdv A outer s H E).nox) ?_ _ _ k11
      refine ⟨rfl, S.nd, rfl, fun _ _ => rfl, rfl, rfl, ?_, fun x g hx => ?_⟩
      · have := hr.un
        show (A.deeper _).units + 65 < cLine
        omega
      · have q := hG x g hx
        cases g with
        | free => exact q
        | bt id => exact q
        | cst g => exact q
        | other => trivial
        | fn j =>
          obtain ⟨p', e1, e2⟩ := q
          exact ⟨_, fds j, p'.ps, n, e2, (hF j p' e1).kp, hB j p' e1, hr, fns_ok hG hok hF hB n j p' e1⟩
    · obtain ⟨ρ, St, ds, w', r, q⟩ := h
      obtain ⟨hl, q⟩ := run q
      refine ⟨ρ, St, _, w', start_env k6 r, wp_mono q fun f S' q ρ' H' st w2 => ?_⟩
      obtain ⟨fl, e⟩ := f
      cases fl with
      | nx => exact fun σ' _ => q ρ' H' _ st w2 .non
      | rt d => exact fun v rv => q ρ' H' v st w2 rv
      | bk => exact q.elim
      | ct => exact q.elim
end
/-! ### the law -/
theorem only_sqf {K : PySem.W.Frag} {H : Hp} {a : Addr} {xs : List V} (h : Only H) (s : SqL K H a xs) : SqF K H a xs := by
  rcases s with (s | s) | s
  · rcases h a with q | ⟨o, ys, q⟩
    · rw [q] at s; cases s
    · rw [q] at s; cases s
  · exact .inl s
  · exact .inr s
theorem ws_nil {K : PySem.W.Frag} {H : Hp} : WS K [] [] H := ⟨List.nodup_nil, rfl, fun i a o h => by simp at h⟩
/-- the law's own run in data gives True -/
def LawRuns (gl : Nat → D) (fs : List Fd) (k li : Nat) : Prop := ∀ ns : List Int, ns.length ≤ 63 → wp (call gl fs k li [.ro (ns.map .int)]) (fun d _ => d = .bl true) []
theorem law_sp {K : PySem.W.Frag} {gl : Nat → D} {fs : List Fd} {k li : Nat} (h : LawRuns gl fs k li) (H : Hp) (a : Addr) (ns : List Int) (hl : ns.length ≤ 63) (ho : Only H) (hs : SqL K H a (ns.map V.int)) :
    spD K (call gl fs k li) [.ref a] H (fun v _ => v = .bl true) fun _ _ _ => False := by
  refine ⟨[], [], [.ro (ns.map .int)], ws_nil, .cons (.ro (only_sqf ho hs) (Reps.ofInts ns)) .nil, wp_mono (h ns hl) fun d S q ρ' H' v st w r => ?_⟩
  subst q
  cases r
  rfl

/-! ### the head: what the top leaves, by one look -/
mutual
/-- a value of the written part stands for a datum -/
def datB (K : PySem.W.Frag) : D → Value → Bool
  | .non, v => v == .none
  | .bl b, v => match v with | .bool c => b == c | _ => false
  | .int i, v => match v with | .int j _ => decide (i = j) | _ => false
  | .str x, v => match v with | .str y _ => decide (x = y) | _ => false
  | .tup ds, v => match v with
    | .ref a => match K.lookup a with
      | some ⟨.type c, _, .seq its _, _⟩ => decide (c = "tuple") && (decide (its.size ≤ sizeLine) && datsB K ds its.toList)
      | _ => false
    | _ => false
  | .ref _, _ => false
  | .ro _, _ => false
def datsB (K : PySem.W.Frag) : List D → List Value → Bool
  | [], vs => vs.isEmpty
  | d :: ds, vs => match vs with | v :: vs => datB K d v && datsB K ds vs | [] => false
end
mutual
theorem datB_ok {K : PySem.W.Frag} : ∀ (d : D) (u : Value), datB K d u = true → ∃ v, RelV v u ∧ ∀ ρ H, Rep K ρ H v d
  | .non, u, h => ⟨.non, eq_of_beq h, fun _ _ => .non⟩
  | .bl b, u, h => by
    cases u <;> simp only [datB] at h <;> try (cases h; done)
    cases eq_of_beq h
    exact ⟨.bl b, rfl, fun _ _ => .bl _⟩
  | .int b, u, h => by
    cases u <;> simp only [datB] at h <;> try (cases h; done)
    cases of_decide_eq_true h
    exact ⟨.int b, ⟨_, rfl⟩, fun _ _ => .int _⟩
  | .str b, u, h => by
    cases u <;> simp only [datB] at h <;> try (cases h; done)
    cases of_decide_eq_true h
    exact ⟨.str b, ⟨_, rfl⟩, fun _ _ => .str _⟩
  | .tup ds, u, h => by
    cases u <;> simp only [datB] at h <;> try (cases h; done)
    rename_i a
    split at h
    · rename_i c od its n sl e
      obtain ⟨h1, h⟩ := and2 h
      obtain ⟨h2, h3⟩ := and2 h
      obtain ⟨vs, r, k⟩ := datsB_ok ds _ h3
      refine ⟨.ref a, rfl, fun ρ H => .tup (xs := vs) (.inr ⟨_, its, n, e, congrArg Value.type (of_decide_eq_true h1), rfl, of_decide_eq_true h2, r⟩) (k ρ H)⟩
    · cases h
  | .ref _, u, h => by simp only [datB] at h; cases h
  | .ro _, u, h => by simp only [datB] at h; cases h
theorem datsB_ok {K : PySem.W.Frag} : ∀ (d : List D) (u : List Value), datsB K d u = true → ∃ v, Vals v u ∧ ∀ ρ H, Reps K ρ H v d
  | [], u, h => by
    cases u with
    | nil => exact ⟨[], .nil, fun _ _ => .nil⟩
    | cons _ _ => cases h
  | d :: ds, u, h => by
    cases u with
    | nil => simp only [datsB] at h; cases h
    | cons x xs =>
      simp only [datsB] at h
      obtain ⟨h1, h2⟩ := and2 h
      obtain ⟨v, r, k⟩ := datB_ok d x h1
      obtain ⟨vs, rs, ks⟩ := datsB_ok ds xs h2
      exact ⟨v :: vs, .cons r rs, fun ρ H => .cons (k ρ H) (ks ρ H)⟩
end
def glB (K : PySem.W.Frag) (gl : Nat → D) (ps : List Pd) (q : Str × GI) : Bool := match q.2 with
  | .free => He.eqO (PySem.W.nsIn K mainGlobals q.1) (some none)
  | .bt id => He.eqO (PySem.W.nsIn K mainGlobals q.1) (some (some (.builtin id)))
  | .cst g => match PySem.W.nsIn K mainGlobals q.1 with | some (some u) => datB K (gl g) u | _ => false
  | .fn i => match ps[i]? with | some p => He.eqO (PySem.W.nsIn K mainGlobals q.1) (some (some (.ref (He.fAd K p.d.at_)))) | none => false
  | .other => true
theorem mem_of_look {α : Type} : ∀ {l : List (Str × α)} {x : Str} {g : α}, l.lookup x = some g → (x, g) ∈ l
  | (y, h) :: r, x, g, e => by
    rw [List.lookup_cons] at e
    cases q : x == y with
    | true =>
      rw [q] at e
      cases e
      rw [eq_of_beq q]
      exact List.mem_cons_self
    | false =>
      rw [q] at e
      exact List.mem_cons_of_mem _ (mem_of_look e)
theorem glB_ok {K : PySem.W.Frag} {mg : Str → Option Value} {h : Heap} {gl : Nat → D} {ps : List Pd} {G : List (Str × GI)} (X : K.In h) (N : h.Ns mainGlobals mg) (c : G.all (glB K gl ps) = true) : GlOk K mg gl ps G := by
  intro x g hx
  have q := List.all_eq_true.mp c (x, g) (mem_of_look hx)
  cases g with
  | free => exact PySem.W.mg_none_of X N (He.eqO_ok q)
  | bt id => exact PySem.W.mg_of X N (He.eqO_ok q)
  | other => trivial
  | cst g =>
    simp only [glB] at q
    split at q
    · rename_i u e
      obtain ⟨v, r, k⟩ := datB_ok _ _ q
      exact ⟨u, v, PySem.W.mg_of X N e, r, k⟩
    · cases q
  | fn i =>
    simp only [glB] at q
    split at q
    · rename_i p e
      exact ⟨p, e, PySem.W.mg_of X N (He.eqO_ok q)⟩
    · cases q
abbrev AlX : Type := Bool × He.AlD
def obsX (gl : Nat → D) (ps : List Pd) (G : List (Str × GI)) (K : PySem.W.Frag) : AlX := (G.all (glB K gl ps), He.obsD [] (ps.map (·.d)) K)
def valX (ps : List Pd) : AlX := (true, He.valD (ps.map (·.d)))
def SaysX (gl : Nat → D) (ps : List Pd) (G : List (Str × GI)) (K : PySem.W.Frag) : Prop := obsX gl ps G K = valX ps
def obsXG (n : Nat) (gl : Nat → D) (ps : List Pd) (G : List (Str × GI)) (g : Addr → Option Obj) : AlX := obsX gl ps G (He.frG g (He.asD g n))
def hookX (n : Nat) (gl : Nat → D) (ps : List Pd) (G : List (Str × GI)) : PySem.W.Hook where
  α := AlX
  obs := fun s => obsXG n gl ps G s.heap.get?
  val := fun _ => valX ps
  says := fun _ h => ∃ K : PySem.W.Frag, K.In h ∧ SaysX gl ps G K
  of := fun _ _ e => ⟨_, He.frG_in, e⟩
  keeps := fun _ _ _ ⟨K, hK, c⟩ k => ⟨K, PySem.W.Frag.In.keeps hK k, c⟩
theorem obsXG_eq {n : Nat} {gl : Nat → D} {ps : List Pd} {G : List (Str × GI)} {g : Addr → Option Obj} {s : Shared} (h : ∀ a, g a = s.heap.get? a) : obsXG n gl ps G g = (hookX n gl ps G).obs s := by
  have e : g = s.heap.get? := funext h
  rw [e] <;> rfl
/-- all that the walk wants -/
theorem facts {P : Program} {w : World} {K : PySem.W.Frag} {mg : Str → Option Value} {h : Heap} {gl : Nat → D} {ps : List Pd} {G : List (Str × GI)} {n li : Nat} {pl : Pd} (X : K.In h) (N : h.Ns mainGlobals mg) (c : SaysX gl ps G K) (hok : ps.all (fun p => p.ok G) = true)
    (hB : ∀ (i : Nat) (p : Pd), ps[i]? = some p → ∀ fd, FunD K p.d.name p.d.qual p.d.params p.d.body p.d.scope [] [] (He.fAd K p.d.at_) fd → Binds K fd p.ps []) (hl : ps[li]? = some pl) :
    ∃ fd : FuncData, FunD K pl.d.name pl.d.qual pl.d.params pl.d.body pl.d.scope [] [] (He.fAd K pl.d.at_) fd ∧ ∀ base : Heap, K.In base → base.Ns mainGlobals mg → FnOk P w K mg base CX0 n (He.fAd K pl.d.at_) fd pl.ps (spD K (call gl (ps.map (·.fd)) n li)) := by
  have c1 : G.all (glB K gl ps) = true := congrArg (fun z : AlX => z.1) c
  have c2 : He.SaysD [] (ps.map (·.d)) K := congrArg (fun z : AlX => z.2) c
  have hk : ∀ p ∈ ps, p.ok G = true := List.all_eq_true.mp hok
  have emp : ∀ p ∈ ps, p.d.dvs K = [] ∧ p.d.kws K = [] := fun p hp => by
    have q := hk p hp
    unfold Pd.ok at q
    simp only [Bool.and_eq_true] at q
    obtain ⟨_, _, _, _, _, _, _, _, q1, q2, _⟩ := q
    unfold He.DefD.dvs He.DefD.kws
    rw [List.isEmpty_iff.mp q1, List.isEmpty_iff.mp q2]
    exact ⟨rfl, rfl⟩
  have ex : ∀ i : Nat, ∃ fd : FuncData, ∀ p : Pd, ps[i]? = some p → FunD K p.d.name p.d.qual p.d.params p.d.body p.d.scope (p.d.dvs K) (p.d.kws K) (He.fAd K p.d.at_) fd := fun i => by
    cases e : ps[i]? with
    | none => exact ⟨PySem.W.fnOf "" "" ⟨[], [], none, [], [], none, []⟩ [] ⟨.function, [], false, false, []⟩ .none .none .none .none none .none .none, fun p hp => by cases hp⟩
    | some p =>
      obtain ⟨fd, F⟩ := c2.def_ i (d := p.d) (by rw [List.getElem?_map, e]; rfl)
      exact ⟨fd, fun p' hp => by cases hp; exact F⟩
  let fds := fun i => Classical.choose (ex i)
  have hF : ∀ (i : Nat) (p : Pd), ps[i]? = some p → FunD K p.d.name p.d.qual p.d.params p.d.body p.d.scope (p.d.dvs K) (p.d.kws K) (He.fAd K p.d.at_) (fds i) := fun i p hp => Classical.choose_spec (ex i) p hp
  have F := hF li pl hl
  obtain ⟨e1, e2⟩ := emp pl (List.mem_of_getElem? hl)
  rw [e1, e2] at F
  refine ⟨fds li, F, fun base _ _ => fns_ok (glB_ok X N c1) hk hF (fun i p hp => ?_) n li pl hl⟩
  have F' := hF i p hp
  obtain ⟨e1, e2⟩ := emp p (List.mem_of_getElem? hp)
  rw [e1, e2] at F'
  exact hB i p hp _ F'
end Dl
end

section
set_option Elab.async false
set_option linter.all false
namespace K01
open PySem PySem.Spec L2 Dl
theorem runs : LawRuns gl fds 100 f_law := fun ns hn => (law_wq (n := 90) hn).out
end K01
end

set_option Elab.async false
set_option linter.all false
set_option maxRecDepth 100000
set_option maxHeartbeats 4000000
namespace K01
open PySem PySem.Spec PyProof.Rows L2 Dl
abbrev PW : PySem.Program := PySem.Challenge.pw_idealstold_k01_judge_of_orders
def topS (i : Nat) : Stmt := PW.main.body.getD i (.Pass ⟨0, 0, 0, 0⟩)
def p_has_rank : Pd := ⟨⟨("has_rank", none), "has_rank", "has_rank", defArgs (topS 2), defBody (topS 2), defScope (topS 2), [], []⟩, ["rows", "left", "column", "pivot", "index", "factor", "top", "row", "one", "two"], d_has_rank⟩
def p_first_weight : Pd := ⟨⟨("first_weight", none), "first_weight", "first_weight", defArgs (topS 3), defBody (topS 3), defScope (topS 3), [], []⟩, ["rows", "index", "row"], d_first_weight⟩
def p_are_weights : Pd := ⟨⟨("are_weights", none), "are_weights", "are_weights", defArgs (topS 4), defBody (topS 4), defScope (topS 4), [], []⟩, ["thing", "many", "row", "one", "index"], d_are_weights⟩
def p_are_indexes : Pd := ⟨⟨("are_indexes", none), "are_indexes", "are_indexes", defArgs (topS 5), defBody (topS 5), defScope (topS 5), [], []⟩, ["thing", "many", "one", "place"], d_are_indexes⟩
def p_is_order : Pd := ⟨⟨("is_order", none), "is_order", "is_order", defArgs (topS 6), defBody (topS 6), defScope (topS 6), [], []⟩, ["many", "order"], d_is_order⟩
def p__law_draws : Pd := ⟨⟨("_law_draws", none), "_law_draws", "_law_draws", defArgs (topS 8), defBody (topS 8), defScope (topS 8), [], []⟩, ["script", "many", "cells", "left", "draws", "k", "place", "mixed", "cell"], d__law_draws⟩
def p__law_take : Pd := ⟨⟨("_law_take", none), "_law_take", "_law_take", defArgs (topS 9), defBody (topS 9), defScope (topS 9), [], []⟩, ["draws", "many"], d__law_take⟩
def p__law_pick : Pd := ⟨⟨("_law_pick", none), "_law_pick", "_law_pick", defArgs (topS 10), defBody (topS 10), defScope (topS 10), [], []⟩, ["draws", "row"], d__law_pick⟩
def p__law_same : Pd := ⟨⟨("_law_same", none), "_law_same", "_law_same", defArgs (topS 11), defBody (topS 11), defScope (topS 11), [], []⟩, ["actual", "due", "k"], d__law_same⟩
def p__law_shuffled : Pd := ⟨⟨("_law_shuffled", none), "_law_shuffled", "_law_shuffled", defArgs (topS 12), defBody (topS 12), defScope (topS 12), [], []⟩, ["draws", "row", "left", "told", "k"], d__law_shuffled⟩
def p__law_is_int : Pd := ⟨⟨("_law_is_int", none), "_law_is_int", "_law_is_int", defArgs (topS 13), defBody (topS 13), defScope (topS 13), [], []⟩, ["thing"], d__law_is_int⟩
def p__law_is_index : Pd := ⟨⟨("_law_is_index", none), "_law_is_index", "_law_is_index", defArgs (topS 14), defBody (topS 14), defScope (topS 14), [], []⟩, ["thing", "many"], d__law_is_index⟩
def p__law_gcd : Pd := ⟨⟨("_law_gcd", none), "_law_gcd", "_law_gcd", defArgs (topS 15), defBody (topS 15), defScope (topS 15), [], []⟩, ["one", "other", "a", "b", "k", "c"], d__law_gcd⟩
def p__law_frac : Pd := ⟨⟨("_law_frac", none), "_law_frac", "_law_frac", defArgs (topS 16), defBody (topS 16), defScope (topS 16), [], []⟩, ["n", "d", "c"], d__law_frac⟩
def p__law_minus : Pd := ⟨⟨("_law_minus", none), "_law_minus", "_law_minus", defArgs (topS 17), defBody (topS 17), defScope (topS 17), [], []⟩, ["one", "other"], d__law_minus⟩
def p__law_product : Pd := ⟨⟨("_law_product", none), "_law_product", "_law_product", defArgs (topS 18), defBody (topS 18), defScope (topS 18), [], []⟩, ["one", "other"], d__law_product⟩
def p__law_quotient : Pd := ⟨⟨("_law_quotient", none), "_law_quotient", "_law_quotient", defArgs (topS 19), defBody (topS 19), defScope (topS 19), [], []⟩, ["one", "other"], d__law_quotient⟩
def p__law_order : Pd := ⟨⟨("_law_order", none), "_law_order", "_law_order", defArgs (topS 20), defBody (topS 20), defScope (topS 20), [], []⟩, ["draws", "many", "word", "first", "lone", "rows", "k", "sign", "j"], d__law_order⟩
def p__law_spoilt : Pd := ⟨⟨("_law_spoilt", none), "_law_spoilt", "_law_spoilt", defArgs (topS 21), defBody (topS 21), defScope (topS 21), [], []⟩, ["draws", "thing", "path", "here", "step", "k", "new", "whole"], d__law_spoilt⟩
def p__law_are_free : Pd := ⟨⟨("_law_are_free", none), "_law_are_free", "_law_are_free", defArgs (topS 22), defBody (topS 22), defScope (topS 22), [], []⟩, ["rows", "left", "k", "some", "found", "row", "part", "one", "j"], d__law_are_free⟩
def p__law_are_rows : Pd := ⟨⟨("_law_are_rows", none), "_law_are_rows", "_law_are_rows", defArgs (topS 23), defBody (topS 23), defScope (topS 23), [], []⟩, ["many", "rows", "row", "k", "one"], d__law_are_rows⟩
def p__law_is_order : Pd := ⟨⟨("_law_is_order", none), "_law_is_order", "_law_is_order", defArgs (topS 24), defBody (topS 24), defScope (topS 24), [], []⟩, ["many", "thing", "one", "k"], d__law_is_order⟩
def p__law_drawn_rows : Pd := ⟨⟨("_law_drawn_rows", none), "_law_drawn_rows", "_law_drawn_rows", defArgs (topS 25), defBody (topS 25), defScope (topS 25), [], []⟩, ["draws", "many", "k", "j"], d__law_drawn_rows⟩
def p__law_has_none : Pd := ⟨⟨("_law_has_none", none), "_law_has_none", "_law_has_none", defArgs (topS 26), defBody (topS 26), defScope (topS 26), [], []⟩, ["thing", "left", "step", "here"], d__law_has_none⟩
def p_law : Pd := ⟨⟨("law", none), "law", "law", defArgs (topS 27), defBody (topS 27), defScope (topS 27), [], []⟩, ["script", "draws", "turn", "many", "order", "words", "things", "thing", "units", "rows", "k", "j", "row", "one"], d_law⟩
def pds : List Pd := [p_has_rank, p_first_weight, p_are_weights, p_are_indexes, p_is_order, p__law_draws, p__law_take, p__law_pick, p__law_same, p__law_shuffled, p__law_is_int, p__law_is_index, p__law_gcd, p__law_frac, p__law_minus, p__law_product, p__law_quotient, p__law_order, p__law_spoilt, p__law_are_free, p__law_are_rows, p__law_is_order, p__law_drawn_rows, p__law_has_none, p_law]
def GG : List (PySem.Str × GI) := [(("PLAIN_ORDERS" : PySem.Str), (.cst 0 : GI)), (("_law_are_free" : PySem.Str), (.fn f__law_are_free : GI)), (("_law_are_rows" : PySem.Str), (.fn f__law_are_rows : GI)), (("_law_drawn_rows" : PySem.Str), (.fn f__law_drawn_rows : GI)), (("_law_draws" : PySem.Str), (.fn f__law_draws : GI)), (("_law_frac" : PySem.Str), (.fn f__law_frac : GI)), (("_law_gcd" : PySem.Str), (.fn f__law_gcd : GI)), (("_law_has_none" : PySem.Str), (.fn f__law_has_none : GI)), (("_law_is_index" : PySem.Str), (.fn f__law_is_index : GI)), (("_law_is_int" : PySem.Str), (.fn f__law_is_int : GI)), (("_law_is_order" : PySem.Str), (.fn f__law_is_order : GI)), (("_law_minus" : PySem.Str), (.fn f__law_minus : GI)), (("_law_order" : PySem.Str), (.fn f__law_order : GI)), (("_law_pick" : PySem.Str), (.fn f__law_pick : GI)), (("_law_product" : PySem.Str), (.fn f__law_product : GI)), (("_law_quotient" : PySem.Str), (.fn f__law_quotient : GI)), (("_law_same" : PySem.Str), (.fn f__law_same : GI)), (("_law_shuffled" : PySem.Str), (.fn f__law_shuffled : GI)), (("_law_spoilt" : PySem.Str), (.fn f__law_spoilt : GI)), (("_law_take" : PySem.Str), (.fn f__law_take : GI)), (("abs" : PySem.Str), (.free : GI)), (("all" : PySem.Str), (.free : GI)), (("are_indexes" : PySem.Str), (.fn f_are_indexes : GI)), (("are_weights" : PySem.Str), (.fn f_are_weights : GI)), (("bool" : PySem.Str), (.free : GI)), (("first_weight" : PySem.Str), (.fn f_first_weight : GI)), (("has_rank" : PySem.Str), (.fn f_has_rank : GI)), (("int" : PySem.Str), (.free : GI)), (("is_order" : PySem.Str), (.fn f_is_order : GI)), (("isinstance" : PySem.Str), (.free : GI)), (("law" : PySem.Str), (.fn f_law : GI)), (("len" : PySem.Str), (.free : GI)), (("list" : PySem.Str), (.free : GI)), (("max" : PySem.Str), (.free : GI)), (("range" : PySem.Str), (.free : GI)), (("str" : PySem.Str), (.free : GI)), (("tuple" : PySem.Str), (.free : GI)), (("zip" : PySem.Str), (.free : GI))]

theorem oks : pds.all (fun p => p.ok GG) = true := by decide +kernel
abbrev RWL : PySem.W.OpenLaw := PySem.Challenge.rw_idealstold_k01_judge_of_orders
abbrev R : PySem.W.OpenRow := PySem.W.OpenLaw.row RWL
abbrev hk : PySem.W.Hook := hookX 4 gl pds GG
def ob (s : PySem.W.SharedT) : AlX := obsXG 4 gl pds GG (HandSHeadRun.getT s)
theorem ob_eq (s : PySem.W.SharedT) : ob s = hk.obs s.abs := obsXG_eq (HandSHeadRun.getT_eq s)
def loose : List PySem.Str := ["has_rank", "first_weight", "are_weights", "are_indexes", "is_order", "_law_draws", "_law_take", "_law_pick", "_law_same", "_law_shuffled", "_law_is_int", "_law_is_index", "_law_gcd", "_law_frac", "_law_minus", "_law_product", "_law_quotient", "_law_order", "_law_spoilt", "_law_are_free", "_law_are_rows", "_law_is_order", "_law_drawn_rows", "_law_has_none", "PLAIN_ORDERS"]
theorem run (w : World) : HandSHeadRun.RunEq R (PySem.W.view R.prog [27]) hk ob 1520 loose w := by
  intro os
  kernel_rfl
theorem binds : ∀ (K : PySem.W.Frag) (i : Nat) (p : Pd), pds[i]? = some p → ∀ fd, FunD K p.d.name p.d.qual p.d.params p.d.body p.d.scope [] [] (He.fAd K p.d.at_) fd → Binds K fd p.ps [] := by
  intro K i p h fd F
  match i, h with
  | 0, h => cases h; exact F.bindsN fun _ _ _ _ _ _ us hl => match us, hl with | [_], _ => rfl
  | 1, h => cases h; exact F.bindsN fun _ _ _ _ _ _ us hl => match us, hl with | [_, _], _ => rfl
  | 2, h => cases h; exact F.bindsN fun _ _ _ _ _ _ us hl => match us, hl with | [_, _], _ => rfl
  | 3, h => cases h; exact F.bindsN fun _ _ _ _ _ _ us hl => match us, hl with | [_, _], _ => rfl
  | 4, h => cases h; exact F.bindsN fun _ _ _ _ _ _ us hl => match us, hl with | [_, _], _ => rfl
  | 5, h => cases h; exact F.bindsN fun _ _ _ _ _ _ us hl => match us, hl with | [_, _], _ => rfl
  | 6, h => cases h; exact F.bindsN fun _ _ _ _ _ _ us hl => match us, hl with | [_, _], _ => rfl
  | 7, h => cases h; exact F.bindsN fun _ _ _ _ _ _ us hl => match us, hl with | [_, _], _ => rfl
  | 8, h => cases h; exact F.bindsN fun _ _ _ _ _ _ us hl => match us, hl with | [_, _], _ => rfl
  | 9, h => cases h; exact F.bindsN fun _ _ _ _ _ _ us hl => match us, hl with | [_, _], _ => rfl
  | 10, h => cases h; exact F.bindsN fun _ _ _ _ _ _ us hl => match us, hl with | [_], _ => rfl
  | 11, h => cases h; exact F.bindsN fun _ _ _ _ _ _ us hl => match us, hl with | [_, _], _ => rfl
  | 12, h => cases h; exact F.bindsN fun _ _ _ _ _ _ us hl => match us, hl with | [_, _], _ => rfl
  | 13, h => cases h; exact F.bindsN fun _ _ _ _ _ _ us hl => match us, hl with | [_, _], _ => rfl
  | 14, h => cases h; exact F.bindsN fun _ _ _ _ _ _ us hl => match us, hl with | [_, _], _ => rfl
  | 15, h => cases h; exact F.bindsN fun _ _ _ _ _ _ us hl => match us, hl with | [_, _], _ => rfl
  | 16, h => cases h; exact F.bindsN fun _ _ _ _ _ _ us hl => match us, hl with | [_, _], _ => rfl
  | 17, h => cases h; exact F.bindsN fun _ _ _ _ _ _ us hl => match us, hl with | [_, _], _ => rfl
  | 18, h => cases h; exact F.bindsN fun _ _ _ _ _ _ us hl => match us, hl with | [_, _], _ => rfl
  | 19, h => cases h; exact F.bindsN fun _ _ _ _ _ _ us hl => match us, hl with | [_], _ => rfl
  | 20, h => cases h; exact F.bindsN fun _ _ _ _ _ _ us hl => match us, hl with | [_, _], _ => rfl
  | 21, h => cases h; exact F.bindsN fun _ _ _ _ _ _ us hl => match us, hl with | [_, _], _ => rfl
  | 22, h => cases h; exact F.bindsN fun _ _ _ _ _ _ us hl => match us, hl with | [_, _], _ => rfl
  | 23, h => cases h; exact F.bindsN fun _ _ _ _ _ _ us hl => match us, hl with | [_], _ => rfl
  | 24, h => cases h; exact F.bindsN fun _ _ _ _ _ _ us hl => match us, hl with | [_], _ => rfl
  | i + 25, h => cases h
end K01

open PySem PySem.W PySem.Calls PyProof.Rows
set_option maxHeartbeats 0 in
theorem PySem.Challenge.cw_idealstold_k01_judge_of_orders_holds : PySem.Challenge.rw_idealstold_k01_judge_of_orders.Holds := by
  w_on; o_law
  refine HandSHeadRun.head_any (r := OpenLaw.row PySem.Challenge.rw_idealstold_k01_judge_of_orders) (q := view (OpenLaw.row PySem.Challenge.rw_idealstold_k01_judge_of_orders).prog [27]) (H := K01.hk) (ob := K01.ob) (M := 1520) (loose := K01.loose) (d := HandSHeadRun.topDef (OpenLaw.row PySem.Challenge.rw_idealstold_k01_judge_of_orders).prog 27) (kwd := []) K01.ob_eq
    (by kernel_rfl) (fun s => by kernel_rfl) K01.run (by kernel_rfl) (by kernel_rfl) (by kernel_rfl) (by rfl) (by first | assumption | decide +kernel) (by decide +kernel) ⟨rfl, rfl, rfl, rfl, rfl, by decide +kernel⟩ ?hw ?hc
  case hw => w_witness2
  case hc =>
    refine L2.walk_ofE (l := PySem.Challenge.rw_idealstold_k01_judge_of_orders) (n := 63) (k := 100) (x := "script") (CX := L2.CX0) rfl (by decide) (by kernel_rfl) ⟨rfl, by decide, by decide⟩ ?F (fun _ _ _ _ z => z)
    intro w mg fa h Y G hmg0
    obtain ⟨K, KX, c⟩ := Y
    have hmg : mg ("law" : PySem.Str) = some (.ref fa) := by
      have e : (HandSHeadRun.topDef (OpenLaw.row PySem.Challenge.rw_idealstold_k01_judge_of_orders).prog 27).name = ("law" : PySem.Str) := by kernel_rfl
      rw [← e]
      exact hmg0
    obtain ⟨fd, F, hF⟩ := Dl.facts (P := (PySem.Challenge.rw_idealstold_k01_judge_of_orders).prog) (w := w) (n := 100) (li := 24) (pl := K01.p_law) KX G c K01.oks (K01.binds K) rfl
    have hfa : fa = He.fAd K ("law", none) := by
      have g := Dl.glB_ok KX G (congrArg (fun z : Dl.AlX => z.1) c) "law" (.fn 24) (by decide +kernel)
      obtain ⟨p, e1, e2⟩ := g
      have e3 : p = K01.p_law := (Option.some.inj (e1.symm.trans (show K01.pds[24]? = some K01.p_law from rfl)))
      subst e3
      rw [hmg] at e2
      exact (PySem.Value.ref.inj (Option.some.inj e2))
    subst hfa
    have b := L2.FunD.bindsA (ps := ["script"]) F fun _ _ _ _ _ _ us hl => match us, hl with | [_], _ => rfl
    refine ⟨K, fd, Dl.spD K (Dl.call K01.gl (K01.pds.map (fun p : Dl.Pd => p.fd)) 100 24), KX, fun s v => b s [v] rfl, fun H a ns hl ho hS => Dl.law_sp K01.runs H a ns hl ho hS, ?_⟩
    exact hF
